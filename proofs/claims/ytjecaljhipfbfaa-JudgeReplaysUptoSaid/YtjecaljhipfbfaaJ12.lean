/- JudgeReplays: a story replayed. -/
import Derived.Test.YtjecaljhipfbfaaJ10
namespace Go.Proofs.Ytjecaljhipfbfaa
open Go.Dbr
set_option maxRecDepth 100000
set_option maxHeartbeats 2000000
set_option linter.unusedVariables false
set_option linter.unusedSimpArgs false

theorem bys_max {w : World} {L : List Ent} (h : Heap w L) {k : Nat} {a : Option Addr} {cap : Nat} {l : List UInt8} {T : TypeId} (hk : L[k]? = some (.vec a cap 1 (bys l) T)) : l.length ≤ 9223372036854775807 := by
  have hh := h.holds k _ hk
  cases a with
  | none => have h2 := bys_vnz h hk rfl; omega
  | some ad =>
    have h2 := hh.2.1
    have h3 := hh.2.2.1
    simp only [maxLen] at h2
    rw [bys_length] at h3
    omega
theorem sum_take {α : Type} (f : α → Nat) {l : List α} {k : Nat} {x : α} (h : l[k]? = some x) : (List.map f (List.take (k + 1) l)).sum = (List.map f (List.take k l)).sum + f x := by
  rw [List.take_add_one, h, List.map_append, List.sum_append]
  simp
theorem sum_take_le {α : Type} (f : α → Nat) (l : List α) (k : Nat) : (List.map f (List.take k l)).sum ≤ (List.map f l).sum := by
  conv => rhs; rw [← List.take_append_drop k l, List.map_append, List.sum_append]
  omega
theorem Rel.len {R : Rel} (h : R.ok) : R.up.length + R.br.length = R.hdr.length + R.fw.length ∧ R.down.length + R.fr.length = R.bw.length := by
  obtain ⟨h1, h2, _, _⟩ := h
  have a := congrArg List.length h1
  have b := congrArg List.length h2
  simp only [List.length_append] at a b
  omega
theorem sum_step {α : Type} (f : α → Nat) {l : List α} {k : Nat} {x : α} (h : l[k]? = some x) : (List.map f (List.take k l)).sum + f x ≤ (List.map f l).sum := by
  rw [← sum_take f h]
  exact sum_take_le f l (k + 1)
def Rel.size (R : Rel) : Nat := R.hdr.length + R.fw.length + R.bw.length
theorem Rel.size_write (R : Rel) (s : Int) (b : List UInt8) : (R.write s b).size ≤ R.size + b.length := by
  unfold Rel.write Rel.size
  split <;> (try split) <;> (try split) <;> simp <;> omega
theorem Rel.size_close (R : Rel) (s : Int) : (R.close s).size = R.size := by
  unfold Rel.close Rel.size
  split <;> (try split) <;> rfl
theorem Rel.size_read (R : Rel) (s n : Int) : (R.read s n).size = R.size := by
  unfold Rel.read Rel.size
  split <;> (try split) <;> rfl
theorem Rel.sizes {a1 a2 a3 a4 a5 a6 a7 : List UInt8} {b1 b2 b3 b4 : Bool} (h : Rel.ok ⟨a1, a2, a3, a4, a5, b1, b2, a6, a7, b3, b4⟩) {n : Nat} (hn : Rel.size ⟨a1, a2, a3, a4, a5, b1, b2, a6, a7, b3, b4⟩ ≤ n) :
    a1.length + a2.length + a3.length + a4.length + a5.length + a6.length + a7.length ≤ 3 * n := by
  have := Rel.len h
  unfold Rel.size at hn
  simp only at this hn
  omega

def Rel.of (h fw fr : List UInt8) (fc fe : Bool) (bw br : List UInt8) (bc be : Bool) : Rel := ⟨(h ++ fw).drop br.length, bw.drop fr.length, h, fw, fr, fc, fe, bw, br, bc, be⟩
theorem begins_split {a b : List UInt8} (h : begins a b = true) : b = a ++ b.drop a.length := by
  unfold begins at h
  simp only [Bool.and_eq_true, beq_iff_eq] at h
  conv => lhs; rw [← List.take_append_drop a.length b]
  rw [← h.2]
theorem Rel.ok_of {h fw fr : List UInt8} {fc fe : Bool} {bw br : List UInt8} {bc be : Bool} (e : relayF h fw fr fc fe bw br bc be = 0) : (Rel.of h fw fr fc fe bw br bc be).ok := by
  unfold relayF at e
  split at e
  · omega
  · split at e
    · omega
    · split at e
      · omega
      · split at e
        · omega
        · rename_i h1 h2 h3 h4
          have a1 := begins_split (a := br) (b := h ++ fw) (by simpa using h1)
          have a2 := begins_split (a := fr) (b := bw) (by simpa using h2)
          refine ⟨a1, a2, fun hb => ?_, fun hb => ?_⟩
          · have hb' : be = true := hb
            have h5 : fc = true ∧ br.length = (h ++ fw).length := Classical.byContradiction fun hn => h3 ⟨hb', hn⟩
            exact ⟨h5.1, by show (h ++ fw).drop br.length = []; rw [h5.2]; simp⟩
          · have hb' : fe = true := hb
            have h5 : bc = true ∧ fr.length = bw.length := Classical.byContradiction fun hn => h4 ⟨hb', hn⟩
            exact ⟨h5.1, by show bw.drop fr.length = []; rw [h5.2]; simp⟩
theorem Rel.tail_out {R : Rel} (more : List UInt8) (hm : R.fc = true → more = []) {n : Int} (hn : ((R.up.length + more.length : Nat) : Int) ≤ n) : Rel.out (R.write 1 more) 2 n = R.up ++ more := by
  have key : (R.write 1 more).up = R.up ++ more := by
    unfold Rel.write
    rw [if_pos rfl]
    split
    · rename_i hc; rw [hm hc]; simp
    · rfl
  unfold Rel.out
  rw [if_neg (by decide), if_pos rfl, key]
  have : clampN n (R.up ++ more).length = (R.up ++ more).length := by unfold clampN; rw [List.length_append]; omega
  rw [this, List.take_length]
theorem Rel.tail_end {R : Rel} (ok : R.ok) (more : List UInt8) (hm : R.fc = true → more = []) {n : Int} (hn : ((R.up.length + more.length : Nat) : Int) ≤ n) : ((R.write 1 more).read 2 n).be = R.fc := by
  have key : (R.write 1 more).up = R.up ++ more ∧ (R.write 1 more).fc = R.fc ∧ (R.write 1 more).be = R.be := by
    unfold Rel.write
    rw [if_pos rfl]
    split
    · rename_i hc; rw [hm hc]; simp
    · exact ⟨rfl, rfl, rfl⟩
  unfold Rel.read
  rw [if_neg (by decide), if_pos rfl]
  simp only [key.1, key.2.1, key.2.2]
  have : clampN n (R.up ++ more).length = (R.up ++ more).length := by unfold clampN; rw [List.length_append]; omega
  rw [this, List.drop_length]
  cases hb : R.be
  · simp
  · simp [(ok.2.2.1 hb).1]

theorem replay_nil (w : World) (ah : Option Addr) (nh ch : Nat) (lh : List UInt8) (eh : nh = List.length lh) (ih : InB w [] ah ch lh) (ap : Option Addr) (np cp : Nat) (lp : List UInt8) (ep : np = List.length lp) (ip : InB w [] ap cp lp) (aq : Option Addr) (nq cq : Nat) (lq : List UInt8) (eq : nq = List.length lq) (iq : InB w [] aq cq lq) (fc : Bool) (fe : Bool) (ar : Option Addr) (nr cr : Nat) (lr : List UInt8) (er : nr = List.length lr) (ir : InB w [] ar cr lr) (av : Option Addr) (nv cv : Nat) (lv : List UInt8) (ev : nv = List.length lv) (iv : InB w [] av cv lv) (bc : Bool) (be : Bool) (hT : List.length lh + List.length lp ≤ 140737488351232) (hne : ¬ relayF lh lp lq fc fe lr lv bc be = 0) : Calls Try.prog 27 #[.agg #[.slice ah nh ch, .slice ap np cp, .slice aq nq cq, .bool fc, .bool fe, .slice ar nr cr, .slice av nv cv, .bool bc, .bool be]] w fun e w' => e = .returned (.pointer none) ∧ Ev w [] w' [] := by
  subst eh ep eq er ev
  have sh := ih.small
  have sp := ip.small
  have sq := iq.small
  have sr := ir.small
  have sv := iv.small
  have ch_ := ih.cap
  have cp_ := ip.cap
  have cq_ := iq.cap
  have cr_ := ir.cap
  have cv_ := iv.cap
  refine d_start [(0, .agg #[.slice ah (List.length lh) ch, .slice ap (List.length lp) cp, .slice aq (List.length lq) cq, .bool fc, .bool fe, .slice ar (List.length lr) cr, .slice av (List.length lv) cv, .bool bc, .bool be])] 50 Go.Proofs.Try.func27 Go.Proofs.Try.ntmps27 rfl (by kernel_rfl) (by kernel_rfl) ?_
  intro act0 En0
  have Hv0 : Ev w [] w [] := Ev.refl (Heap.nil _)
  refine wp_seq ?_
  refine region_from ?_  -- region 0
  refine from_op (by kernel_rfl) ?_
  refine op_newbox (d := some 1) (T := 26) (v := .agg #[.slice ah (List.length lh) ch, .slice ap (List.length lp) cp, .slice aq (List.length lq) cq, .bool fc, .bool fe, .slice ar (List.length lr) cr, .slice av (List.length lv) cv, .bool bc, .bool be]) (cs := [.slice ah (List.length lh) ch, .slice ap (List.length lp) cp, .slice aq (List.length lq) cq, .bool fc, .bool fe, .slice ar (List.length lr) cr, .slice av (List.length lv) cv, .bool bc, .bool be]) En0 (by kernel_rfl) rfl Hv0 ?_
  intro ac2 wo3 bk1 En4 Hv5
  refine d_pures [(1, .pointer (some ⟨bk1, 0, none⟩)), (2, .pointer none)] [.pointer none] 2 En4 (by kernel_rfl) (by kernel_rfl) rfl ?_
  intro ac6 En7
  refine from_end (by kernel_rfl) ?_
  refine then_normal ?_
  refine wp_seq ?_
  refine wp_seq ?_
  refine region_from ?_  -- region 1
  refine from_op (by kernel_rfl) ?_
  refine op_loadaggbox (d := some 4) (t := 26) (b := bk1) (off := 0) (k := 0) (m := 9) (xs := [.slice ah (List.length lh) ch, .slice ap (List.length lp) cp, .slice aq (List.length lq) cq, .bool fc, .bool fe, .slice ar (List.length lr) cr, .slice av (List.length lv) cv, .bool bc, .bool be]) En7 (by kernel_rfl) Hv5 rfl rfl rfl (by kernel_rfl) (by kernel_rfl) ?_
  intro ac8 En9
  refine from_op (by kernel_rfl) ?_
  have hM10 : Heap wo3 [] := Hv5.heap.pick [] (by kernel_rfl) (by decide)
  refine op_call (d := some 5) (f := 9) (args := #[.agg #[.slice ah (List.length lh) ch, .slice ap (List.length lp) cp, .slice aq (List.length lq) cq, .bool fc, .bool fe, .slice ar (List.length lr) cr, .slice av (List.length lv) cv, .bool bc, .bool be]]) En9 (by kernel_rfl) ((relay_go _ ah (List.length lh) ch lh (by first | rfl | (simp; done) | (simp; omega) | omega) ((ih.ev Hv5).pick [] (by kernel_rfl)) ap (List.length lp) cp lp (by first | rfl | (simp; done) | (simp; omega) | omega) ((ip.ev Hv5).pick [] (by kernel_rfl)) aq (List.length lq) cq lq (by first | rfl | (simp; done) | (simp; omega) | omega) ((iq.ev Hv5).pick [] (by kernel_rfl)) fc fe ar (List.length lr) cr lr (by first | rfl | (simp; done) | (simp; omega) | omega) ((ir.ev Hv5).pick [] (by kernel_rfl)) av (List.length lv) cv lv (by first | rfl | (simp; done) | (simp; omega) | omega) ((iv.ev Hv5).pick [] (by kernel_rfl)) bc be (by first | omega | (simp; done) | (simp; omega))).mono ?_)
  rintro _ wo12 ⟨rfl, he15⟩
  refine ⟨_, rfl, ?_⟩
  intro ac11 En13
  have Hv14 : Ev w [] wo12 [.box bk1 [.slice ah (List.length lh) ch, .slice ap (List.length lp) cp, .slice aq (List.length lq) cq, .bool fc, .bool fe, .slice ar (List.length lr) cr, .slice av (List.length lv) cv, .bool bc, .bool be] 26] := Hv5.trans (Ev.call (R := [.box bk1 [.slice ah (List.length lh) ch, .slice ap (List.length lp) cp, .slice aq (List.length lq) cq, .bool fc, .bool fe, .slice ar (List.length lr) cr, .slice av (List.length lv) cv, .bool bc, .bool be] 26]) Hv5.heap [0] (by kernel_rfl) (by decide) he15)
  clear hM10 he15
  refine d_pures [(1, .pointer (some ⟨bk1, 0, none⟩)), (2, .pointer none), (6, .bool (relayF lh lp lq fc fe lr lv bc be != (0 : Int)))] [.bool (relayF lh lp lq fc fe lr lv bc be != (0 : Int))] 3 En13 (by kernel_rfl) (by kernel_rfl) rfl ?_
  intro ac16 En17
  rw [show (relayF lh lp lq fc fe lr lv bc be != (0 : Int)) = true from (by rw [bne_iff_ne]; exact hne)] at En17
  refine from_end (by kernel_rfl) ?_
  refine then_normal ?_
  refine cond_true En17 (t := true) (by kernel_rfl) rfl ?_
  refine wp_seq ?_
  refine region_from ?_  -- region 2
  refine d_pures [(1, .pointer (some ⟨bk1, 0, none⟩)), (2, .pointer none)] [.pointer none] 1 En17 (by kernel_rfl) (by kernel_rfl) rfl ?_
  intro ac18 En19
  refine from_end (by kernel_rfl) ?_
  refine then_normal ?_
  refine wp_ret ?_
  refine then_ret ?_
  refine d_ret1 (t := 2) (v := .pointer none) En19 (by kernel_rfl) (by kernel_rfl) ?_
  exact ⟨rfl, Hv14.pick [] (by kernel_rfl) (by decide)⟩

theorem begins_le {a b : List UInt8} (h : begins a b = true) : a.length ≤ b.length := by unfold begins at h; simp only [Bool.and_eq_true, decide_eq_true_eq] at h; exact h.1
theorem begins_le_a {h fw fr : List UInt8} {fc fe : Bool} {bw br : List UInt8} {bc be : Bool} (e : relayF h fw fr fc fe bw br bc be = 0) : br.length ≤ (h ++ fw).length := by
  have := Rel.ok_of e
  have h1 := Rel.len this
  simp only [Rel.of] at h1
  have h2 := this.1
  have h3 := congrArg List.length h2
  simp only [Rel.of, List.length_append, List.length_drop] at h1 h3 ⊢
  omega
theorem begins_le_b {h fw fr : List UInt8} {fc fe : Bool} {bw br : List UInt8} {bc be : Bool} (e : relayF h fw fr fc fe bw br bc be = 0) : fr.length ≤ bw.length := by
  have := Rel.ok_of e
  have h3 := congrArg List.length this.2.1
  simp only [Rel.of, List.length_append, List.length_drop] at h3 ⊢
  omega

theorem replay_go (w : World) (ah : Option Addr) (nh ch : Nat) (lh : List UInt8) (eh : nh = List.length lh) (ih : InB w [] ah ch lh) (ap : Option Addr) (np cp : Nat) (lp : List UInt8) (ep : np = List.length lp) (ip : InB w [] ap cp lp) (aq : Option Addr) (nq cq : Nat) (lq : List UInt8) (eq : nq = List.length lq) (iq : InB w [] aq cq lq) (fc : Bool) (fe : Bool) (ar : Option Addr) (nr cr : Nat) (lr : List UInt8) (er : nr = List.length lr) (ir : InB w [] ar cr lr) (av : Option Addr) (nv cv : Nat) (lv : List UInt8) (ev : nv = List.length lv) (iv : InB w [] av cv lv) (bc : Bool) (be : Bool) (hT : List.length lh + List.length lp ≤ 140737488351232) (heq : relayF lh lp lq fc fe lr lv bc be = 0) : Calls Try.prog 27 #[.agg #[.slice ah nh ch, .slice ap np cp, .slice aq nq cq, .bool fc, .bool fe, .slice ar nr cr, .slice av nv cv, .bool bc, .bool be]] w fun e w' => ∃ b au ad ah9 ap9 aq9 ar9 av9 cu cd ch9 cp9 cq9 cr9 cv9, e = .returned (.pointer (some ⟨b, 0, none⟩)) ∧ Ev w [] w' [.box b [.slice au (List.length (List.drop (List.length lv) (lh ++ lp))) cu, .bool fc, .slice ad (List.length (List.drop (List.length lq) lr)) cd, .bool bc, .slice ah9 (List.length lh) ch9, .slice ap9 (List.length lp) cp9, .slice aq9 (List.length lq) cq9, .bool fc, .bool fe, .slice ar9 (List.length lr) cr9, .slice av9 (List.length lv) cv9, .bool bc, .bool be] 66, .vec au cu 1 (bys (List.drop (List.length lv) (lh ++ lp))) 5, .vec ad cd 1 (bys (List.drop (List.length lq) lr)) 5, .vec ah9 ch9 1 (bys lh) 5, .vec ap9 cp9 1 (bys lp) 5, .vec aq9 cq9 1 (bys lq) 5, .vec ar9 cr9 1 (bys lr) 5, .vec av9 cv9 1 (bys lv) 5] := by
  subst eh ep eq er ev
  have sh := ih.small
  have sp := ip.small
  have sq := iq.small
  have sr := ir.small
  have sv := iv.small
  have ch_ := ih.cap
  have cp_ := ip.cap
  have cq_ := iq.cap
  have cr_ := ir.cap
  have cv_ := iv.cap
  have hra := begins_le_a heq
  have hrb := begins_le_b heq
  simp only [List.length_append] at hra
  have hla : (lh ++ lp).length = lh.length + lp.length := List.length_append
  refine d_start [(0, .agg #[.slice ah (List.length lh) ch, .slice ap (List.length lp) cp, .slice aq (List.length lq) cq, .bool fc, .bool fe, .slice ar (List.length lr) cr, .slice av (List.length lv) cv, .bool bc, .bool be])] 50 Go.Proofs.Try.func27 Go.Proofs.Try.ntmps27 rfl (by kernel_rfl) (by kernel_rfl) ?_
  intro act0 En0
  have Hv0 : Ev w [] w [] := Ev.refl (Heap.nil _)
  refine wp_seq ?_
  refine region_from ?_  -- region 0
  refine from_op (by kernel_rfl) ?_
  refine op_newbox (d := some 1) (T := 26) (v := .agg #[.slice ah (List.length lh) ch, .slice ap (List.length lp) cp, .slice aq (List.length lq) cq, .bool fc, .bool fe, .slice ar (List.length lr) cr, .slice av (List.length lv) cv, .bool bc, .bool be]) (cs := [.slice ah (List.length lh) ch, .slice ap (List.length lp) cp, .slice aq (List.length lq) cq, .bool fc, .bool fe, .slice ar (List.length lr) cr, .slice av (List.length lv) cv, .bool bc, .bool be]) En0 (by kernel_rfl) rfl Hv0 ?_
  intro ac2 wo3 bk1 En4 Hv5
  refine d_pures [(1, .pointer (some ⟨bk1, 0, none⟩)), (2, .pointer none)] [.pointer none] 2 En4 (by kernel_rfl) (by kernel_rfl) rfl ?_
  intro ac6 En7
  refine from_end (by kernel_rfl) ?_
  refine then_normal ?_
  refine wp_seq ?_
  refine wp_seq ?_
  refine region_from ?_  -- region 1
  refine from_op (by kernel_rfl) ?_
  refine op_loadaggbox (d := some 4) (t := 26) (b := bk1) (off := 0) (k := 0) (m := 9) (xs := [.slice ah (List.length lh) ch, .slice ap (List.length lp) cp, .slice aq (List.length lq) cq, .bool fc, .bool fe, .slice ar (List.length lr) cr, .slice av (List.length lv) cv, .bool bc, .bool be]) En7 (by kernel_rfl) Hv5 rfl rfl rfl (by kernel_rfl) (by kernel_rfl) ?_
  intro ac8 En9
  refine from_op (by kernel_rfl) ?_
  have hM10 : Heap wo3 [] := Hv5.heap.pick [] (by kernel_rfl) (by decide)
  refine op_call (d := some 5) (f := 9) (args := #[.agg #[.slice ah (List.length lh) ch, .slice ap (List.length lp) cp, .slice aq (List.length lq) cq, .bool fc, .bool fe, .slice ar (List.length lr) cr, .slice av (List.length lv) cv, .bool bc, .bool be]]) En9 (by kernel_rfl) ((relay_go _ ah (List.length lh) ch lh (by first | rfl | (simp; done) | (simp; omega) | omega) ((ih.ev Hv5).pick [] (by kernel_rfl)) ap (List.length lp) cp lp (by first | rfl | (simp; done) | (simp; omega) | omega) ((ip.ev Hv5).pick [] (by kernel_rfl)) aq (List.length lq) cq lq (by first | rfl | (simp; done) | (simp; omega) | omega) ((iq.ev Hv5).pick [] (by kernel_rfl)) fc fe ar (List.length lr) cr lr (by first | rfl | (simp; done) | (simp; omega) | omega) ((ir.ev Hv5).pick [] (by kernel_rfl)) av (List.length lv) cv lv (by first | rfl | (simp; done) | (simp; omega) | omega) ((iv.ev Hv5).pick [] (by kernel_rfl)) bc be (by first | omega | (simp; done) | (simp; omega))).mono ?_)
  rintro _ wo12 ⟨rfl, he15⟩
  refine ⟨_, rfl, ?_⟩
  intro ac11 En13
  have Hv14 : Ev w [] wo12 [.box bk1 [.slice ah (List.length lh) ch, .slice ap (List.length lp) cp, .slice aq (List.length lq) cq, .bool fc, .bool fe, .slice ar (List.length lr) cr, .slice av (List.length lv) cv, .bool bc, .bool be] 26] := Hv5.trans (Ev.call (R := [.box bk1 [.slice ah (List.length lh) ch, .slice ap (List.length lp) cp, .slice aq (List.length lq) cq, .bool fc, .bool fe, .slice ar (List.length lr) cr, .slice av (List.length lv) cv, .bool bc, .bool be] 26]) Hv5.heap [0] (by kernel_rfl) (by decide) he15)
  clear hM10 he15
  refine d_pures [(1, .pointer (some ⟨bk1, 0, none⟩)), (2, .pointer none), (6, .bool (relayF lh lp lq fc fe lr lv bc be != (0 : Int)))] [.bool (relayF lh lp lq fc fe lr lv bc be != (0 : Int))] 3 En13 (by kernel_rfl) (by kernel_rfl) rfl ?_
  intro ac16 En17
  rw [show (relayF lh lp lq fc fe lr lv bc be != (0 : Int)) = false from (by rw [bne_eq_false_iff_eq]; exact heq)] at En17
  refine from_end (by kernel_rfl) ?_
  refine then_normal ?_
  refine cond_false En17 (t := false) (by kernel_rfl) rfl ?_
  refine wp_skip ?_
  refine then_normal ?_
  refine wp_seq ?_
  refine region_cut (F := fun ac wo => ∃ (aoq27 : _) (coq27 : _) (apq36 : _) (cpq36 : _) (aqq36 : _) (cqq36 : _) (apq45 : _) (cpq45 : _) (aqq45 : _) (cqq45 : _) (bk56 : Nat), Env ac 50 [(1, .pointer (some ⟨bk1, 0, none⟩)), (2, .pointer none), (3, .pointer (some ⟨bk56, 0, none⟩))] ∧ Ev w [] wo [.vec apq45 cpq45 1 (bys lr) 5, .vec aqq45 cqq45 1 (bys lv) 5, .vec apq36 cpq36 1 (bys lp) 5, .vec aqq36 cqq36 1 (bys lq) 5, .vec aoq27 coq27 1 (bys lh) 5, .box bk1 [.slice ah (List.length lh) ch, .slice ap (List.length lp) cp, .slice aq (List.length lq) cq, .bool fc, .bool fe, .slice ar (List.length lr) cr, .slice av (List.length lv) cv, .bool bc, .bool be] 26, .box bk56 [.slice none 0 0, .bool false, .slice none 0 0, .bool false, .slice aoq27 (List.length lh) coq27, .slice apq36 (List.length lp) cpq36, .slice aqq36 (List.length lq) cqq36, .bool fc, .bool fe, .slice apq45 (List.length lr) cpq45, .slice aqq45 (List.length lv) cqq45, .bool bc, .bool be] 66]) ?_ ?_
  ·
    refine draw_any (by kernel_rfl) 13 (by kernel_rfl) ?_  -- region 3
    have wo18 := Hv14.trans (Ev.drew Hv14.heap)
    refine any_name fun G hG => ?_
    have nd219 : ∀ (ac : Act) (wo : World) (aoq27 : _) (coq27 : _) (apq36 : _) (cpq36 : _) (aqq36 : _) (cqq36 : _), Env ac 50 [(1, .pointer (some ⟨bk1, 0, none⟩)), (2, .pointer none), (9, .slice aoq27 (List.length lh) coq27), (12, .agg #[.slice apq36 (List.length lp) cpq36, .slice aqq36 (List.length lq) cqq36, .bool fc, .bool fe]), (13, .pointer (some ⟨bk1, 5, none⟩))] → Ev w [] wo [.vec apq36 cpq36 1 (bys lp) 5, .vec aqq36 cqq36 1 (bys lq) 5, .vec aoq27 coq27 1 (bys lh) 5, .box bk1 [.slice ah (List.length lh) ch, .slice ap (List.length lp) cp, .slice aq (List.length lq) cq, .bool fc, .bool fe, .slice ar (List.length lr) cr, .slice av (List.length lv) cv, .bool bc, .bool be] 26] → G 6 #[true, true, true, true, true, true, true, false, false, false, false, false, false] ac wo := by
      intro ac220 wo221 aoq27 coq27 apq36 cpq36 aqq36 cqq36 En222 Hv223
      refine any_from hG ?_
      refine any_at 7 (by kernel_rfl) rfl ?_
      refine op_loadaggbox (d := some 14) (t := 24) (b := bk1) (off := 5) (k := 3) (m := 4) (xs := [.slice ar (List.length lr) cr, .slice av (List.length lv) cv, .bool bc, .bool be]) En222 (by kernel_rfl) Hv223 rfl rfl rfl (by kernel_rfl) (by kernel_rfl) ?_
      intro ac224 En225
      refine any_at 8 (by kernel_rfl) rfl ?_
      have hM227 : Heap wo221 [] := Hv223.heap.pick [] (by kernel_rfl) (by decide)
      refine op_call (d := some 15) (f := 41) (args := #[.agg #[.slice ar (List.length lr) cr, .slice av (List.length lv) cv, .bool bc, .bool be]]) En225 (by kernel_rfl) ((cloned_go _ ar (List.length lr) cr lr (by first | rfl | (simp; done) | (simp; omega) | omega) ((ir.ev Hv223).pick [] (by kernel_rfl)) av (List.length lv) cv lv (by first | rfl | (simp; done) | (simp; omega) | omega) ((iv.ev Hv223).pick [] (by kernel_rfl)) bc be).mono ?_)
      rintro _ wo229 ⟨apq226, cpq226, aqq226, cqq226, rfl, he232⟩
      refine ⟨_, rfl, ?_⟩
      intro ac228 En230
      have Hv231 : Ev w [] wo229 [.vec apq226 cpq226 1 (bys lr) 5, .vec aqq226 cqq226 1 (bys lv) 5, .vec apq36 cpq36 1 (bys lp) 5, .vec aqq36 cqq36 1 (bys lq) 5, .vec aoq27 coq27 1 (bys lh) 5, .box bk1 [.slice ah (List.length lh) ch, .slice ap (List.length lp) cp, .slice aq (List.length lq) cq, .bool fc, .bool fe, .slice ar (List.length lr) cr, .slice av (List.length lv) cv, .bool bc, .bool be] 26] := Hv223.trans (Ev.call (R := [.vec apq36 cpq36 1 (bys lp) 5, .vec aqq36 cqq36 1 (bys lq) 5, .vec aoq27 coq27 1 (bys lh) 5, .box bk1 [.slice ah (List.length lh) ch, .slice ap (List.length lp) cp, .slice aq (List.length lq) cq, .bool fc, .bool fe, .slice ar (List.length lr) cr, .slice av (List.length lv) cv, .bool bc, .bool be] 26]) Hv223.heap [0, 1, 2, 3] (by kernel_rfl) (by decide) he232)
      clear hM227 he232
      refine any_pureR (d := some 16) En230 (v := .agg #[.slice aoq27 (List.length lh) coq27, .slice apq36 (List.length lp) cpq36, .slice aqq36 (List.length lq) cqq36, .bool fc, .bool fe, .slice apq226 (List.length lr) cpq226, .slice aqq226 (List.length lv) cqq226, .bool bc, .bool be]) 9 (by kernel_rfl) (by kernel_rfl) rfl ?_
      intro ac233 En234
      refine any_pureR (d := some 17) En234 (v := .agg #[.slice none 0 0, .bool false, .slice none 0 0, .bool false, .slice aoq27 (List.length lh) coq27, .slice apq36 (List.length lp) cpq36, .slice aqq36 (List.length lq) cqq36, .bool fc, .bool fe, .slice apq226 (List.length lr) cpq226, .slice aqq226 (List.length lv) cqq226, .bool bc, .bool be]) 10 (by kernel_rfl) (by kernel_rfl) rfl ?_
      intro ac235 En236
      refine any_at 11 (by kernel_rfl) rfl ?_
      refine op_newbox (d := some 18) (T := 66) (v := .agg #[.slice none 0 0, .bool false, .slice none 0 0, .bool false, .slice aoq27 (List.length lh) coq27, .slice apq36 (List.length lp) cpq36, .slice aqq36 (List.length lq) cqq36, .bool fc, .bool fe, .slice apq226 (List.length lr) cpq226, .slice aqq226 (List.length lv) cqq226, .bool bc, .bool be]) (cs := [.slice none 0 0, .bool false, .slice none 0 0, .bool false, .slice aoq27 (List.length lh) coq27, .slice apq36 (List.length lp) cpq36, .slice aqq36 (List.length lq) cqq36, .bool fc, .bool fe, .slice apq226 (List.length lr) cpq226, .slice aqq226 (List.length lv) cqq226, .bool bc, .bool be]) En236 (by kernel_rfl) rfl Hv231 ?_
      intro ac238 wo239 bk237 En240 Hv241
      refine any_pureR (d := some 3) En240 (v := .pointer (some ⟨bk237, 0, none⟩)) 12 (by kernel_rfl) (by kernel_rfl) rfl ?_
      intro ac242 En243
      exact any_end (by kernel_rfl) ⟨aoq27, coq27, apq36, cpq36, aqq36, cqq36, apq226, cpq226, aqq226, cqq226, bk237, En243.sub (by kernel_rfl), Hv241.pick [0, 1, 2, 3, 4, 5, 6] (by kernel_rfl) (by decide)⟩
    have nd244 : ∀ (ac : Act) (wo : World) (aoq27 : _) (coq27 : _), Env ac 50 [(1, .pointer (some ⟨bk1, 0, none⟩)), (2, .pointer none), (9, .slice aoq27 (List.length lh) coq27), (11, .agg #[.slice ap (List.length lp) cp, .slice aq (List.length lq) cq, .bool fc, .bool fe]), (14, .agg #[.slice ar (List.length lr) cr, .slice av (List.length lv) cv, .bool bc, .bool be])] → Ev w [] wo [.vec aoq27 coq27 1 (bys lh) 5, .box bk1 [.slice ah (List.length lh) ch, .slice ap (List.length lp) cp, .slice aq (List.length lq) cq, .bool fc, .bool fe, .slice ar (List.length lr) cr, .slice av (List.length lv) cv, .bool bc, .bool be] 26] → G 6 #[true, true, true, true, true, false, true, true, false, false, false, false, false] ac wo := by
      intro ac245 wo246 aoq27 coq27 En247 Hv248
      refine any_from hG ?_
      refine any_at 5 (by kernel_rfl) rfl ?_
      have hM250 : Heap wo246 [] := Hv248.heap.pick [] (by kernel_rfl) (by decide)
      refine op_call (d := some 12) (f := 41) (args := #[.agg #[.slice ap (List.length lp) cp, .slice aq (List.length lq) cq, .bool fc, .bool fe]]) En247 (by kernel_rfl) ((cloned_go _ ap (List.length lp) cp lp (by first | rfl | (simp; done) | (simp; omega) | omega) ((ip.ev Hv248).pick [] (by kernel_rfl)) aq (List.length lq) cq lq (by first | rfl | (simp; done) | (simp; omega) | omega) ((iq.ev Hv248).pick [] (by kernel_rfl)) fc fe).mono ?_)
      rintro _ wo252 ⟨apq249, cpq249, aqq249, cqq249, rfl, he255⟩
      refine ⟨_, rfl, ?_⟩
      intro ac251 En253
      have Hv254 : Ev w [] wo252 [.vec apq249 cpq249 1 (bys lp) 5, .vec aqq249 cqq249 1 (bys lq) 5, .vec aoq27 coq27 1 (bys lh) 5, .box bk1 [.slice ah (List.length lh) ch, .slice ap (List.length lp) cp, .slice aq (List.length lq) cq, .bool fc, .bool fe, .slice ar (List.length lr) cr, .slice av (List.length lv) cv, .bool bc, .bool be] 26] := Hv248.trans (Ev.call (R := [.vec aoq27 coq27 1 (bys lh) 5, .box bk1 [.slice ah (List.length lh) ch, .slice ap (List.length lp) cp, .slice aq (List.length lq) cq, .bool fc, .bool fe, .slice ar (List.length lr) cr, .slice av (List.length lv) cv, .bool bc, .bool be] 26]) Hv248.heap [0, 1] (by kernel_rfl) (by decide) he255)
      clear hM250 he255
      refine any_at 8 (by kernel_rfl) rfl ?_
      have hM257 : Heap wo252 [] := Hv254.heap.pick [] (by kernel_rfl) (by decide)
      refine op_call (d := some 15) (f := 41) (args := #[.agg #[.slice ar (List.length lr) cr, .slice av (List.length lv) cv, .bool bc, .bool be]]) En253 (by kernel_rfl) ((cloned_go _ ar (List.length lr) cr lr (by first | rfl | (simp; done) | (simp; omega) | omega) ((ir.ev Hv254).pick [] (by kernel_rfl)) av (List.length lv) cv lv (by first | rfl | (simp; done) | (simp; omega) | omega) ((iv.ev Hv254).pick [] (by kernel_rfl)) bc be).mono ?_)
      rintro _ wo259 ⟨apq256, cpq256, aqq256, cqq256, rfl, he262⟩
      refine ⟨_, rfl, ?_⟩
      intro ac258 En260
      have Hv261 : Ev w [] wo259 [.vec apq256 cpq256 1 (bys lr) 5, .vec aqq256 cqq256 1 (bys lv) 5, .vec apq249 cpq249 1 (bys lp) 5, .vec aqq249 cqq249 1 (bys lq) 5, .vec aoq27 coq27 1 (bys lh) 5, .box bk1 [.slice ah (List.length lh) ch, .slice ap (List.length lp) cp, .slice aq (List.length lq) cq, .bool fc, .bool fe, .slice ar (List.length lr) cr, .slice av (List.length lv) cv, .bool bc, .bool be] 26] := Hv254.trans (Ev.call (R := [.vec apq249 cpq249 1 (bys lp) 5, .vec aqq249 cqq249 1 (bys lq) 5, .vec aoq27 coq27 1 (bys lh) 5, .box bk1 [.slice ah (List.length lh) ch, .slice ap (List.length lp) cp, .slice aq (List.length lq) cq, .bool fc, .bool fe, .slice ar (List.length lr) cr, .slice av (List.length lv) cv, .bool bc, .bool be] 26]) Hv254.heap [0, 1, 2, 3] (by kernel_rfl) (by decide) he262)
      clear hM257 he262
      refine any_pureR (d := some 16) En260 (v := .agg #[.slice aoq27 (List.length lh) coq27, .slice apq249 (List.length lp) cpq249, .slice aqq249 (List.length lq) cqq249, .bool fc, .bool fe, .slice apq256 (List.length lr) cpq256, .slice aqq256 (List.length lv) cqq256, .bool bc, .bool be]) 9 (by kernel_rfl) (by kernel_rfl) rfl ?_
      intro ac263 En264
      refine any_pureR (d := some 17) En264 (v := .agg #[.slice none 0 0, .bool false, .slice none 0 0, .bool false, .slice aoq27 (List.length lh) coq27, .slice apq249 (List.length lp) cpq249, .slice aqq249 (List.length lq) cqq249, .bool fc, .bool fe, .slice apq256 (List.length lr) cpq256, .slice aqq256 (List.length lv) cqq256, .bool bc, .bool be]) 10 (by kernel_rfl) (by kernel_rfl) rfl ?_
      intro ac265 En266
      refine any_at 11 (by kernel_rfl) rfl ?_
      refine op_newbox (d := some 18) (T := 66) (v := .agg #[.slice none 0 0, .bool false, .slice none 0 0, .bool false, .slice aoq27 (List.length lh) coq27, .slice apq249 (List.length lp) cpq249, .slice aqq249 (List.length lq) cqq249, .bool fc, .bool fe, .slice apq256 (List.length lr) cpq256, .slice aqq256 (List.length lv) cqq256, .bool bc, .bool be]) (cs := [.slice none 0 0, .bool false, .slice none 0 0, .bool false, .slice aoq27 (List.length lh) coq27, .slice apq249 (List.length lp) cpq249, .slice aqq249 (List.length lq) cqq249, .bool fc, .bool fe, .slice apq256 (List.length lr) cpq256, .slice aqq256 (List.length lv) cqq256, .bool bc, .bool be]) En266 (by kernel_rfl) rfl Hv261 ?_
      intro ac268 wo269 bk267 En270 Hv271
      refine any_pureR (d := some 3) En270 (v := .pointer (some ⟨bk267, 0, none⟩)) 12 (by kernel_rfl) (by kernel_rfl) rfl ?_
      intro ac272 En273
      exact any_end (by kernel_rfl) ⟨aoq27, coq27, apq249, cpq249, aqq249, cqq249, apq256, cpq256, aqq256, cqq256, bk267, En273.sub (by kernel_rfl), Hv271.pick [0, 1, 2, 3, 4, 5, 6] (by kernel_rfl) (by decide)⟩
    have nd274 : ∀ (ac : Act) (wo : World) (aoq27 : _) (coq27 : _), Env ac 50 [(1, .pointer (some ⟨bk1, 0, none⟩)), (2, .pointer none), (9, .slice aoq27 (List.length lh) coq27), (11, .agg #[.slice ap (List.length lp) cp, .slice aq (List.length lq) cq, .bool fc, .bool fe]), (13, .pointer (some ⟨bk1, 5, none⟩))] → Ev w [] wo [.vec aoq27 coq27 1 (bys lh) 5, .box bk1 [.slice ah (List.length lh) ch, .slice ap (List.length lp) cp, .slice aq (List.length lq) cq, .bool fc, .bool fe, .slice ar (List.length lr) cr, .slice av (List.length lv) cv, .bool bc, .bool be] 26] → G 7 #[true, true, true, true, true, false, true, false, false, false, false, false, false] ac wo := by
      intro ac275 wo276 aoq27 coq27 En277 Hv278
      refine any_from hG ?_
      refine any_two 5 7 (by kernel_rfl) ?_ ?_
      · rintro _ rfl
        have hM280 : Heap wo276 [] := Hv278.heap.pick [] (by kernel_rfl) (by decide)
        refine op_call (d := some 12) (f := 41) (args := #[.agg #[.slice ap (List.length lp) cp, .slice aq (List.length lq) cq, .bool fc, .bool fe]]) En277 (by kernel_rfl) ((cloned_go _ ap (List.length lp) cp lp (by first | rfl | (simp; done) | (simp; omega) | omega) ((ip.ev Hv278).pick [] (by kernel_rfl)) aq (List.length lq) cq lq (by first | rfl | (simp; done) | (simp; omega) | omega) ((iq.ev Hv278).pick [] (by kernel_rfl)) fc fe).mono ?_)
        rintro _ wo282 ⟨apq279, cpq279, aqq279, cqq279, rfl, he285⟩
        refine ⟨_, rfl, ?_⟩
        intro ac281 En283
        have Hv284 : Ev w [] wo282 [.vec apq279 cpq279 1 (bys lp) 5, .vec aqq279 cqq279 1 (bys lq) 5, .vec aoq27 coq27 1 (bys lh) 5, .box bk1 [.slice ah (List.length lh) ch, .slice ap (List.length lp) cp, .slice aq (List.length lq) cq, .bool fc, .bool fe, .slice ar (List.length lr) cr, .slice av (List.length lv) cv, .bool bc, .bool be] 26] := Hv278.trans (Ev.call (R := [.vec aoq27 coq27 1 (bys lh) 5, .box bk1 [.slice ah (List.length lh) ch, .slice ap (List.length lp) cp, .slice aq (List.length lq) cq, .bool fc, .bool fe, .slice ar (List.length lr) cr, .slice av (List.length lv) cv, .bool bc, .bool be] 26]) Hv278.heap [0, 1] (by kernel_rfl) (by decide) he285)
        clear hM280 he285
        exact any_to hG (by kernel_rfl) (nd219 _ _ aoq27 coq27 apq279 cpq279 aqq279 cqq279 (En283.sub (by kernel_rfl)) (Hv284.pick [0, 1, 2, 3] (by kernel_rfl) (by decide)))
      · rintro _ rfl
        refine op_loadaggbox (d := some 14) (t := 24) (b := bk1) (off := 5) (k := 1) (m := 4) (xs := [.slice ar (List.length lr) cr, .slice av (List.length lv) cv, .bool bc, .bool be]) En277 (by kernel_rfl) Hv278 rfl rfl rfl (by kernel_rfl) (by kernel_rfl) ?_
        intro ac286 En287
        exact any_to hG (by kernel_rfl) (nd244 _ _ aoq27 coq27 (En287.sub (by kernel_rfl)) (Hv278.pick [0, 1] (by kernel_rfl) (by decide)))
    have nd288 : ∀ (ac : Act) (wo : World) (aoq27 : _) (coq27 : _), Env ac 50 [(1, .pointer (some ⟨bk1, 0, none⟩)), (2, .pointer none), (9, .slice aoq27 (List.length lh) coq27), (10, .pointer (some ⟨bk1, 1, none⟩)), (14, .agg #[.slice ar (List.length lr) cr, .slice av (List.length lv) cv, .bool bc, .bool be])] → Ev w [] wo [.vec aoq27 coq27 1 (bys lh) 5, .box bk1 [.slice ah (List.length lh) ch, .slice ap (List.length lp) cp, .slice aq (List.length lq) cq, .bool fc, .bool fe, .slice ar (List.length lr) cr, .slice av (List.length lv) cv, .bool bc, .bool be] 26] → G 7 #[true, true, true, true, false, false, true, true, false, false, false, false, false] ac wo := by
      intro ac289 wo290 aoq27 coq27 En291 Hv292
      refine any_from hG ?_
      refine any_at 4 (by kernel_rfl) rfl ?_
      refine op_loadaggbox (d := some 11) (t := 24) (b := bk1) (off := 1) (k := 1) (m := 4) (xs := [.slice ap (List.length lp) cp, .slice aq (List.length lq) cq, .bool fc, .bool fe]) En291 (by kernel_rfl) Hv292 rfl rfl rfl (by kernel_rfl) (by kernel_rfl) ?_
      intro ac293 En294
      refine any_at 5 (by kernel_rfl) rfl ?_
      have hM296 : Heap wo290 [] := Hv292.heap.pick [] (by kernel_rfl) (by decide)
      refine op_call (d := some 12) (f := 41) (args := #[.agg #[.slice ap (List.length lp) cp, .slice aq (List.length lq) cq, .bool fc, .bool fe]]) En294 (by kernel_rfl) ((cloned_go _ ap (List.length lp) cp lp (by first | rfl | (simp; done) | (simp; omega) | omega) ((ip.ev Hv292).pick [] (by kernel_rfl)) aq (List.length lq) cq lq (by first | rfl | (simp; done) | (simp; omega) | omega) ((iq.ev Hv292).pick [] (by kernel_rfl)) fc fe).mono ?_)
      rintro _ wo298 ⟨apq295, cpq295, aqq295, cqq295, rfl, he301⟩
      refine ⟨_, rfl, ?_⟩
      intro ac297 En299
      have Hv300 : Ev w [] wo298 [.vec apq295 cpq295 1 (bys lp) 5, .vec aqq295 cqq295 1 (bys lq) 5, .vec aoq27 coq27 1 (bys lh) 5, .box bk1 [.slice ah (List.length lh) ch, .slice ap (List.length lp) cp, .slice aq (List.length lq) cq, .bool fc, .bool fe, .slice ar (List.length lr) cr, .slice av (List.length lv) cv, .bool bc, .bool be] 26] := Hv292.trans (Ev.call (R := [.vec aoq27 coq27 1 (bys lh) 5, .box bk1 [.slice ah (List.length lh) ch, .slice ap (List.length lp) cp, .slice aq (List.length lq) cq, .bool fc, .bool fe, .slice ar (List.length lr) cr, .slice av (List.length lv) cv, .bool bc, .bool be] 26]) Hv292.heap [0, 1] (by kernel_rfl) (by decide) he301)
      clear hM296 he301
      refine any_at 8 (by kernel_rfl) rfl ?_
      have hM303 : Heap wo298 [] := Hv300.heap.pick [] (by kernel_rfl) (by decide)
      refine op_call (d := some 15) (f := 41) (args := #[.agg #[.slice ar (List.length lr) cr, .slice av (List.length lv) cv, .bool bc, .bool be]]) En299 (by kernel_rfl) ((cloned_go _ ar (List.length lr) cr lr (by first | rfl | (simp; done) | (simp; omega) | omega) ((ir.ev Hv300).pick [] (by kernel_rfl)) av (List.length lv) cv lv (by first | rfl | (simp; done) | (simp; omega) | omega) ((iv.ev Hv300).pick [] (by kernel_rfl)) bc be).mono ?_)
      rintro _ wo305 ⟨apq302, cpq302, aqq302, cqq302, rfl, he308⟩
      refine ⟨_, rfl, ?_⟩
      intro ac304 En306
      have Hv307 : Ev w [] wo305 [.vec apq302 cpq302 1 (bys lr) 5, .vec aqq302 cqq302 1 (bys lv) 5, .vec apq295 cpq295 1 (bys lp) 5, .vec aqq295 cqq295 1 (bys lq) 5, .vec aoq27 coq27 1 (bys lh) 5, .box bk1 [.slice ah (List.length lh) ch, .slice ap (List.length lp) cp, .slice aq (List.length lq) cq, .bool fc, .bool fe, .slice ar (List.length lr) cr, .slice av (List.length lv) cv, .bool bc, .bool be] 26] := Hv300.trans (Ev.call (R := [.vec apq295 cpq295 1 (bys lp) 5, .vec aqq295 cqq295 1 (bys lq) 5, .vec aoq27 coq27 1 (bys lh) 5, .box bk1 [.slice ah (List.length lh) ch, .slice ap (List.length lp) cp, .slice aq (List.length lq) cq, .bool fc, .bool fe, .slice ar (List.length lr) cr, .slice av (List.length lv) cv, .bool bc, .bool be] 26]) Hv300.heap [0, 1, 2, 3] (by kernel_rfl) (by decide) he308)
      clear hM303 he308
      refine any_pureR (d := some 16) En306 (v := .agg #[.slice aoq27 (List.length lh) coq27, .slice apq295 (List.length lp) cpq295, .slice aqq295 (List.length lq) cqq295, .bool fc, .bool fe, .slice apq302 (List.length lr) cpq302, .slice aqq302 (List.length lv) cqq302, .bool bc, .bool be]) 9 (by kernel_rfl) (by kernel_rfl) rfl ?_
      intro ac309 En310
      refine any_pureR (d := some 17) En310 (v := .agg #[.slice none 0 0, .bool false, .slice none 0 0, .bool false, .slice aoq27 (List.length lh) coq27, .slice apq295 (List.length lp) cpq295, .slice aqq295 (List.length lq) cqq295, .bool fc, .bool fe, .slice apq302 (List.length lr) cpq302, .slice aqq302 (List.length lv) cqq302, .bool bc, .bool be]) 10 (by kernel_rfl) (by kernel_rfl) rfl ?_
      intro ac311 En312
      refine any_at 11 (by kernel_rfl) rfl ?_
      refine op_newbox (d := some 18) (T := 66) (v := .agg #[.slice none 0 0, .bool false, .slice none 0 0, .bool false, .slice aoq27 (List.length lh) coq27, .slice apq295 (List.length lp) cpq295, .slice aqq295 (List.length lq) cqq295, .bool fc, .bool fe, .slice apq302 (List.length lr) cpq302, .slice aqq302 (List.length lv) cqq302, .bool bc, .bool be]) (cs := [.slice none 0 0, .bool false, .slice none 0 0, .bool false, .slice aoq27 (List.length lh) coq27, .slice apq295 (List.length lp) cpq295, .slice aqq295 (List.length lq) cqq295, .bool fc, .bool fe, .slice apq302 (List.length lr) cpq302, .slice aqq302 (List.length lv) cqq302, .bool bc, .bool be]) En312 (by kernel_rfl) rfl Hv307 ?_
      intro ac314 wo315 bk313 En316 Hv317
      refine any_pureR (d := some 3) En316 (v := .pointer (some ⟨bk313, 0, none⟩)) 12 (by kernel_rfl) (by kernel_rfl) rfl ?_
      intro ac318 En319
      exact any_end (by kernel_rfl) ⟨aoq27, coq27, apq295, cpq295, aqq295, cqq295, apq302, cpq302, aqq302, cqq302, bk313, En319.sub (by kernel_rfl), Hv317.pick [0, 1, 2, 3, 4, 5, 6] (by kernel_rfl) (by decide)⟩
    have nd320 : ∀ (ac : Act) (wo : World), Env ac 50 [(1, .pointer (some ⟨bk1, 0, none⟩)), (2, .pointer none), (8, .slice ah (List.length lh) ch), (11, .agg #[.slice ap (List.length lp) cp, .slice aq (List.length lq) cq, .bool fc, .bool fe]), (14, .agg #[.slice ar (List.length lr) cr, .slice av (List.length lv) cv, .bool bc, .bool be])] → Ev w [] wo [.box bk1 [.slice ah (List.length lh) ch, .slice ap (List.length lp) cp, .slice aq (List.length lq) cq, .bool fc, .bool fe, .slice ar (List.length lr) cr, .slice av (List.length lv) cv, .bool bc, .bool be] 26] → G 7 #[true, true, false, true, true, false, true, true, false, false, false, false, false] ac wo := by
      intro ac321 wo322 En323 Hv324
      refine any_from hG ?_
      refine any_at 2 (by kernel_rfl) rfl ?_
      have hM326 : Heap wo322 [] := Hv324.heap.pick [] (by kernel_rfl) (by decide)
      refine op_call (d := some 9) (f := 35) (args := #[.slice ah (List.length lh) ch]) En323 (by kernel_rfl) ((clone_go _ ah (List.length lh) ch lh (by first | rfl | (simp; done) | (simp; omega) | omega) ((ih.ev Hv324).pick [] (by kernel_rfl))).mono ?_)
      rintro _ wo328 ⟨aoq325, coq325, rfl, he331⟩
      refine ⟨_, rfl, ?_⟩
      intro ac327 En329
      have Hv330 : Ev w [] wo328 [.vec aoq325 coq325 1 (bys lh) 5, .box bk1 [.slice ah (List.length lh) ch, .slice ap (List.length lp) cp, .slice aq (List.length lq) cq, .bool fc, .bool fe, .slice ar (List.length lr) cr, .slice av (List.length lv) cv, .bool bc, .bool be] 26] := Hv324.trans (Ev.call (R := [.box bk1 [.slice ah (List.length lh) ch, .slice ap (List.length lp) cp, .slice aq (List.length lq) cq, .bool fc, .bool fe, .slice ar (List.length lr) cr, .slice av (List.length lv) cv, .bool bc, .bool be] 26]) Hv324.heap [0] (by kernel_rfl) (by decide) he331)
      clear hM326 he331
      refine any_at 5 (by kernel_rfl) rfl ?_
      have hM333 : Heap wo328 [] := Hv330.heap.pick [] (by kernel_rfl) (by decide)
      refine op_call (d := some 12) (f := 41) (args := #[.agg #[.slice ap (List.length lp) cp, .slice aq (List.length lq) cq, .bool fc, .bool fe]]) En329 (by kernel_rfl) ((cloned_go _ ap (List.length lp) cp lp (by first | rfl | (simp; done) | (simp; omega) | omega) ((ip.ev Hv330).pick [] (by kernel_rfl)) aq (List.length lq) cq lq (by first | rfl | (simp; done) | (simp; omega) | omega) ((iq.ev Hv330).pick [] (by kernel_rfl)) fc fe).mono ?_)
      rintro _ wo335 ⟨apq332, cpq332, aqq332, cqq332, rfl, he338⟩
      refine ⟨_, rfl, ?_⟩
      intro ac334 En336
      have Hv337 : Ev w [] wo335 [.vec apq332 cpq332 1 (bys lp) 5, .vec aqq332 cqq332 1 (bys lq) 5, .vec aoq325 coq325 1 (bys lh) 5, .box bk1 [.slice ah (List.length lh) ch, .slice ap (List.length lp) cp, .slice aq (List.length lq) cq, .bool fc, .bool fe, .slice ar (List.length lr) cr, .slice av (List.length lv) cv, .bool bc, .bool be] 26] := Hv330.trans (Ev.call (R := [.vec aoq325 coq325 1 (bys lh) 5, .box bk1 [.slice ah (List.length lh) ch, .slice ap (List.length lp) cp, .slice aq (List.length lq) cq, .bool fc, .bool fe, .slice ar (List.length lr) cr, .slice av (List.length lv) cv, .bool bc, .bool be] 26]) Hv330.heap [0, 1] (by kernel_rfl) (by decide) he338)
      clear hM333 he338
      refine any_at 8 (by kernel_rfl) rfl ?_
      have hM340 : Heap wo335 [] := Hv337.heap.pick [] (by kernel_rfl) (by decide)
      refine op_call (d := some 15) (f := 41) (args := #[.agg #[.slice ar (List.length lr) cr, .slice av (List.length lv) cv, .bool bc, .bool be]]) En336 (by kernel_rfl) ((cloned_go _ ar (List.length lr) cr lr (by first | rfl | (simp; done) | (simp; omega) | omega) ((ir.ev Hv337).pick [] (by kernel_rfl)) av (List.length lv) cv lv (by first | rfl | (simp; done) | (simp; omega) | omega) ((iv.ev Hv337).pick [] (by kernel_rfl)) bc be).mono ?_)
      rintro _ wo342 ⟨apq339, cpq339, aqq339, cqq339, rfl, he345⟩
      refine ⟨_, rfl, ?_⟩
      intro ac341 En343
      have Hv344 : Ev w [] wo342 [.vec apq339 cpq339 1 (bys lr) 5, .vec aqq339 cqq339 1 (bys lv) 5, .vec apq332 cpq332 1 (bys lp) 5, .vec aqq332 cqq332 1 (bys lq) 5, .vec aoq325 coq325 1 (bys lh) 5, .box bk1 [.slice ah (List.length lh) ch, .slice ap (List.length lp) cp, .slice aq (List.length lq) cq, .bool fc, .bool fe, .slice ar (List.length lr) cr, .slice av (List.length lv) cv, .bool bc, .bool be] 26] := Hv337.trans (Ev.call (R := [.vec apq332 cpq332 1 (bys lp) 5, .vec aqq332 cqq332 1 (bys lq) 5, .vec aoq325 coq325 1 (bys lh) 5, .box bk1 [.slice ah (List.length lh) ch, .slice ap (List.length lp) cp, .slice aq (List.length lq) cq, .bool fc, .bool fe, .slice ar (List.length lr) cr, .slice av (List.length lv) cv, .bool bc, .bool be] 26]) Hv337.heap [0, 1, 2, 3] (by kernel_rfl) (by decide) he345)
      clear hM340 he345
      refine any_pureR (d := some 16) En343 (v := .agg #[.slice aoq325 (List.length lh) coq325, .slice apq332 (List.length lp) cpq332, .slice aqq332 (List.length lq) cqq332, .bool fc, .bool fe, .slice apq339 (List.length lr) cpq339, .slice aqq339 (List.length lv) cqq339, .bool bc, .bool be]) 9 (by kernel_rfl) (by kernel_rfl) rfl ?_
      intro ac346 En347
      refine any_pureR (d := some 17) En347 (v := .agg #[.slice none 0 0, .bool false, .slice none 0 0, .bool false, .slice aoq325 (List.length lh) coq325, .slice apq332 (List.length lp) cpq332, .slice aqq332 (List.length lq) cqq332, .bool fc, .bool fe, .slice apq339 (List.length lr) cpq339, .slice aqq339 (List.length lv) cqq339, .bool bc, .bool be]) 10 (by kernel_rfl) (by kernel_rfl) rfl ?_
      intro ac348 En349
      refine any_at 11 (by kernel_rfl) rfl ?_
      refine op_newbox (d := some 18) (T := 66) (v := .agg #[.slice none 0 0, .bool false, .slice none 0 0, .bool false, .slice aoq325 (List.length lh) coq325, .slice apq332 (List.length lp) cpq332, .slice aqq332 (List.length lq) cqq332, .bool fc, .bool fe, .slice apq339 (List.length lr) cpq339, .slice aqq339 (List.length lv) cqq339, .bool bc, .bool be]) (cs := [.slice none 0 0, .bool false, .slice none 0 0, .bool false, .slice aoq325 (List.length lh) coq325, .slice apq332 (List.length lp) cpq332, .slice aqq332 (List.length lq) cqq332, .bool fc, .bool fe, .slice apq339 (List.length lr) cpq339, .slice aqq339 (List.length lv) cqq339, .bool bc, .bool be]) En349 (by kernel_rfl) rfl Hv344 ?_
      intro ac351 wo352 bk350 En353 Hv354
      refine any_pureR (d := some 3) En353 (v := .pointer (some ⟨bk350, 0, none⟩)) 12 (by kernel_rfl) (by kernel_rfl) rfl ?_
      intro ac355 En356
      exact any_end (by kernel_rfl) ⟨aoq325, coq325, apq332, cpq332, aqq332, cqq332, apq339, cpq339, aqq339, cqq339, bk350, En356.sub (by kernel_rfl), Hv354.pick [0, 1, 2, 3, 4, 5, 6] (by kernel_rfl) (by decide)⟩
    have nd357 : ∀ (ac : Act) (wo : World) (aoq27 : _) (coq27 : _), Env ac 50 [(1, .pointer (some ⟨bk1, 0, none⟩)), (2, .pointer none), (9, .slice aoq27 (List.length lh) coq27), (10, .pointer (some ⟨bk1, 1, none⟩)), (13, .pointer (some ⟨bk1, 5, none⟩))] → Ev w [] wo [.vec aoq27 coq27 1 (bys lh) 5, .box bk1 [.slice ah (List.length lh) ch, .slice ap (List.length lp) cp, .slice aq (List.length lq) cq, .bool fc, .bool fe, .slice ar (List.length lr) cr, .slice av (List.length lv) cv, .bool bc, .bool be] 26] → G 8 #[true, true, true, true, false, false, true, false, false, false, false, false, false] ac wo := by
      intro ac358 wo359 aoq27 coq27 En360 Hv361
      refine any_from hG ?_
      refine any_two 4 7 (by kernel_rfl) ?_ ?_
      · rintro _ rfl
        refine op_loadaggbox (d := some 11) (t := 24) (b := bk1) (off := 1) (k := 1) (m := 4) (xs := [.slice ap (List.length lp) cp, .slice aq (List.length lq) cq, .bool fc, .bool fe]) En360 (by kernel_rfl) Hv361 rfl rfl rfl (by kernel_rfl) (by kernel_rfl) ?_
        intro ac362 En363
        exact any_to hG (by kernel_rfl) (nd274 _ _ aoq27 coq27 (En363.sub (by kernel_rfl)) (Hv361.pick [0, 1] (by kernel_rfl) (by decide)))
      · rintro _ rfl
        refine op_loadaggbox (d := some 14) (t := 24) (b := bk1) (off := 5) (k := 1) (m := 4) (xs := [.slice ar (List.length lr) cr, .slice av (List.length lv) cv, .bool bc, .bool be]) En360 (by kernel_rfl) Hv361 rfl rfl rfl (by kernel_rfl) (by kernel_rfl) ?_
        intro ac364 En365
        exact any_to hG (by kernel_rfl) (nd288 _ _ aoq27 coq27 (En365.sub (by kernel_rfl)) (Hv361.pick [0, 1] (by kernel_rfl) (by decide)))
    have nd366 : ∀ (ac : Act) (wo : World), Env ac 50 [(1, .pointer (some ⟨bk1, 0, none⟩)), (2, .pointer none), (8, .slice ah (List.length lh) ch), (11, .agg #[.slice ap (List.length lp) cp, .slice aq (List.length lq) cq, .bool fc, .bool fe]), (13, .pointer (some ⟨bk1, 5, none⟩))] → Ev w [] wo [.box bk1 [.slice ah (List.length lh) ch, .slice ap (List.length lp) cp, .slice aq (List.length lq) cq, .bool fc, .bool fe, .slice ar (List.length lr) cr, .slice av (List.length lv) cv, .bool bc, .bool be] 26] → G 8 #[true, true, false, true, true, false, true, false, false, false, false, false, false] ac wo := by
      intro ac367 wo368 En369 Hv370
      refine any_from hG ?_
      refine any_two 2 7 (by kernel_rfl) ?_ ?_
      · rintro _ rfl
        have hM372 : Heap wo368 [] := Hv370.heap.pick [] (by kernel_rfl) (by decide)
        refine op_call (d := some 9) (f := 35) (args := #[.slice ah (List.length lh) ch]) En369 (by kernel_rfl) ((clone_go _ ah (List.length lh) ch lh (by first | rfl | (simp; done) | (simp; omega) | omega) ((ih.ev Hv370).pick [] (by kernel_rfl))).mono ?_)
        rintro _ wo374 ⟨aoq371, coq371, rfl, he377⟩
        refine ⟨_, rfl, ?_⟩
        intro ac373 En375
        have Hv376 : Ev w [] wo374 [.vec aoq371 coq371 1 (bys lh) 5, .box bk1 [.slice ah (List.length lh) ch, .slice ap (List.length lp) cp, .slice aq (List.length lq) cq, .bool fc, .bool fe, .slice ar (List.length lr) cr, .slice av (List.length lv) cv, .bool bc, .bool be] 26] := Hv370.trans (Ev.call (R := [.box bk1 [.slice ah (List.length lh) ch, .slice ap (List.length lp) cp, .slice aq (List.length lq) cq, .bool fc, .bool fe, .slice ar (List.length lr) cr, .slice av (List.length lv) cv, .bool bc, .bool be] 26]) Hv370.heap [0] (by kernel_rfl) (by decide) he377)
        clear hM372 he377
        exact any_to hG (by kernel_rfl) (nd274 _ _ aoq371 coq371 (En375.sub (by kernel_rfl)) (Hv376.pick [0, 1] (by kernel_rfl) (by decide)))
      · rintro _ rfl
        refine op_loadaggbox (d := some 14) (t := 24) (b := bk1) (off := 5) (k := 0) (m := 4) (xs := [.slice ar (List.length lr) cr, .slice av (List.length lv) cv, .bool bc, .bool be]) En369 (by kernel_rfl) Hv370 rfl rfl rfl (by kernel_rfl) (by kernel_rfl) ?_
        intro ac378 En379
        exact any_to hG (by kernel_rfl) (nd320 _ _ (En379.sub (by kernel_rfl)) (Hv370.pick [0] (by kernel_rfl) (by decide)))
    have nd380 : ∀ (ac : Act) (wo : World), Env ac 50 [(1, .pointer (some ⟨bk1, 0, none⟩)), (2, .pointer none), (8, .slice ah (List.length lh) ch), (10, .pointer (some ⟨bk1, 1, none⟩)), (14, .agg #[.slice ar (List.length lr) cr, .slice av (List.length lv) cv, .bool bc, .bool be])] → Ev w [] wo [.box bk1 [.slice ah (List.length lh) ch, .slice ap (List.length lp) cp, .slice aq (List.length lq) cq, .bool fc, .bool fe, .slice ar (List.length lr) cr, .slice av (List.length lv) cv, .bool bc, .bool be] 26] → G 8 #[true, true, false, true, false, false, true, true, false, false, false, false, false] ac wo := by
      intro ac381 wo382 En383 Hv384
      refine any_from hG ?_
      refine any_two 2 4 (by kernel_rfl) ?_ ?_
      · rintro _ rfl
        have hM386 : Heap wo382 [] := Hv384.heap.pick [] (by kernel_rfl) (by decide)
        refine op_call (d := some 9) (f := 35) (args := #[.slice ah (List.length lh) ch]) En383 (by kernel_rfl) ((clone_go _ ah (List.length lh) ch lh (by first | rfl | (simp; done) | (simp; omega) | omega) ((ih.ev Hv384).pick [] (by kernel_rfl))).mono ?_)
        rintro _ wo388 ⟨aoq385, coq385, rfl, he391⟩
        refine ⟨_, rfl, ?_⟩
        intro ac387 En389
        have Hv390 : Ev w [] wo388 [.vec aoq385 coq385 1 (bys lh) 5, .box bk1 [.slice ah (List.length lh) ch, .slice ap (List.length lp) cp, .slice aq (List.length lq) cq, .bool fc, .bool fe, .slice ar (List.length lr) cr, .slice av (List.length lv) cv, .bool bc, .bool be] 26] := Hv384.trans (Ev.call (R := [.box bk1 [.slice ah (List.length lh) ch, .slice ap (List.length lp) cp, .slice aq (List.length lq) cq, .bool fc, .bool fe, .slice ar (List.length lr) cr, .slice av (List.length lv) cv, .bool bc, .bool be] 26]) Hv384.heap [0] (by kernel_rfl) (by decide) he391)
        clear hM386 he391
        exact any_to hG (by kernel_rfl) (nd288 _ _ aoq385 coq385 (En389.sub (by kernel_rfl)) (Hv390.pick [0, 1] (by kernel_rfl) (by decide)))
      · rintro _ rfl
        refine op_loadaggbox (d := some 11) (t := 24) (b := bk1) (off := 1) (k := 0) (m := 4) (xs := [.slice ap (List.length lp) cp, .slice aq (List.length lq) cq, .bool fc, .bool fe]) En383 (by kernel_rfl) Hv384 rfl rfl rfl (by kernel_rfl) (by kernel_rfl) ?_
        intro ac392 En393
        exact any_to hG (by kernel_rfl) (nd320 _ _ (En393.sub (by kernel_rfl)) (Hv384.pick [0] (by kernel_rfl) (by decide)))
    have nd394 : ∀ (ac : Act) (wo : World), Env ac 50 [(1, .pointer (some ⟨bk1, 0, none⟩)), (2, .pointer none), (7, .pointer (some ⟨bk1, 0, none⟩)), (11, .agg #[.slice ap (List.length lp) cp, .slice aq (List.length lq) cq, .bool fc, .bool fe]), (14, .agg #[.slice ar (List.length lr) cr, .slice av (List.length lv) cv, .bool bc, .bool be])] → Ev w [] wo [.box bk1 [.slice ah (List.length lh) ch, .slice ap (List.length lp) cp, .slice aq (List.length lq) cq, .bool fc, .bool fe, .slice ar (List.length lr) cr, .slice av (List.length lv) cv, .bool bc, .bool be] 26] → G 8 #[true, false, false, true, true, false, true, true, false, false, false, false, false] ac wo := by
      intro ac395 wo396 En397 Hv398
      refine any_from hG ?_
      refine any_at 1 (by kernel_rfl) rfl ?_
      refine op_loadbox (d := some 8) (t := 22) (b := bk1) (off := 0) (k := 0) (v := .slice ah (List.length lh) ch) En397 (by kernel_rfl) Hv398 rfl rfl (by kernel_rfl) ?_
      intro ac399 En400
      refine any_at 2 (by kernel_rfl) rfl ?_
      have hM402 : Heap wo396 [] := Hv398.heap.pick [] (by kernel_rfl) (by decide)
      refine op_call (d := some 9) (f := 35) (args := #[.slice ah (List.length lh) ch]) En400 (by kernel_rfl) ((clone_go _ ah (List.length lh) ch lh (by first | rfl | (simp; done) | (simp; omega) | omega) ((ih.ev Hv398).pick [] (by kernel_rfl))).mono ?_)
      rintro _ wo404 ⟨aoq401, coq401, rfl, he407⟩
      refine ⟨_, rfl, ?_⟩
      intro ac403 En405
      have Hv406 : Ev w [] wo404 [.vec aoq401 coq401 1 (bys lh) 5, .box bk1 [.slice ah (List.length lh) ch, .slice ap (List.length lp) cp, .slice aq (List.length lq) cq, .bool fc, .bool fe, .slice ar (List.length lr) cr, .slice av (List.length lv) cv, .bool bc, .bool be] 26] := Hv398.trans (Ev.call (R := [.box bk1 [.slice ah (List.length lh) ch, .slice ap (List.length lp) cp, .slice aq (List.length lq) cq, .bool fc, .bool fe, .slice ar (List.length lr) cr, .slice av (List.length lv) cv, .bool bc, .bool be] 26]) Hv398.heap [0] (by kernel_rfl) (by decide) he407)
      clear hM402 he407
      refine any_at 5 (by kernel_rfl) rfl ?_
      have hM409 : Heap wo404 [] := Hv406.heap.pick [] (by kernel_rfl) (by decide)
      refine op_call (d := some 12) (f := 41) (args := #[.agg #[.slice ap (List.length lp) cp, .slice aq (List.length lq) cq, .bool fc, .bool fe]]) En405 (by kernel_rfl) ((cloned_go _ ap (List.length lp) cp lp (by first | rfl | (simp; done) | (simp; omega) | omega) ((ip.ev Hv406).pick [] (by kernel_rfl)) aq (List.length lq) cq lq (by first | rfl | (simp; done) | (simp; omega) | omega) ((iq.ev Hv406).pick [] (by kernel_rfl)) fc fe).mono ?_)
      rintro _ wo411 ⟨apq408, cpq408, aqq408, cqq408, rfl, he414⟩
      refine ⟨_, rfl, ?_⟩
      intro ac410 En412
      have Hv413 : Ev w [] wo411 [.vec apq408 cpq408 1 (bys lp) 5, .vec aqq408 cqq408 1 (bys lq) 5, .vec aoq401 coq401 1 (bys lh) 5, .box bk1 [.slice ah (List.length lh) ch, .slice ap (List.length lp) cp, .slice aq (List.length lq) cq, .bool fc, .bool fe, .slice ar (List.length lr) cr, .slice av (List.length lv) cv, .bool bc, .bool be] 26] := Hv406.trans (Ev.call (R := [.vec aoq401 coq401 1 (bys lh) 5, .box bk1 [.slice ah (List.length lh) ch, .slice ap (List.length lp) cp, .slice aq (List.length lq) cq, .bool fc, .bool fe, .slice ar (List.length lr) cr, .slice av (List.length lv) cv, .bool bc, .bool be] 26]) Hv406.heap [0, 1] (by kernel_rfl) (by decide) he414)
      clear hM409 he414
      refine any_at 8 (by kernel_rfl) rfl ?_
      have hM416 : Heap wo411 [] := Hv413.heap.pick [] (by kernel_rfl) (by decide)
      refine op_call (d := some 15) (f := 41) (args := #[.agg #[.slice ar (List.length lr) cr, .slice av (List.length lv) cv, .bool bc, .bool be]]) En412 (by kernel_rfl) ((cloned_go _ ar (List.length lr) cr lr (by first | rfl | (simp; done) | (simp; omega) | omega) ((ir.ev Hv413).pick [] (by kernel_rfl)) av (List.length lv) cv lv (by first | rfl | (simp; done) | (simp; omega) | omega) ((iv.ev Hv413).pick [] (by kernel_rfl)) bc be).mono ?_)
      rintro _ wo418 ⟨apq415, cpq415, aqq415, cqq415, rfl, he421⟩
      refine ⟨_, rfl, ?_⟩
      intro ac417 En419
      have Hv420 : Ev w [] wo418 [.vec apq415 cpq415 1 (bys lr) 5, .vec aqq415 cqq415 1 (bys lv) 5, .vec apq408 cpq408 1 (bys lp) 5, .vec aqq408 cqq408 1 (bys lq) 5, .vec aoq401 coq401 1 (bys lh) 5, .box bk1 [.slice ah (List.length lh) ch, .slice ap (List.length lp) cp, .slice aq (List.length lq) cq, .bool fc, .bool fe, .slice ar (List.length lr) cr, .slice av (List.length lv) cv, .bool bc, .bool be] 26] := Hv413.trans (Ev.call (R := [.vec apq408 cpq408 1 (bys lp) 5, .vec aqq408 cqq408 1 (bys lq) 5, .vec aoq401 coq401 1 (bys lh) 5, .box bk1 [.slice ah (List.length lh) ch, .slice ap (List.length lp) cp, .slice aq (List.length lq) cq, .bool fc, .bool fe, .slice ar (List.length lr) cr, .slice av (List.length lv) cv, .bool bc, .bool be] 26]) Hv413.heap [0, 1, 2, 3] (by kernel_rfl) (by decide) he421)
      clear hM416 he421
      refine any_pureR (d := some 16) En419 (v := .agg #[.slice aoq401 (List.length lh) coq401, .slice apq408 (List.length lp) cpq408, .slice aqq408 (List.length lq) cqq408, .bool fc, .bool fe, .slice apq415 (List.length lr) cpq415, .slice aqq415 (List.length lv) cqq415, .bool bc, .bool be]) 9 (by kernel_rfl) (by kernel_rfl) rfl ?_
      intro ac422 En423
      refine any_pureR (d := some 17) En423 (v := .agg #[.slice none 0 0, .bool false, .slice none 0 0, .bool false, .slice aoq401 (List.length lh) coq401, .slice apq408 (List.length lp) cpq408, .slice aqq408 (List.length lq) cqq408, .bool fc, .bool fe, .slice apq415 (List.length lr) cpq415, .slice aqq415 (List.length lv) cqq415, .bool bc, .bool be]) 10 (by kernel_rfl) (by kernel_rfl) rfl ?_
      intro ac424 En425
      refine any_at 11 (by kernel_rfl) rfl ?_
      refine op_newbox (d := some 18) (T := 66) (v := .agg #[.slice none 0 0, .bool false, .slice none 0 0, .bool false, .slice aoq401 (List.length lh) coq401, .slice apq408 (List.length lp) cpq408, .slice aqq408 (List.length lq) cqq408, .bool fc, .bool fe, .slice apq415 (List.length lr) cpq415, .slice aqq415 (List.length lv) cqq415, .bool bc, .bool be]) (cs := [.slice none 0 0, .bool false, .slice none 0 0, .bool false, .slice aoq401 (List.length lh) coq401, .slice apq408 (List.length lp) cpq408, .slice aqq408 (List.length lq) cqq408, .bool fc, .bool fe, .slice apq415 (List.length lr) cpq415, .slice aqq415 (List.length lv) cqq415, .bool bc, .bool be]) En425 (by kernel_rfl) rfl Hv420 ?_
      intro ac427 wo428 bk426 En429 Hv430
      refine any_pureR (d := some 3) En429 (v := .pointer (some ⟨bk426, 0, none⟩)) 12 (by kernel_rfl) (by kernel_rfl) rfl ?_
      intro ac431 En432
      exact any_end (by kernel_rfl) ⟨aoq401, coq401, apq408, cpq408, aqq408, cqq408, apq415, cpq415, aqq415, cqq415, bk426, En432.sub (by kernel_rfl), Hv430.pick [0, 1, 2, 3, 4, 5, 6] (by kernel_rfl) (by decide)⟩
    have nd433 : ∀ (ac : Act) (wo : World), Env ac 50 [(1, .pointer (some ⟨bk1, 0, none⟩)), (2, .pointer none), (8, .slice ah (List.length lh) ch), (10, .pointer (some ⟨bk1, 1, none⟩)), (13, .pointer (some ⟨bk1, 5, none⟩))] → Ev w [] wo [.box bk1 [.slice ah (List.length lh) ch, .slice ap (List.length lp) cp, .slice aq (List.length lq) cq, .bool fc, .bool fe, .slice ar (List.length lr) cr, .slice av (List.length lv) cv, .bool bc, .bool be] 26] → G 9 #[true, true, false, true, false, false, true, false, false, false, false, false, false] ac wo := by
      intro ac434 wo435 En436 Hv437
      refine any_from hG ?_
      refine any_ways [2, 4, 7] (by kernel_rfl) rfl ?_
      refine ⟨?_, ?_, ?_, trivial⟩
      · rintro _ rfl
        have hM439 : Heap wo435 [] := Hv437.heap.pick [] (by kernel_rfl) (by decide)
        refine op_call (d := some 9) (f := 35) (args := #[.slice ah (List.length lh) ch]) En436 (by kernel_rfl) ((clone_go _ ah (List.length lh) ch lh (by first | rfl | (simp; done) | (simp; omega) | omega) ((ih.ev Hv437).pick [] (by kernel_rfl))).mono ?_)
        rintro _ wo441 ⟨aoq438, coq438, rfl, he444⟩
        refine ⟨_, rfl, ?_⟩
        intro ac440 En442
        have Hv443 : Ev w [] wo441 [.vec aoq438 coq438 1 (bys lh) 5, .box bk1 [.slice ah (List.length lh) ch, .slice ap (List.length lp) cp, .slice aq (List.length lq) cq, .bool fc, .bool fe, .slice ar (List.length lr) cr, .slice av (List.length lv) cv, .bool bc, .bool be] 26] := Hv437.trans (Ev.call (R := [.box bk1 [.slice ah (List.length lh) ch, .slice ap (List.length lp) cp, .slice aq (List.length lq) cq, .bool fc, .bool fe, .slice ar (List.length lr) cr, .slice av (List.length lv) cv, .bool bc, .bool be] 26]) Hv437.heap [0] (by kernel_rfl) (by decide) he444)
        clear hM439 he444
        exact any_to hG (by kernel_rfl) (nd357 _ _ aoq438 coq438 (En442.sub (by kernel_rfl)) (Hv443.pick [0, 1] (by kernel_rfl) (by decide)))
      · rintro _ rfl
        refine op_loadaggbox (d := some 11) (t := 24) (b := bk1) (off := 1) (k := 0) (m := 4) (xs := [.slice ap (List.length lp) cp, .slice aq (List.length lq) cq, .bool fc, .bool fe]) En436 (by kernel_rfl) Hv437 rfl rfl rfl (by kernel_rfl) (by kernel_rfl) ?_
        intro ac445 En446
        exact any_to hG (by kernel_rfl) (nd366 _ _ (En446.sub (by kernel_rfl)) (Hv437.pick [0] (by kernel_rfl) (by decide)))
      · rintro _ rfl
        refine op_loadaggbox (d := some 14) (t := 24) (b := bk1) (off := 5) (k := 0) (m := 4) (xs := [.slice ar (List.length lr) cr, .slice av (List.length lv) cv, .bool bc, .bool be]) En436 (by kernel_rfl) Hv437 rfl rfl rfl (by kernel_rfl) (by kernel_rfl) ?_
        intro ac447 En448
        exact any_to hG (by kernel_rfl) (nd380 _ _ (En448.sub (by kernel_rfl)) (Hv437.pick [0] (by kernel_rfl) (by decide)))
    have nd449 : ∀ (ac : Act) (wo : World), Env ac 50 [(1, .pointer (some ⟨bk1, 0, none⟩)), (2, .pointer none), (7, .pointer (some ⟨bk1, 0, none⟩)), (11, .agg #[.slice ap (List.length lp) cp, .slice aq (List.length lq) cq, .bool fc, .bool fe]), (13, .pointer (some ⟨bk1, 5, none⟩))] → Ev w [] wo [.box bk1 [.slice ah (List.length lh) ch, .slice ap (List.length lp) cp, .slice aq (List.length lq) cq, .bool fc, .bool fe, .slice ar (List.length lr) cr, .slice av (List.length lv) cv, .bool bc, .bool be] 26] → G 9 #[true, false, false, true, true, false, true, false, false, false, false, false, false] ac wo := by
      intro ac450 wo451 En452 Hv453
      refine any_from hG ?_
      refine any_two 1 7 (by kernel_rfl) ?_ ?_
      · rintro _ rfl
        refine op_loadbox (d := some 8) (t := 22) (b := bk1) (off := 0) (k := 0) (v := .slice ah (List.length lh) ch) En452 (by kernel_rfl) Hv453 rfl rfl (by kernel_rfl) ?_
        intro ac454 En455
        exact any_to hG (by kernel_rfl) (nd366 _ _ (En455.sub (by kernel_rfl)) (Hv453.pick [0] (by kernel_rfl) (by decide)))
      · rintro _ rfl
        refine op_loadaggbox (d := some 14) (t := 24) (b := bk1) (off := 5) (k := 0) (m := 4) (xs := [.slice ar (List.length lr) cr, .slice av (List.length lv) cv, .bool bc, .bool be]) En452 (by kernel_rfl) Hv453 rfl rfl rfl (by kernel_rfl) (by kernel_rfl) ?_
        intro ac456 En457
        exact any_to hG (by kernel_rfl) (nd394 _ _ (En457.sub (by kernel_rfl)) (Hv453.pick [0] (by kernel_rfl) (by decide)))
    have nd458 : ∀ (ac : Act) (wo : World), Env ac 50 [(1, .pointer (some ⟨bk1, 0, none⟩)), (2, .pointer none), (7, .pointer (some ⟨bk1, 0, none⟩)), (10, .pointer (some ⟨bk1, 1, none⟩)), (14, .agg #[.slice ar (List.length lr) cr, .slice av (List.length lv) cv, .bool bc, .bool be])] → Ev w [] wo [.box bk1 [.slice ah (List.length lh) ch, .slice ap (List.length lp) cp, .slice aq (List.length lq) cq, .bool fc, .bool fe, .slice ar (List.length lr) cr, .slice av (List.length lv) cv, .bool bc, .bool be] 26] → G 9 #[true, false, false, true, false, false, true, true, false, false, false, false, false] ac wo := by
      intro ac459 wo460 En461 Hv462
      refine any_from hG ?_
      refine any_two 1 4 (by kernel_rfl) ?_ ?_
      · rintro _ rfl
        refine op_loadbox (d := some 8) (t := 22) (b := bk1) (off := 0) (k := 0) (v := .slice ah (List.length lh) ch) En461 (by kernel_rfl) Hv462 rfl rfl (by kernel_rfl) ?_
        intro ac463 En464
        exact any_to hG (by kernel_rfl) (nd380 _ _ (En464.sub (by kernel_rfl)) (Hv462.pick [0] (by kernel_rfl) (by decide)))
      · rintro _ rfl
        refine op_loadaggbox (d := some 11) (t := 24) (b := bk1) (off := 1) (k := 0) (m := 4) (xs := [.slice ap (List.length lp) cp, .slice aq (List.length lq) cq, .bool fc, .bool fe]) En461 (by kernel_rfl) Hv462 rfl rfl rfl (by kernel_rfl) (by kernel_rfl) ?_
        intro ac465 En466
        exact any_to hG (by kernel_rfl) (nd394 _ _ (En466.sub (by kernel_rfl)) (Hv462.pick [0] (by kernel_rfl) (by decide)))
    refine any_from hG ?_
    refine any_pureR (d := some 7) En17 (v := .pointer (some ⟨bk1, 0, none⟩)) 0 (by kernel_rfl) (by kernel_rfl) rfl ?_
    intro ac467 En468
    refine any_pureR (d := some 10) En468 (v := .pointer (some ⟨bk1, 1, none⟩)) 3 (by kernel_rfl) (by kernel_rfl) rfl ?_
    intro ac469 En470
    refine any_pureR (d := some 13) En470 (v := .pointer (some ⟨bk1, 5, none⟩)) 6 (by kernel_rfl) (by kernel_rfl) rfl ?_
    intro ac471 En472
    refine any_ways [1, 4, 7] (by kernel_rfl) rfl ?_
    refine ⟨?_, ?_, ?_, trivial⟩
    · rintro _ rfl
      refine op_loadbox (d := some 8) (t := 22) (b := bk1) (off := 0) (k := 0) (v := .slice ah (List.length lh) ch) En472 (by kernel_rfl) wo18 rfl rfl (by kernel_rfl) ?_
      intro ac473 En474
      exact any_to hG (by kernel_rfl) (nd433 _ _ (En474.sub (by kernel_rfl)) (wo18.pick [0] (by kernel_rfl) (by decide)))
    · rintro _ rfl
      refine op_loadaggbox (d := some 11) (t := 24) (b := bk1) (off := 1) (k := 0) (m := 4) (xs := [.slice ap (List.length lp) cp, .slice aq (List.length lq) cq, .bool fc, .bool fe]) En472 (by kernel_rfl) wo18 rfl rfl rfl (by kernel_rfl) (by kernel_rfl) ?_
      intro ac475 En476
      exact any_to hG (by kernel_rfl) (nd449 _ _ (En476.sub (by kernel_rfl)) (wo18.pick [0] (by kernel_rfl) (by decide)))
    · rintro _ rfl
      refine op_loadaggbox (d := some 14) (t := 24) (b := bk1) (off := 5) (k := 0) (m := 4) (xs := [.slice ar (List.length lr) cr, .slice av (List.length lv) cv, .bool bc, .bool be]) En472 (by kernel_rfl) wo18 rfl rfl rfl (by kernel_rfl) (by kernel_rfl) ?_
      intro ac477 En478
      exact any_to hG (by kernel_rfl) (nd458 _ _ (En478.sub (by kernel_rfl)) (wo18.pick [0] (by kernel_rfl) (by decide)))
  rintro ac479 wo480 ⟨aoq27, coq27, apq36, cpq36, aqq36, cqq36, apq45, cpq45, aqq45, cqq45, bk56, En481, Hv482⟩
  refine then_normal ?_
  refine wp_seq ?_
  refine region_cut (F := fun ac wo => ∃ (aoq496 : _) (coq496 : _), Env ac 50 [(1, .pointer (some ⟨bk1, 0, none⟩)), (2, .pointer none), (3, .pointer (some ⟨bk56, 0, none⟩))] ∧ Ev w [] wo [.vec (cutAt aoq496 coq496 (List.length lv) 1) (coq496 - (List.length lv)) 1 (bys (List.drop (List.length lv) (lh ++ lp))) 5, .vec apq45 cpq45 1 (bys lr) 5, .vec aqq45 cqq45 1 (bys lv) 5, .vec apq36 cpq36 1 (bys lp) 5, .vec aqq36 cqq36 1 (bys lq) 5, .vec aoq27 coq27 1 (bys lh) 5, .box bk1 [.slice ah (List.length lh) ch, .slice ap (List.length lp) cp, .slice aq (List.length lq) cq, .bool fc, .bool fe, .slice ar (List.length lr) cr, .slice av (List.length lv) cv, .bool bc, .bool be] 26, .box bk56 [.slice (cutAt aoq496 coq496 (List.length lv) 1) (List.length (List.drop (List.length lv) (lh ++ lp))) (coq496 - (List.length lv)), .bool fc, .slice none 0 0, .bool false, .slice aoq27 (List.length lh) coq27, .slice apq36 (List.length lp) cpq36, .slice aqq36 (List.length lq) cqq36, .bool fc, .bool fe, .slice apq45 (List.length lr) cpq45, .slice aqq45 (List.length lv) cqq45, .bool bc, .bool be] 66]) ?_ ?_
  ·
    refine draw_any (by kernel_rfl) 15 (by kernel_rfl) ?_  -- region 4
    have wo483 := Hv482.trans (Ev.drew Hv482.heap)
    refine any_name fun G hG => ?_
    have nd712 : ∀ (ac : Act) (wo : World) (aoq496 : _) (coq496 : _), Env ac 50 [(1, .pointer (some ⟨bk1, 0, none⟩)), (2, .pointer none), (3, .pointer (some ⟨bk56, 0, none⟩)), (19, .pointer (some ⟨bk56, 0, none⟩)), (26, .slice (cutAt aoq496 coq496 (List.length lv) 1) (List.length (List.drop (List.length lv) (lh ++ lp))) (coq496 - (List.length lv))), (28, .pointer (some ⟨bk1, 3, none⟩))] → Ev w [] wo [.vec (cutAt aoq496 coq496 (List.length lv) 1) (coq496 - (List.length lv)) 1 (bys (List.drop (List.length lv) (lh ++ lp))) 5, .vec apq45 cpq45 1 (bys lr) 5, .vec aqq45 cqq45 1 (bys lv) 5, .vec apq36 cpq36 1 (bys lp) 5, .vec aqq36 cqq36 1 (bys lq) 5, .vec aoq27 coq27 1 (bys lh) 5, .box bk1 [.slice ah (List.length lh) ch, .slice ap (List.length lp) cp, .slice aq (List.length lq) cq, .bool fc, .bool fe, .slice ar (List.length lr) cr, .slice av (List.length lv) cv, .bool bc, .bool be] 26, .box bk56 [.slice none 0 0, .bool false, .slice none 0 0, .bool false, .slice aoq27 (List.length lh) coq27, .slice apq36 (List.length lp) cpq36, .slice aqq36 (List.length lq) cqq36, .bool fc, .bool fe, .slice apq45 (List.length lr) cpq45, .slice aqq45 (List.length lv) cqq45, .bool bc, .bool be] 66] → G 5 #[true, true, true, true, true, true, true, true, true, true, false, false, false, false, false] ac wo := by
      intro ac713 wo714 aoq496 coq496 En715 Hv716
      refine any_from hG ?_
      refine any_at 10 (by kernel_rfl) rfl ?_
      refine op_loadbox (d := some 29) (t := 4) (b := bk1) (off := 3) (k := 6) (v := .bool fc) En715 (by kernel_rfl) Hv716 rfl rfl (by kernel_rfl) ?_
      intro ac717 En718
      refine any_pureR (d := some 30) En718 (v := .agg #[.slice (cutAt aoq496 coq496 (List.length lv) 1) (List.length (List.drop (List.length lv) (lh ++ lp))) (coq496 - (List.length lv)), .bool fc]) 11 (by kernel_rfl) (by kernel_rfl) rfl ?_
      intro ac719 En720
      refine any_pureR (d := some 31) En720 (v := .pointer (some ⟨bk56, 0, none⟩)) 12 (by kernel_rfl) (by kernel_rfl) rfl ?_
      intro ac721 En722
      refine any_pureR (d := some 32) En722 (v := .pointer (some ⟨bk56, 0, none⟩)) 13 (by kernel_rfl) (by kernel_rfl) rfl ?_
      intro ac723 En724
      refine any_at 14 (by kernel_rfl) rfl ?_
      refine op_storeaggbox (d := none) (t := 64) (b := bk56) (off := 0) (k := 7) (m := 2) (xs := [.slice (cutAt aoq496 coq496 (List.length lv) 1) (List.length (List.drop (List.length lv) (lh ++ lp))) (coq496 - (List.length lv)), .bool fc]) (v := .agg #[.slice (cutAt aoq496 coq496 (List.length lv) 1) (List.length (List.drop (List.length lv) (lh ++ lp))) (coq496 - (List.length lv)), .bool fc]) (cs' := [.slice (cutAt aoq496 coq496 (List.length lv) 1) (List.length (List.drop (List.length lv) (lh ++ lp))) (coq496 - (List.length lv)), .bool fc, .slice none 0 0, .bool false, .slice aoq27 (List.length lh) coq27, .slice apq36 (List.length lp) cpq36, .slice aqq36 (List.length lq) cqq36, .bool fc, .bool fe, .slice apq45 (List.length lr) cpq45, .slice aqq45 (List.length lv) cqq45, .bool bc, .bool be]) En724 (by kernel_rfl) Hv716 rfl rfl rfl (by simp) (by kernel_rfl) (one_all (by kernel_rfl)) rfl (L' := [.vec (cutAt aoq496 coq496 (List.length lv) 1) (coq496 - (List.length lv)) 1 (bys (List.drop (List.length lv) (lh ++ lp))) 5, .vec apq45 cpq45 1 (bys lr) 5, .vec aqq45 cqq45 1 (bys lv) 5, .vec apq36 cpq36 1 (bys lp) 5, .vec aqq36 cqq36 1 (bys lq) 5, .vec aoq27 coq27 1 (bys lh) 5, .box bk1 [.slice ah (List.length lh) ch, .slice ap (List.length lp) cp, .slice aq (List.length lq) cq, .bool fc, .bool fe, .slice ar (List.length lr) cr, .slice av (List.length lv) cv, .bool bc, .bool be] 26, .box bk56 [.slice (cutAt aoq496 coq496 (List.length lv) 1) (List.length (List.drop (List.length lv) (lh ++ lp))) (coq496 - (List.length lv)), .bool fc, .slice none 0 0, .bool false, .slice aoq27 (List.length lh) coq27, .slice apq36 (List.length lp) cpq36, .slice aqq36 (List.length lq) cqq36, .bool fc, .bool fe, .slice apq45 (List.length lr) cpq45, .slice aqq45 (List.length lv) cqq45, .bool bc, .bool be] 66]) rfl ?_
      intro ac725 wo726  En727 Hv728
      exact any_end (by kernel_rfl) ⟨aoq496, coq496, En727.sub (by kernel_rfl), Hv728.pick [0, 1, 2, 3, 4, 5, 6, 7] (by kernel_rfl) (by decide)⟩
    have nd729 : ∀ (ac : Act) (wo : World) (aoq496 : _) (coq496 : _), Env ac 50 [(1, .pointer (some ⟨bk1, 0, none⟩)), (2, .pointer none), (3, .pointer (some ⟨bk56, 0, none⟩)), (19, .pointer (some ⟨bk56, 0, none⟩)), (21, .slice aoq496 (List.length (lh ++ lp)) coq496), (25, .int .i64 ((List.length lv : Nat) : Int)), (29, .bool fc)] → Ev w [] wo [.vec aoq496 coq496 1 (bys (lh ++ lp)) 5, .vec apq45 cpq45 1 (bys lr) 5, .vec aqq45 cqq45 1 (bys lv) 5, .vec apq36 cpq36 1 (bys lp) 5, .vec aqq36 cqq36 1 (bys lq) 5, .vec aoq27 coq27 1 (bys lh) 5, .box bk1 [.slice ah (List.length lh) ch, .slice ap (List.length lp) cp, .slice aq (List.length lq) cq, .bool fc, .bool fe, .slice ar (List.length lr) cr, .slice av (List.length lv) cv, .bool bc, .bool be] 26, .box bk56 [.slice none 0 0, .bool false, .slice none 0 0, .bool false, .slice aoq27 (List.length lh) coq27, .slice apq36 (List.length lp) cpq36, .slice aqq36 (List.length lq) cqq36, .bool fc, .bool fe, .slice apq45 (List.length lr) cpq45, .slice aqq45 (List.length lv) cqq45, .bool bc, .bool be] 66] → G 5 #[true, true, true, true, true, true, true, false, true, true, true, false, false, false, false] ac wo := by
      intro ac730 wo731 aoq496 coq496 En732 Hv733
      refine any_from hG ?_
      refine any_at 7 (by kernel_rfl) rfl ?_
      have hcap734 := bys_vcap Hv733.heap (k := 0) rfl
      refine op_slice (d := some 26) (t := 22) (e := 5) (sz := 1) (len := List.length (lh ++ lp)) (cap := coq496) (lo := List.length lv) (hi := List.length (lh ++ lp)) (ao := aoq496) (lov := (some (.int .i64 ((List.length lv : Nat) : Int)))) (hiv := none) En732 (by kernel_rfl) (by kernel_rfl) (by kernel_rfl) (by omega) (by omega) (.inr ⟨.i64, rfl⟩) (.inl ⟨rfl, rfl⟩) ?_
      intro ac735 En736
      have Hv737 : Ev w [] wo731 [.vec (cutAt aoq496 coq496 (List.length lv) 1) (coq496 - (List.length lv)) 1 (bys (List.drop (List.length lv) (lh ++ lp))) 5, .vec apq45 cpq45 1 (bys lr) 5, .vec aqq45 cqq45 1 (bys lv) 5, .vec apq36 cpq36 1 (bys lp) 5, .vec aqq36 cqq36 1 (bys lq) 5, .vec aoq27 coq27 1 (bys lh) 5, .box bk1 [.slice ah (List.length lh) ch, .slice ap (List.length lp) cp, .slice aq (List.length lq) cq, .bool fc, .bool fe, .slice ar (List.length lr) cr, .slice av (List.length lv) cv, .bool bc, .bool be] 26, .box bk56 [.slice none 0 0, .bool false, .slice none 0 0, .bool false, .slice aoq27 (List.length lh) coq27, .slice apq36 (List.length lp) cpq36, .slice aqq36 (List.length lq) cqq36, .bool fc, .bool fe, .slice apq45 (List.length lr) cpq45, .slice aqq45 (List.length lv) cqq45, .bool bc, .bool be] 66] := by
        have h := Ev.cut (k := 0) (n := List.length (lh ++ lp)) (sz := 1) Hv733 rfl (bys_len _) (by omega) (List.length lv) (List.length (lh ++ lp)) (by omega) (by omega)
        rw [bys_cutw (l := lh ++ lp) (lo := List.length lv) (n := List.length (lh ++ lp)) (by simp)] at h
        exact h
      have el738 : (List.length (lh ++ lp)) - (List.length lv) = List.length (List.drop (List.length lv) (lh ++ lp)) := by first | (simp; done) | (simp; omega)
      rw [el738] at En736
      refine any_pureR (d := some 30) En736 (v := .agg #[.slice (cutAt aoq496 coq496 (List.length lv) 1) (List.length (List.drop (List.length lv) (lh ++ lp))) (coq496 - (List.length lv)), .bool fc]) 11 (by kernel_rfl) (by kernel_rfl) rfl ?_
      intro ac739 En740
      refine any_pureR (d := some 31) En740 (v := .pointer (some ⟨bk56, 0, none⟩)) 12 (by kernel_rfl) (by kernel_rfl) rfl ?_
      intro ac741 En742
      refine any_pureR (d := some 32) En742 (v := .pointer (some ⟨bk56, 0, none⟩)) 13 (by kernel_rfl) (by kernel_rfl) rfl ?_
      intro ac743 En744
      refine any_at 14 (by kernel_rfl) rfl ?_
      refine op_storeaggbox (d := none) (t := 64) (b := bk56) (off := 0) (k := 7) (m := 2) (xs := [.slice (cutAt aoq496 coq496 (List.length lv) 1) (List.length (List.drop (List.length lv) (lh ++ lp))) (coq496 - (List.length lv)), .bool fc]) (v := .agg #[.slice (cutAt aoq496 coq496 (List.length lv) 1) (List.length (List.drop (List.length lv) (lh ++ lp))) (coq496 - (List.length lv)), .bool fc]) (cs' := [.slice (cutAt aoq496 coq496 (List.length lv) 1) (List.length (List.drop (List.length lv) (lh ++ lp))) (coq496 - (List.length lv)), .bool fc, .slice none 0 0, .bool false, .slice aoq27 (List.length lh) coq27, .slice apq36 (List.length lp) cpq36, .slice aqq36 (List.length lq) cqq36, .bool fc, .bool fe, .slice apq45 (List.length lr) cpq45, .slice aqq45 (List.length lv) cqq45, .bool bc, .bool be]) En744 (by kernel_rfl) Hv737 rfl rfl rfl (by simp) (by kernel_rfl) (one_all (by kernel_rfl)) rfl (L' := [.vec (cutAt aoq496 coq496 (List.length lv) 1) (coq496 - (List.length lv)) 1 (bys (List.drop (List.length lv) (lh ++ lp))) 5, .vec apq45 cpq45 1 (bys lr) 5, .vec aqq45 cqq45 1 (bys lv) 5, .vec apq36 cpq36 1 (bys lp) 5, .vec aqq36 cqq36 1 (bys lq) 5, .vec aoq27 coq27 1 (bys lh) 5, .box bk1 [.slice ah (List.length lh) ch, .slice ap (List.length lp) cp, .slice aq (List.length lq) cq, .bool fc, .bool fe, .slice ar (List.length lr) cr, .slice av (List.length lv) cv, .bool bc, .bool be] 26, .box bk56 [.slice (cutAt aoq496 coq496 (List.length lv) 1) (List.length (List.drop (List.length lv) (lh ++ lp))) (coq496 - (List.length lv)), .bool fc, .slice none 0 0, .bool false, .slice aoq27 (List.length lh) coq27, .slice apq36 (List.length lp) cpq36, .slice aqq36 (List.length lq) cqq36, .bool fc, .bool fe, .slice apq45 (List.length lr) cpq45, .slice aqq45 (List.length lv) cqq45, .bool bc, .bool be] 66]) rfl ?_
      intro ac745 wo746  En747 Hv748
      exact any_end (by kernel_rfl) ⟨aoq496, coq496, En747.sub (by kernel_rfl), Hv748.pick [0, 1, 2, 3, 4, 5, 6, 7] (by kernel_rfl) (by decide)⟩
    have nd749 : ∀ (ac : Act) (wo : World) (aoq566 : _) (coq566 : _), Env ac 50 [(1, .pointer (some ⟨bk1, 0, none⟩)), (2, .pointer none), (3, .pointer (some ⟨bk56, 0, none⟩)), (19, .pointer (some ⟨bk56, 0, none⟩)), (21, .slice aoq566 (List.length (lh ++ lp)) coq566), (25, .int .i64 ((List.length lv : Nat) : Int)), (28, .pointer (some ⟨bk1, 3, none⟩))] → Ev w [] wo [.vec aoq566 coq566 1 (bys (lh ++ lp)) 5, .vec apq45 cpq45 1 (bys lr) 5, .vec aqq45 cqq45 1 (bys lv) 5, .vec apq36 cpq36 1 (bys lp) 5, .vec aqq36 cqq36 1 (bys lq) 5, .vec aoq27 coq27 1 (bys lh) 5, .box bk1 [.slice ah (List.length lh) ch, .slice ap (List.length lp) cp, .slice aq (List.length lq) cq, .bool fc, .bool fe, .slice ar (List.length lr) cr, .slice av (List.length lv) cv, .bool bc, .bool be] 26, .box bk56 [.slice none 0 0, .bool false, .slice none 0 0, .bool false, .slice aoq27 (List.length lh) coq27, .slice apq36 (List.length lp) cpq36, .slice aqq36 (List.length lq) cqq36, .bool fc, .bool fe, .slice apq45 (List.length lr) cpq45, .slice aqq45 (List.length lv) cqq45, .bool bc, .bool be] 66] → G 6 #[true, true, true, true, true, true, true, false, true, true, false, false, false, false, false] ac wo := by
      intro ac750 wo751 aoq566 coq566 En752 Hv753
      refine any_from hG ?_
      refine any_two 7 10 (by kernel_rfl) ?_ ?_
      · rintro _ rfl
        have hcap754 := bys_vcap Hv753.heap (k := 0) rfl
        refine op_slice (d := some 26) (t := 22) (e := 5) (sz := 1) (len := List.length (lh ++ lp)) (cap := coq566) (lo := List.length lv) (hi := List.length (lh ++ lp)) (ao := aoq566) (lov := (some (.int .i64 ((List.length lv : Nat) : Int)))) (hiv := none) En752 (by kernel_rfl) (by kernel_rfl) (by kernel_rfl) (by omega) (by omega) (.inr ⟨.i64, rfl⟩) (.inl ⟨rfl, rfl⟩) ?_
        intro ac755 En756
        have Hv757 : Ev w [] wo751 [.vec (cutAt aoq566 coq566 (List.length lv) 1) (coq566 - (List.length lv)) 1 (bys (List.drop (List.length lv) (lh ++ lp))) 5, .vec apq45 cpq45 1 (bys lr) 5, .vec aqq45 cqq45 1 (bys lv) 5, .vec apq36 cpq36 1 (bys lp) 5, .vec aqq36 cqq36 1 (bys lq) 5, .vec aoq27 coq27 1 (bys lh) 5, .box bk1 [.slice ah (List.length lh) ch, .slice ap (List.length lp) cp, .slice aq (List.length lq) cq, .bool fc, .bool fe, .slice ar (List.length lr) cr, .slice av (List.length lv) cv, .bool bc, .bool be] 26, .box bk56 [.slice none 0 0, .bool false, .slice none 0 0, .bool false, .slice aoq27 (List.length lh) coq27, .slice apq36 (List.length lp) cpq36, .slice aqq36 (List.length lq) cqq36, .bool fc, .bool fe, .slice apq45 (List.length lr) cpq45, .slice aqq45 (List.length lv) cqq45, .bool bc, .bool be] 66] := by
          have h := Ev.cut (k := 0) (n := List.length (lh ++ lp)) (sz := 1) Hv753 rfl (bys_len _) (by omega) (List.length lv) (List.length (lh ++ lp)) (by omega) (by omega)
          rw [bys_cutw (l := lh ++ lp) (lo := List.length lv) (n := List.length (lh ++ lp)) (by simp)] at h
          exact h
        have el758 : (List.length (lh ++ lp)) - (List.length lv) = List.length (List.drop (List.length lv) (lh ++ lp)) := by first | (simp; done) | (simp; omega)
        rw [el758] at En756
        exact any_to hG (by kernel_rfl) (nd712 _ _ aoq566 coq566 (En756.sub (by kernel_rfl)) (Hv757.pick [0, 1, 2, 3, 4, 5, 6, 7] (by kernel_rfl) (by decide)))
      · rintro _ rfl
        refine op_loadbox (d := some 29) (t := 4) (b := bk1) (off := 3) (k := 6) (v := .bool fc) En752 (by kernel_rfl) Hv753 rfl rfl (by kernel_rfl) ?_
        intro ac759 En760
        exact any_to hG (by kernel_rfl) (nd729 _ _ aoq566 coq566 (En760.sub (by kernel_rfl)) (Hv753.pick [0, 1, 2, 3, 4, 5, 6, 7] (by kernel_rfl) (by decide)))
    have nd761 : ∀ (ac : Act) (wo : World), Env ac 50 [(1, .pointer (some ⟨bk1, 0, none⟩)), (2, .pointer none), (3, .pointer (some ⟨bk56, 0, none⟩)), (19, .pointer (some ⟨bk56, 0, none⟩)), (20, .agg #[.slice ah (List.length lh) ch, .slice ap (List.length lp) cp, .slice aq (List.length lq) cq, .bool fc, .bool fe, .slice ar (List.length lr) cr, .slice av (List.length lv) cv, .bool bc, .bool be]), (25, .int .i64 ((List.length lv : Nat) : Int)), (29, .bool fc)] → Ev w [] wo [.vec apq45 cpq45 1 (bys lr) 5, .vec aqq45 cqq45 1 (bys lv) 5, .vec apq36 cpq36 1 (bys lp) 5, .vec aqq36 cqq36 1 (bys lq) 5, .vec aoq27 coq27 1 (bys lh) 5, .box bk1 [.slice ah (List.length lh) ch, .slice ap (List.length lp) cp, .slice aq (List.length lq) cq, .bool fc, .bool fe, .slice ar (List.length lr) cr, .slice av (List.length lv) cv, .bool bc, .bool be] 26, .box bk56 [.slice none 0 0, .bool false, .slice none 0 0, .bool false, .slice aoq27 (List.length lh) coq27, .slice apq36 (List.length lp) cpq36, .slice aqq36 (List.length lq) cqq36, .bool fc, .bool fe, .slice apq45 (List.length lr) cpq45, .slice aqq45 (List.length lv) cqq45, .bool bc, .bool be] 66] → G 6 #[true, true, false, true, true, true, true, false, true, true, true, false, false, false, false] ac wo := by
      intro ac762 wo763 En764 Hv765
      refine any_from hG ?_
      refine any_at 2 (by kernel_rfl) rfl ?_
      have hM767 : Heap wo763 [] := Hv765.heap.pick [] (by kernel_rfl) (by decide)
      refine op_call (d := some 21) (f := 28) (args := #[.agg #[.slice ah (List.length lh) ch, .slice ap (List.length lp) cp, .slice aq (List.length lq) cq, .bool fc, .bool fe, .slice ar (List.length lr) cr, .slice av (List.length lv) cv, .bool bc, .bool be]]) En764 (by kernel_rfl) ((whole_go _ ah (List.length lh) ch lh (by first | rfl | (simp; done) | (simp; omega) | omega) ((ih.ev Hv765).pick [] (by kernel_rfl)) ap (List.length lp) cp lp (by first | rfl | (simp; done) | (simp; omega) | omega) ((ip.ev Hv765).pick [] (by kernel_rfl)) aq (List.length lq) cq lq (by first | rfl | (simp; done) | (simp; omega) | omega) ((iq.ev Hv765).pick [] (by kernel_rfl)) fc fe ar (List.length lr) cr lr (by first | rfl | (simp; done) | (simp; omega) | omega) ((ir.ev Hv765).pick [] (by kernel_rfl)) av (List.length lv) cv lv (by first | rfl | (simp; done) | (simp; omega) | omega) ((iv.ev Hv765).pick [] (by kernel_rfl)) bc be (by first | omega | (simp; done) | (simp; omega))).mono ?_)
      rintro _ wo769 ⟨aoq766, coq766, rfl, he772⟩
      refine ⟨_, rfl, ?_⟩
      intro ac768 En770
      have Hv771 : Ev w [] wo769 [.vec aoq766 coq766 1 (bys (lh ++ lp)) 5, .vec apq45 cpq45 1 (bys lr) 5, .vec aqq45 cqq45 1 (bys lv) 5, .vec apq36 cpq36 1 (bys lp) 5, .vec aqq36 cqq36 1 (bys lq) 5, .vec aoq27 coq27 1 (bys lh) 5, .box bk1 [.slice ah (List.length lh) ch, .slice ap (List.length lp) cp, .slice aq (List.length lq) cq, .bool fc, .bool fe, .slice ar (List.length lr) cr, .slice av (List.length lv) cv, .bool bc, .bool be] 26, .box bk56 [.slice none 0 0, .bool false, .slice none 0 0, .bool false, .slice aoq27 (List.length lh) coq27, .slice apq36 (List.length lp) cpq36, .slice aqq36 (List.length lq) cqq36, .bool fc, .bool fe, .slice apq45 (List.length lr) cpq45, .slice aqq45 (List.length lv) cqq45, .bool bc, .bool be] 66] := Hv765.trans (Ev.call (R := [.vec apq45 cpq45 1 (bys lr) 5, .vec aqq45 cqq45 1 (bys lv) 5, .vec apq36 cpq36 1 (bys lp) 5, .vec aqq36 cqq36 1 (bys lq) 5, .vec aoq27 coq27 1 (bys lh) 5, .box bk1 [.slice ah (List.length lh) ch, .slice ap (List.length lp) cp, .slice aq (List.length lq) cq, .bool fc, .bool fe, .slice ar (List.length lr) cr, .slice av (List.length lv) cv, .bool bc, .bool be] 26, .box bk56 [.slice none 0 0, .bool false, .slice none 0 0, .bool false, .slice aoq27 (List.length lh) coq27, .slice apq36 (List.length lp) cpq36, .slice aqq36 (List.length lq) cqq36, .bool fc, .bool fe, .slice apq45 (List.length lr) cpq45, .slice aqq45 (List.length lv) cqq45, .bool bc, .bool be] 66]) Hv765.heap [0, 1, 2, 3, 4, 5, 6] (by kernel_rfl) (by decide) he772)
      clear hM767 he772
      refine any_at 7 (by kernel_rfl) rfl ?_
      have hcap773 := bys_vcap Hv771.heap (k := 0) rfl
      refine op_slice (d := some 26) (t := 22) (e := 5) (sz := 1) (len := List.length (lh ++ lp)) (cap := coq766) (lo := List.length lv) (hi := List.length (lh ++ lp)) (ao := aoq766) (lov := (some (.int .i64 ((List.length lv : Nat) : Int)))) (hiv := none) En770 (by kernel_rfl) (by kernel_rfl) (by kernel_rfl) (by omega) (by omega) (.inr ⟨.i64, rfl⟩) (.inl ⟨rfl, rfl⟩) ?_
      intro ac774 En775
      have Hv776 : Ev w [] wo769 [.vec (cutAt aoq766 coq766 (List.length lv) 1) (coq766 - (List.length lv)) 1 (bys (List.drop (List.length lv) (lh ++ lp))) 5, .vec apq45 cpq45 1 (bys lr) 5, .vec aqq45 cqq45 1 (bys lv) 5, .vec apq36 cpq36 1 (bys lp) 5, .vec aqq36 cqq36 1 (bys lq) 5, .vec aoq27 coq27 1 (bys lh) 5, .box bk1 [.slice ah (List.length lh) ch, .slice ap (List.length lp) cp, .slice aq (List.length lq) cq, .bool fc, .bool fe, .slice ar (List.length lr) cr, .slice av (List.length lv) cv, .bool bc, .bool be] 26, .box bk56 [.slice none 0 0, .bool false, .slice none 0 0, .bool false, .slice aoq27 (List.length lh) coq27, .slice apq36 (List.length lp) cpq36, .slice aqq36 (List.length lq) cqq36, .bool fc, .bool fe, .slice apq45 (List.length lr) cpq45, .slice aqq45 (List.length lv) cqq45, .bool bc, .bool be] 66] := by
        have h := Ev.cut (k := 0) (n := List.length (lh ++ lp)) (sz := 1) Hv771 rfl (bys_len _) (by omega) (List.length lv) (List.length (lh ++ lp)) (by omega) (by omega)
        rw [bys_cutw (l := lh ++ lp) (lo := List.length lv) (n := List.length (lh ++ lp)) (by simp)] at h
        exact h
      have el777 : (List.length (lh ++ lp)) - (List.length lv) = List.length (List.drop (List.length lv) (lh ++ lp)) := by first | (simp; done) | (simp; omega)
      rw [el777] at En775
      refine any_pureR (d := some 30) En775 (v := .agg #[.slice (cutAt aoq766 coq766 (List.length lv) 1) (List.length (List.drop (List.length lv) (lh ++ lp))) (coq766 - (List.length lv)), .bool fc]) 11 (by kernel_rfl) (by kernel_rfl) rfl ?_
      intro ac778 En779
      refine any_pureR (d := some 31) En779 (v := .pointer (some ⟨bk56, 0, none⟩)) 12 (by kernel_rfl) (by kernel_rfl) rfl ?_
      intro ac780 En781
      refine any_pureR (d := some 32) En781 (v := .pointer (some ⟨bk56, 0, none⟩)) 13 (by kernel_rfl) (by kernel_rfl) rfl ?_
      intro ac782 En783
      refine any_at 14 (by kernel_rfl) rfl ?_
      refine op_storeaggbox (d := none) (t := 64) (b := bk56) (off := 0) (k := 7) (m := 2) (xs := [.slice (cutAt aoq766 coq766 (List.length lv) 1) (List.length (List.drop (List.length lv) (lh ++ lp))) (coq766 - (List.length lv)), .bool fc]) (v := .agg #[.slice (cutAt aoq766 coq766 (List.length lv) 1) (List.length (List.drop (List.length lv) (lh ++ lp))) (coq766 - (List.length lv)), .bool fc]) (cs' := [.slice (cutAt aoq766 coq766 (List.length lv) 1) (List.length (List.drop (List.length lv) (lh ++ lp))) (coq766 - (List.length lv)), .bool fc, .slice none 0 0, .bool false, .slice aoq27 (List.length lh) coq27, .slice apq36 (List.length lp) cpq36, .slice aqq36 (List.length lq) cqq36, .bool fc, .bool fe, .slice apq45 (List.length lr) cpq45, .slice aqq45 (List.length lv) cqq45, .bool bc, .bool be]) En783 (by kernel_rfl) Hv776 rfl rfl rfl (by simp) (by kernel_rfl) (one_all (by kernel_rfl)) rfl (L' := [.vec (cutAt aoq766 coq766 (List.length lv) 1) (coq766 - (List.length lv)) 1 (bys (List.drop (List.length lv) (lh ++ lp))) 5, .vec apq45 cpq45 1 (bys lr) 5, .vec aqq45 cqq45 1 (bys lv) 5, .vec apq36 cpq36 1 (bys lp) 5, .vec aqq36 cqq36 1 (bys lq) 5, .vec aoq27 coq27 1 (bys lh) 5, .box bk1 [.slice ah (List.length lh) ch, .slice ap (List.length lp) cp, .slice aq (List.length lq) cq, .bool fc, .bool fe, .slice ar (List.length lr) cr, .slice av (List.length lv) cv, .bool bc, .bool be] 26, .box bk56 [.slice (cutAt aoq766 coq766 (List.length lv) 1) (List.length (List.drop (List.length lv) (lh ++ lp))) (coq766 - (List.length lv)), .bool fc, .slice none 0 0, .bool false, .slice aoq27 (List.length lh) coq27, .slice apq36 (List.length lp) cpq36, .slice aqq36 (List.length lq) cqq36, .bool fc, .bool fe, .slice apq45 (List.length lr) cpq45, .slice aqq45 (List.length lv) cqq45, .bool bc, .bool be] 66]) rfl ?_
      intro ac784 wo785  En786 Hv787
      exact any_end (by kernel_rfl) ⟨aoq766, coq766, En786.sub (by kernel_rfl), Hv787.pick [0, 1, 2, 3, 4, 5, 6, 7] (by kernel_rfl) (by decide)⟩
    have nd788 : ∀ (ac : Act) (wo : World) (aoq496 : _) (coq496 : _), Env ac 50 [(1, .pointer (some ⟨bk1, 0, none⟩)), (2, .pointer none), (3, .pointer (some ⟨bk56, 0, none⟩)), (19, .pointer (some ⟨bk56, 0, none⟩)), (21, .slice aoq496 (List.length (lh ++ lp)) coq496), (24, .slice av (List.length lv) cv), (28, .pointer (some ⟨bk1, 3, none⟩))] → Ev w [] wo [.vec aoq496 coq496 1 (bys (lh ++ lp)) 5, .vec apq45 cpq45 1 (bys lr) 5, .vec aqq45 cqq45 1 (bys lv) 5, .vec apq36 cpq36 1 (bys lp) 5, .vec aqq36 cqq36 1 (bys lq) 5, .vec aoq27 coq27 1 (bys lh) 5, .box bk1 [.slice ah (List.length lh) ch, .slice ap (List.length lp) cp, .slice aq (List.length lq) cq, .bool fc, .bool fe, .slice ar (List.length lr) cr, .slice av (List.length lv) cv, .bool bc, .bool be] 26, .box bk56 [.slice none 0 0, .bool false, .slice none 0 0, .bool false, .slice aoq27 (List.length lh) coq27, .slice apq36 (List.length lp) cpq36, .slice aqq36 (List.length lq) cqq36, .bool fc, .bool fe, .slice apq45 (List.length lr) cpq45, .slice aqq45 (List.length lv) cqq45, .bool bc, .bool be] 66] → G 7 #[true, true, true, true, true, true, false, false, true, true, false, false, false, false, false] ac wo := by
      intro ac789 wo790 aoq496 coq496 En791 Hv792
      refine any_from hG ?_
      refine any_pureR (d := some 25) En791 (v := .int .i64 ((List.length lv : Nat) : Int)) 6 (by kernel_rfl) (by kernel_rfl) rfl ?_
      intro ac793 En794
      refine any_two 7 10 (by kernel_rfl) ?_ ?_
      · rintro _ rfl
        have hcap795 := bys_vcap Hv792.heap (k := 0) rfl
        refine op_slice (d := some 26) (t := 22) (e := 5) (sz := 1) (len := List.length (lh ++ lp)) (cap := coq496) (lo := List.length lv) (hi := List.length (lh ++ lp)) (ao := aoq496) (lov := (some (.int .i64 ((List.length lv : Nat) : Int)))) (hiv := none) En794 (by kernel_rfl) (by kernel_rfl) (by kernel_rfl) (by omega) (by omega) (.inr ⟨.i64, rfl⟩) (.inl ⟨rfl, rfl⟩) ?_
        intro ac796 En797
        have Hv798 : Ev w [] wo790 [.vec (cutAt aoq496 coq496 (List.length lv) 1) (coq496 - (List.length lv)) 1 (bys (List.drop (List.length lv) (lh ++ lp))) 5, .vec apq45 cpq45 1 (bys lr) 5, .vec aqq45 cqq45 1 (bys lv) 5, .vec apq36 cpq36 1 (bys lp) 5, .vec aqq36 cqq36 1 (bys lq) 5, .vec aoq27 coq27 1 (bys lh) 5, .box bk1 [.slice ah (List.length lh) ch, .slice ap (List.length lp) cp, .slice aq (List.length lq) cq, .bool fc, .bool fe, .slice ar (List.length lr) cr, .slice av (List.length lv) cv, .bool bc, .bool be] 26, .box bk56 [.slice none 0 0, .bool false, .slice none 0 0, .bool false, .slice aoq27 (List.length lh) coq27, .slice apq36 (List.length lp) cpq36, .slice aqq36 (List.length lq) cqq36, .bool fc, .bool fe, .slice apq45 (List.length lr) cpq45, .slice aqq45 (List.length lv) cqq45, .bool bc, .bool be] 66] := by
          have h := Ev.cut (k := 0) (n := List.length (lh ++ lp)) (sz := 1) Hv792 rfl (bys_len _) (by omega) (List.length lv) (List.length (lh ++ lp)) (by omega) (by omega)
          rw [bys_cutw (l := lh ++ lp) (lo := List.length lv) (n := List.length (lh ++ lp)) (by simp)] at h
          exact h
        have el799 : (List.length (lh ++ lp)) - (List.length lv) = List.length (List.drop (List.length lv) (lh ++ lp)) := by first | (simp; done) | (simp; omega)
        rw [el799] at En797
        exact any_to hG (by kernel_rfl) (nd712 _ _ aoq496 coq496 (En797.sub (by kernel_rfl)) (Hv798.pick [0, 1, 2, 3, 4, 5, 6, 7] (by kernel_rfl) (by decide)))
      · rintro _ rfl
        refine op_loadbox (d := some 29) (t := 4) (b := bk1) (off := 3) (k := 6) (v := .bool fc) En794 (by kernel_rfl) Hv792 rfl rfl (by kernel_rfl) ?_
        intro ac800 En801
        exact any_to hG (by kernel_rfl) (nd729 _ _ aoq496 coq496 (En801.sub (by kernel_rfl)) (Hv792.pick [0, 1, 2, 3, 4, 5, 6, 7] (by kernel_rfl) (by decide)))
    have nd802 : ∀ (ac : Act) (wo : World) (aoq496 : _) (coq496 : _), Env ac 50 [(1, .pointer (some ⟨bk1, 0, none⟩)), (2, .pointer none), (3, .pointer (some ⟨bk56, 0, none⟩)), (19, .pointer (some ⟨bk56, 0, none⟩)), (21, .slice aoq496 (List.length (lh ++ lp)) coq496), (23, .pointer (some ⟨bk1, 6, none⟩)), (29, .bool fc)] → Ev w [] wo [.vec aoq496 coq496 1 (bys (lh ++ lp)) 5, .vec apq45 cpq45 1 (bys lr) 5, .vec aqq45 cqq45 1 (bys lv) 5, .vec apq36 cpq36 1 (bys lp) 5, .vec aqq36 cqq36 1 (bys lq) 5, .vec aoq27 coq27 1 (bys lh) 5, .box bk1 [.slice ah (List.length lh) ch, .slice ap (List.length lp) cp, .slice aq (List.length lq) cq, .bool fc, .bool fe, .slice ar (List.length lr) cr, .slice av (List.length lv) cv, .bool bc, .bool be] 26, .box bk56 [.slice none 0 0, .bool false, .slice none 0 0, .bool false, .slice aoq27 (List.length lh) coq27, .slice apq36 (List.length lp) cpq36, .slice aqq36 (List.length lq) cqq36, .bool fc, .bool fe, .slice apq45 (List.length lr) cpq45, .slice aqq45 (List.length lv) cqq45, .bool bc, .bool be] 66] → G 7 #[true, true, true, true, true, false, false, false, true, true, true, false, false, false, false] ac wo := by
      intro ac803 wo804 aoq496 coq496 En805 Hv806
      refine any_from hG ?_
      refine any_at 5 (by kernel_rfl) rfl ?_
      refine op_loadbox (d := some 24) (t := 22) (b := bk1) (off := 6) (k := 6) (v := .slice av (List.length lv) cv) En805 (by kernel_rfl) Hv806 rfl rfl (by kernel_rfl) ?_
      intro ac807 En808
      refine any_pureR (d := some 25) En808 (v := .int .i64 ((List.length lv : Nat) : Int)) 6 (by kernel_rfl) (by kernel_rfl) rfl ?_
      intro ac809 En810
      refine any_at 7 (by kernel_rfl) rfl ?_
      have hcap811 := bys_vcap Hv806.heap (k := 0) rfl
      refine op_slice (d := some 26) (t := 22) (e := 5) (sz := 1) (len := List.length (lh ++ lp)) (cap := coq496) (lo := List.length lv) (hi := List.length (lh ++ lp)) (ao := aoq496) (lov := (some (.int .i64 ((List.length lv : Nat) : Int)))) (hiv := none) En810 (by kernel_rfl) (by kernel_rfl) (by kernel_rfl) (by omega) (by omega) (.inr ⟨.i64, rfl⟩) (.inl ⟨rfl, rfl⟩) ?_
      intro ac812 En813
      have Hv814 : Ev w [] wo804 [.vec (cutAt aoq496 coq496 (List.length lv) 1) (coq496 - (List.length lv)) 1 (bys (List.drop (List.length lv) (lh ++ lp))) 5, .vec apq45 cpq45 1 (bys lr) 5, .vec aqq45 cqq45 1 (bys lv) 5, .vec apq36 cpq36 1 (bys lp) 5, .vec aqq36 cqq36 1 (bys lq) 5, .vec aoq27 coq27 1 (bys lh) 5, .box bk1 [.slice ah (List.length lh) ch, .slice ap (List.length lp) cp, .slice aq (List.length lq) cq, .bool fc, .bool fe, .slice ar (List.length lr) cr, .slice av (List.length lv) cv, .bool bc, .bool be] 26, .box bk56 [.slice none 0 0, .bool false, .slice none 0 0, .bool false, .slice aoq27 (List.length lh) coq27, .slice apq36 (List.length lp) cpq36, .slice aqq36 (List.length lq) cqq36, .bool fc, .bool fe, .slice apq45 (List.length lr) cpq45, .slice aqq45 (List.length lv) cqq45, .bool bc, .bool be] 66] := by
        have h := Ev.cut (k := 0) (n := List.length (lh ++ lp)) (sz := 1) Hv806 rfl (bys_len _) (by omega) (List.length lv) (List.length (lh ++ lp)) (by omega) (by omega)
        rw [bys_cutw (l := lh ++ lp) (lo := List.length lv) (n := List.length (lh ++ lp)) (by simp)] at h
        exact h
      have el815 : (List.length (lh ++ lp)) - (List.length lv) = List.length (List.drop (List.length lv) (lh ++ lp)) := by first | (simp; done) | (simp; omega)
      rw [el815] at En813
      refine any_pureR (d := some 30) En813 (v := .agg #[.slice (cutAt aoq496 coq496 (List.length lv) 1) (List.length (List.drop (List.length lv) (lh ++ lp))) (coq496 - (List.length lv)), .bool fc]) 11 (by kernel_rfl) (by kernel_rfl) rfl ?_
      intro ac816 En817
      refine any_pureR (d := some 31) En817 (v := .pointer (some ⟨bk56, 0, none⟩)) 12 (by kernel_rfl) (by kernel_rfl) rfl ?_
      intro ac818 En819
      refine any_pureR (d := some 32) En819 (v := .pointer (some ⟨bk56, 0, none⟩)) 13 (by kernel_rfl) (by kernel_rfl) rfl ?_
      intro ac820 En821
      refine any_at 14 (by kernel_rfl) rfl ?_
      refine op_storeaggbox (d := none) (t := 64) (b := bk56) (off := 0) (k := 7) (m := 2) (xs := [.slice (cutAt aoq496 coq496 (List.length lv) 1) (List.length (List.drop (List.length lv) (lh ++ lp))) (coq496 - (List.length lv)), .bool fc]) (v := .agg #[.slice (cutAt aoq496 coq496 (List.length lv) 1) (List.length (List.drop (List.length lv) (lh ++ lp))) (coq496 - (List.length lv)), .bool fc]) (cs' := [.slice (cutAt aoq496 coq496 (List.length lv) 1) (List.length (List.drop (List.length lv) (lh ++ lp))) (coq496 - (List.length lv)), .bool fc, .slice none 0 0, .bool false, .slice aoq27 (List.length lh) coq27, .slice apq36 (List.length lp) cpq36, .slice aqq36 (List.length lq) cqq36, .bool fc, .bool fe, .slice apq45 (List.length lr) cpq45, .slice aqq45 (List.length lv) cqq45, .bool bc, .bool be]) En821 (by kernel_rfl) Hv814 rfl rfl rfl (by simp) (by kernel_rfl) (one_all (by kernel_rfl)) rfl (L' := [.vec (cutAt aoq496 coq496 (List.length lv) 1) (coq496 - (List.length lv)) 1 (bys (List.drop (List.length lv) (lh ++ lp))) 5, .vec apq45 cpq45 1 (bys lr) 5, .vec aqq45 cqq45 1 (bys lv) 5, .vec apq36 cpq36 1 (bys lp) 5, .vec aqq36 cqq36 1 (bys lq) 5, .vec aoq27 coq27 1 (bys lh) 5, .box bk1 [.slice ah (List.length lh) ch, .slice ap (List.length lp) cp, .slice aq (List.length lq) cq, .bool fc, .bool fe, .slice ar (List.length lr) cr, .slice av (List.length lv) cv, .bool bc, .bool be] 26, .box bk56 [.slice (cutAt aoq496 coq496 (List.length lv) 1) (List.length (List.drop (List.length lv) (lh ++ lp))) (coq496 - (List.length lv)), .bool fc, .slice none 0 0, .bool false, .slice aoq27 (List.length lh) coq27, .slice apq36 (List.length lp) cpq36, .slice aqq36 (List.length lq) cqq36, .bool fc, .bool fe, .slice apq45 (List.length lr) cpq45, .slice aqq45 (List.length lv) cqq45, .bool bc, .bool be] 66]) rfl ?_
      intro ac822 wo823  En824 Hv825
      exact any_end (by kernel_rfl) ⟨aoq496, coq496, En824.sub (by kernel_rfl), Hv825.pick [0, 1, 2, 3, 4, 5, 6, 7] (by kernel_rfl) (by decide)⟩
    have nd826 : ∀ (ac : Act) (wo : World), Env ac 50 [(1, .pointer (some ⟨bk1, 0, none⟩)), (2, .pointer none), (3, .pointer (some ⟨bk56, 0, none⟩)), (19, .pointer (some ⟨bk56, 0, none⟩)), (20, .agg #[.slice ah (List.length lh) ch, .slice ap (List.length lp) cp, .slice aq (List.length lq) cq, .bool fc, .bool fe, .slice ar (List.length lr) cr, .slice av (List.length lv) cv, .bool bc, .bool be]), (24, .slice av (List.length lv) cv), (29, .bool fc)] → Ev w [] wo [.vec apq45 cpq45 1 (bys lr) 5, .vec aqq45 cqq45 1 (bys lv) 5, .vec apq36 cpq36 1 (bys lp) 5, .vec aqq36 cqq36 1 (bys lq) 5, .vec aoq27 coq27 1 (bys lh) 5, .box bk1 [.slice ah (List.length lh) ch, .slice ap (List.length lp) cp, .slice aq (List.length lq) cq, .bool fc, .bool fe, .slice ar (List.length lr) cr, .slice av (List.length lv) cv, .bool bc, .bool be] 26, .box bk56 [.slice none 0 0, .bool false, .slice none 0 0, .bool false, .slice aoq27 (List.length lh) coq27, .slice apq36 (List.length lp) cpq36, .slice aqq36 (List.length lq) cqq36, .bool fc, .bool fe, .slice apq45 (List.length lr) cpq45, .slice aqq45 (List.length lv) cqq45, .bool bc, .bool be] 66] → G 7 #[true, true, false, true, true, true, false, false, true, true, true, false, false, false, false] ac wo := by
      intro ac827 wo828 En829 Hv830
      refine any_from hG ?_
      refine any_pureR (d := some 25) En829 (v := .int .i64 ((List.length lv : Nat) : Int)) 6 (by kernel_rfl) (by kernel_rfl) rfl ?_
      intro ac831 En832
      refine any_at 2 (by kernel_rfl) rfl ?_
      have hM834 : Heap wo828 [] := Hv830.heap.pick [] (by kernel_rfl) (by decide)
      refine op_call (d := some 21) (f := 28) (args := #[.agg #[.slice ah (List.length lh) ch, .slice ap (List.length lp) cp, .slice aq (List.length lq) cq, .bool fc, .bool fe, .slice ar (List.length lr) cr, .slice av (List.length lv) cv, .bool bc, .bool be]]) En832 (by kernel_rfl) ((whole_go _ ah (List.length lh) ch lh (by first | rfl | (simp; done) | (simp; omega) | omega) ((ih.ev Hv830).pick [] (by kernel_rfl)) ap (List.length lp) cp lp (by first | rfl | (simp; done) | (simp; omega) | omega) ((ip.ev Hv830).pick [] (by kernel_rfl)) aq (List.length lq) cq lq (by first | rfl | (simp; done) | (simp; omega) | omega) ((iq.ev Hv830).pick [] (by kernel_rfl)) fc fe ar (List.length lr) cr lr (by first | rfl | (simp; done) | (simp; omega) | omega) ((ir.ev Hv830).pick [] (by kernel_rfl)) av (List.length lv) cv lv (by first | rfl | (simp; done) | (simp; omega) | omega) ((iv.ev Hv830).pick [] (by kernel_rfl)) bc be (by first | omega | (simp; done) | (simp; omega))).mono ?_)
      rintro _ wo836 ⟨aoq833, coq833, rfl, he839⟩
      refine ⟨_, rfl, ?_⟩
      intro ac835 En837
      have Hv838 : Ev w [] wo836 [.vec aoq833 coq833 1 (bys (lh ++ lp)) 5, .vec apq45 cpq45 1 (bys lr) 5, .vec aqq45 cqq45 1 (bys lv) 5, .vec apq36 cpq36 1 (bys lp) 5, .vec aqq36 cqq36 1 (bys lq) 5, .vec aoq27 coq27 1 (bys lh) 5, .box bk1 [.slice ah (List.length lh) ch, .slice ap (List.length lp) cp, .slice aq (List.length lq) cq, .bool fc, .bool fe, .slice ar (List.length lr) cr, .slice av (List.length lv) cv, .bool bc, .bool be] 26, .box bk56 [.slice none 0 0, .bool false, .slice none 0 0, .bool false, .slice aoq27 (List.length lh) coq27, .slice apq36 (List.length lp) cpq36, .slice aqq36 (List.length lq) cqq36, .bool fc, .bool fe, .slice apq45 (List.length lr) cpq45, .slice aqq45 (List.length lv) cqq45, .bool bc, .bool be] 66] := Hv830.trans (Ev.call (R := [.vec apq45 cpq45 1 (bys lr) 5, .vec aqq45 cqq45 1 (bys lv) 5, .vec apq36 cpq36 1 (bys lp) 5, .vec aqq36 cqq36 1 (bys lq) 5, .vec aoq27 coq27 1 (bys lh) 5, .box bk1 [.slice ah (List.length lh) ch, .slice ap (List.length lp) cp, .slice aq (List.length lq) cq, .bool fc, .bool fe, .slice ar (List.length lr) cr, .slice av (List.length lv) cv, .bool bc, .bool be] 26, .box bk56 [.slice none 0 0, .bool false, .slice none 0 0, .bool false, .slice aoq27 (List.length lh) coq27, .slice apq36 (List.length lp) cpq36, .slice aqq36 (List.length lq) cqq36, .bool fc, .bool fe, .slice apq45 (List.length lr) cpq45, .slice aqq45 (List.length lv) cqq45, .bool bc, .bool be] 66]) Hv830.heap [0, 1, 2, 3, 4, 5, 6] (by kernel_rfl) (by decide) he839)
      clear hM834 he839
      refine any_at 7 (by kernel_rfl) rfl ?_
      have hcap840 := bys_vcap Hv838.heap (k := 0) rfl
      refine op_slice (d := some 26) (t := 22) (e := 5) (sz := 1) (len := List.length (lh ++ lp)) (cap := coq833) (lo := List.length lv) (hi := List.length (lh ++ lp)) (ao := aoq833) (lov := (some (.int .i64 ((List.length lv : Nat) : Int)))) (hiv := none) En837 (by kernel_rfl) (by kernel_rfl) (by kernel_rfl) (by omega) (by omega) (.inr ⟨.i64, rfl⟩) (.inl ⟨rfl, rfl⟩) ?_
      intro ac841 En842
      have Hv843 : Ev w [] wo836 [.vec (cutAt aoq833 coq833 (List.length lv) 1) (coq833 - (List.length lv)) 1 (bys (List.drop (List.length lv) (lh ++ lp))) 5, .vec apq45 cpq45 1 (bys lr) 5, .vec aqq45 cqq45 1 (bys lv) 5, .vec apq36 cpq36 1 (bys lp) 5, .vec aqq36 cqq36 1 (bys lq) 5, .vec aoq27 coq27 1 (bys lh) 5, .box bk1 [.slice ah (List.length lh) ch, .slice ap (List.length lp) cp, .slice aq (List.length lq) cq, .bool fc, .bool fe, .slice ar (List.length lr) cr, .slice av (List.length lv) cv, .bool bc, .bool be] 26, .box bk56 [.slice none 0 0, .bool false, .slice none 0 0, .bool false, .slice aoq27 (List.length lh) coq27, .slice apq36 (List.length lp) cpq36, .slice aqq36 (List.length lq) cqq36, .bool fc, .bool fe, .slice apq45 (List.length lr) cpq45, .slice aqq45 (List.length lv) cqq45, .bool bc, .bool be] 66] := by
        have h := Ev.cut (k := 0) (n := List.length (lh ++ lp)) (sz := 1) Hv838 rfl (bys_len _) (by omega) (List.length lv) (List.length (lh ++ lp)) (by omega) (by omega)
        rw [bys_cutw (l := lh ++ lp) (lo := List.length lv) (n := List.length (lh ++ lp)) (by simp)] at h
        exact h
      have el844 : (List.length (lh ++ lp)) - (List.length lv) = List.length (List.drop (List.length lv) (lh ++ lp)) := by first | (simp; done) | (simp; omega)
      rw [el844] at En842
      refine any_pureR (d := some 30) En842 (v := .agg #[.slice (cutAt aoq833 coq833 (List.length lv) 1) (List.length (List.drop (List.length lv) (lh ++ lp))) (coq833 - (List.length lv)), .bool fc]) 11 (by kernel_rfl) (by kernel_rfl) rfl ?_
      intro ac845 En846
      refine any_pureR (d := some 31) En846 (v := .pointer (some ⟨bk56, 0, none⟩)) 12 (by kernel_rfl) (by kernel_rfl) rfl ?_
      intro ac847 En848
      refine any_pureR (d := some 32) En848 (v := .pointer (some ⟨bk56, 0, none⟩)) 13 (by kernel_rfl) (by kernel_rfl) rfl ?_
      intro ac849 En850
      refine any_at 14 (by kernel_rfl) rfl ?_
      refine op_storeaggbox (d := none) (t := 64) (b := bk56) (off := 0) (k := 7) (m := 2) (xs := [.slice (cutAt aoq833 coq833 (List.length lv) 1) (List.length (List.drop (List.length lv) (lh ++ lp))) (coq833 - (List.length lv)), .bool fc]) (v := .agg #[.slice (cutAt aoq833 coq833 (List.length lv) 1) (List.length (List.drop (List.length lv) (lh ++ lp))) (coq833 - (List.length lv)), .bool fc]) (cs' := [.slice (cutAt aoq833 coq833 (List.length lv) 1) (List.length (List.drop (List.length lv) (lh ++ lp))) (coq833 - (List.length lv)), .bool fc, .slice none 0 0, .bool false, .slice aoq27 (List.length lh) coq27, .slice apq36 (List.length lp) cpq36, .slice aqq36 (List.length lq) cqq36, .bool fc, .bool fe, .slice apq45 (List.length lr) cpq45, .slice aqq45 (List.length lv) cqq45, .bool bc, .bool be]) En850 (by kernel_rfl) Hv843 rfl rfl rfl (by simp) (by kernel_rfl) (one_all (by kernel_rfl)) rfl (L' := [.vec (cutAt aoq833 coq833 (List.length lv) 1) (coq833 - (List.length lv)) 1 (bys (List.drop (List.length lv) (lh ++ lp))) 5, .vec apq45 cpq45 1 (bys lr) 5, .vec aqq45 cqq45 1 (bys lv) 5, .vec apq36 cpq36 1 (bys lp) 5, .vec aqq36 cqq36 1 (bys lq) 5, .vec aoq27 coq27 1 (bys lh) 5, .box bk1 [.slice ah (List.length lh) ch, .slice ap (List.length lp) cp, .slice aq (List.length lq) cq, .bool fc, .bool fe, .slice ar (List.length lr) cr, .slice av (List.length lv) cv, .bool bc, .bool be] 26, .box bk56 [.slice (cutAt aoq833 coq833 (List.length lv) 1) (List.length (List.drop (List.length lv) (lh ++ lp))) (coq833 - (List.length lv)), .bool fc, .slice none 0 0, .bool false, .slice aoq27 (List.length lh) coq27, .slice apq36 (List.length lp) cpq36, .slice aqq36 (List.length lq) cqq36, .bool fc, .bool fe, .slice apq45 (List.length lr) cpq45, .slice aqq45 (List.length lv) cqq45, .bool bc, .bool be] 66]) rfl ?_
      intro ac851 wo852  En853 Hv854
      exact any_end (by kernel_rfl) ⟨aoq833, coq833, En853.sub (by kernel_rfl), Hv854.pick [0, 1, 2, 3, 4, 5, 6, 7] (by kernel_rfl) (by decide)⟩
    have nd855 : ∀ (ac : Act) (wo : World), Env ac 50 [(1, .pointer (some ⟨bk1, 0, none⟩)), (2, .pointer none), (3, .pointer (some ⟨bk56, 0, none⟩)), (19, .pointer (some ⟨bk56, 0, none⟩)), (20, .agg #[.slice ah (List.length lh) ch, .slice ap (List.length lp) cp, .slice aq (List.length lq) cq, .bool fc, .bool fe, .slice ar (List.length lr) cr, .slice av (List.length lv) cv, .bool bc, .bool be]), (25, .int .i64 ((List.length lv : Nat) : Int)), (28, .pointer (some ⟨bk1, 3, none⟩))] → Ev w [] wo [.vec apq45 cpq45 1 (bys lr) 5, .vec aqq45 cqq45 1 (bys lv) 5, .vec apq36 cpq36 1 (bys lp) 5, .vec aqq36 cqq36 1 (bys lq) 5, .vec aoq27 coq27 1 (bys lh) 5, .box bk1 [.slice ah (List.length lh) ch, .slice ap (List.length lp) cp, .slice aq (List.length lq) cq, .bool fc, .bool fe, .slice ar (List.length lr) cr, .slice av (List.length lv) cv, .bool bc, .bool be] 26, .box bk56 [.slice none 0 0, .bool false, .slice none 0 0, .bool false, .slice aoq27 (List.length lh) coq27, .slice apq36 (List.length lp) cpq36, .slice aqq36 (List.length lq) cqq36, .bool fc, .bool fe, .slice apq45 (List.length lr) cpq45, .slice aqq45 (List.length lv) cqq45, .bool bc, .bool be] 66] → G 7 #[true, true, false, true, true, true, true, false, true, true, false, false, false, false, false] ac wo := by
      intro ac856 wo857 En858 Hv859
      refine any_from hG ?_
      refine any_two 2 10 (by kernel_rfl) ?_ ?_
      · rintro _ rfl
        have hM861 : Heap wo857 [] := Hv859.heap.pick [] (by kernel_rfl) (by decide)
        refine op_call (d := some 21) (f := 28) (args := #[.agg #[.slice ah (List.length lh) ch, .slice ap (List.length lp) cp, .slice aq (List.length lq) cq, .bool fc, .bool fe, .slice ar (List.length lr) cr, .slice av (List.length lv) cv, .bool bc, .bool be]]) En858 (by kernel_rfl) ((whole_go _ ah (List.length lh) ch lh (by first | rfl | (simp; done) | (simp; omega) | omega) ((ih.ev Hv859).pick [] (by kernel_rfl)) ap (List.length lp) cp lp (by first | rfl | (simp; done) | (simp; omega) | omega) ((ip.ev Hv859).pick [] (by kernel_rfl)) aq (List.length lq) cq lq (by first | rfl | (simp; done) | (simp; omega) | omega) ((iq.ev Hv859).pick [] (by kernel_rfl)) fc fe ar (List.length lr) cr lr (by first | rfl | (simp; done) | (simp; omega) | omega) ((ir.ev Hv859).pick [] (by kernel_rfl)) av (List.length lv) cv lv (by first | rfl | (simp; done) | (simp; omega) | omega) ((iv.ev Hv859).pick [] (by kernel_rfl)) bc be (by first | omega | (simp; done) | (simp; omega))).mono ?_)
        rintro _ wo863 ⟨aoq860, coq860, rfl, he866⟩
        refine ⟨_, rfl, ?_⟩
        intro ac862 En864
        have Hv865 : Ev w [] wo863 [.vec aoq860 coq860 1 (bys (lh ++ lp)) 5, .vec apq45 cpq45 1 (bys lr) 5, .vec aqq45 cqq45 1 (bys lv) 5, .vec apq36 cpq36 1 (bys lp) 5, .vec aqq36 cqq36 1 (bys lq) 5, .vec aoq27 coq27 1 (bys lh) 5, .box bk1 [.slice ah (List.length lh) ch, .slice ap (List.length lp) cp, .slice aq (List.length lq) cq, .bool fc, .bool fe, .slice ar (List.length lr) cr, .slice av (List.length lv) cv, .bool bc, .bool be] 26, .box bk56 [.slice none 0 0, .bool false, .slice none 0 0, .bool false, .slice aoq27 (List.length lh) coq27, .slice apq36 (List.length lp) cpq36, .slice aqq36 (List.length lq) cqq36, .bool fc, .bool fe, .slice apq45 (List.length lr) cpq45, .slice aqq45 (List.length lv) cqq45, .bool bc, .bool be] 66] := Hv859.trans (Ev.call (R := [.vec apq45 cpq45 1 (bys lr) 5, .vec aqq45 cqq45 1 (bys lv) 5, .vec apq36 cpq36 1 (bys lp) 5, .vec aqq36 cqq36 1 (bys lq) 5, .vec aoq27 coq27 1 (bys lh) 5, .box bk1 [.slice ah (List.length lh) ch, .slice ap (List.length lp) cp, .slice aq (List.length lq) cq, .bool fc, .bool fe, .slice ar (List.length lr) cr, .slice av (List.length lv) cv, .bool bc, .bool be] 26, .box bk56 [.slice none 0 0, .bool false, .slice none 0 0, .bool false, .slice aoq27 (List.length lh) coq27, .slice apq36 (List.length lp) cpq36, .slice aqq36 (List.length lq) cqq36, .bool fc, .bool fe, .slice apq45 (List.length lr) cpq45, .slice aqq45 (List.length lv) cqq45, .bool bc, .bool be] 66]) Hv859.heap [0, 1, 2, 3, 4, 5, 6] (by kernel_rfl) (by decide) he866)
        clear hM861 he866
        exact any_to hG (by kernel_rfl) (nd749 _ _ aoq860 coq860 (En864.sub (by kernel_rfl)) (Hv865.pick [0, 1, 2, 3, 4, 5, 6, 7] (by kernel_rfl) (by decide)))
      · rintro _ rfl
        refine op_loadbox (d := some 29) (t := 4) (b := bk1) (off := 3) (k := 5) (v := .bool fc) En858 (by kernel_rfl) Hv859 rfl rfl (by kernel_rfl) ?_
        intro ac867 En868
        exact any_to hG (by kernel_rfl) (nd761 _ _ (En868.sub (by kernel_rfl)) (Hv859.pick [0, 1, 2, 3, 4, 5, 6] (by kernel_rfl) (by decide)))
    have nd869 : ∀ (ac : Act) (wo : World), Env ac 50 [(1, .pointer (some ⟨bk1, 0, none⟩)), (2, .pointer none), (3, .pointer (some ⟨bk56, 0, none⟩)), (19, .pointer (some ⟨bk56, 0, none⟩)), (25, .int .i64 ((List.length lv : Nat) : Int)), (29, .bool fc)] → Ev w [] wo [.vec apq45 cpq45 1 (bys lr) 5, .vec aqq45 cqq45 1 (bys lv) 5, .vec apq36 cpq36 1 (bys lp) 5, .vec aqq36 cqq36 1 (bys lq) 5, .vec aoq27 coq27 1 (bys lh) 5, .box bk1 [.slice ah (List.length lh) ch, .slice ap (List.length lp) cp, .slice aq (List.length lq) cq, .bool fc, .bool fe, .slice ar (List.length lr) cr, .slice av (List.length lv) cv, .bool bc, .bool be] 26, .box bk56 [.slice none 0 0, .bool false, .slice none 0 0, .bool false, .slice aoq27 (List.length lh) coq27, .slice apq36 (List.length lp) cpq36, .slice aqq36 (List.length lq) cqq36, .bool fc, .bool fe, .slice apq45 (List.length lr) cpq45, .slice aqq45 (List.length lv) cqq45, .bool bc, .bool be] 66] → G 7 #[true, false, false, true, true, true, true, false, true, true, true, false, false, false, false] ac wo := by
      intro ac870 wo871 En872 Hv873
      refine any_from hG ?_
      refine any_at 1 (by kernel_rfl) rfl ?_
      refine op_loadaggbox (d := some 20) (t := 26) (b := bk1) (off := 0) (k := 5) (m := 9) (xs := [.slice ah (List.length lh) ch, .slice ap (List.length lp) cp, .slice aq (List.length lq) cq, .bool fc, .bool fe, .slice ar (List.length lr) cr, .slice av (List.length lv) cv, .bool bc, .bool be]) En872 (by kernel_rfl) Hv873 rfl rfl rfl (by kernel_rfl) (by kernel_rfl) ?_
      intro ac874 En875
      refine any_at 2 (by kernel_rfl) rfl ?_
      have hM877 : Heap wo871 [] := Hv873.heap.pick [] (by kernel_rfl) (by decide)
      refine op_call (d := some 21) (f := 28) (args := #[.agg #[.slice ah (List.length lh) ch, .slice ap (List.length lp) cp, .slice aq (List.length lq) cq, .bool fc, .bool fe, .slice ar (List.length lr) cr, .slice av (List.length lv) cv, .bool bc, .bool be]]) En875 (by kernel_rfl) ((whole_go _ ah (List.length lh) ch lh (by first | rfl | (simp; done) | (simp; omega) | omega) ((ih.ev Hv873).pick [] (by kernel_rfl)) ap (List.length lp) cp lp (by first | rfl | (simp; done) | (simp; omega) | omega) ((ip.ev Hv873).pick [] (by kernel_rfl)) aq (List.length lq) cq lq (by first | rfl | (simp; done) | (simp; omega) | omega) ((iq.ev Hv873).pick [] (by kernel_rfl)) fc fe ar (List.length lr) cr lr (by first | rfl | (simp; done) | (simp; omega) | omega) ((ir.ev Hv873).pick [] (by kernel_rfl)) av (List.length lv) cv lv (by first | rfl | (simp; done) | (simp; omega) | omega) ((iv.ev Hv873).pick [] (by kernel_rfl)) bc be (by first | omega | (simp; done) | (simp; omega))).mono ?_)
      rintro _ wo879 ⟨aoq876, coq876, rfl, he882⟩
      refine ⟨_, rfl, ?_⟩
      intro ac878 En880
      have Hv881 : Ev w [] wo879 [.vec aoq876 coq876 1 (bys (lh ++ lp)) 5, .vec apq45 cpq45 1 (bys lr) 5, .vec aqq45 cqq45 1 (bys lv) 5, .vec apq36 cpq36 1 (bys lp) 5, .vec aqq36 cqq36 1 (bys lq) 5, .vec aoq27 coq27 1 (bys lh) 5, .box bk1 [.slice ah (List.length lh) ch, .slice ap (List.length lp) cp, .slice aq (List.length lq) cq, .bool fc, .bool fe, .slice ar (List.length lr) cr, .slice av (List.length lv) cv, .bool bc, .bool be] 26, .box bk56 [.slice none 0 0, .bool false, .slice none 0 0, .bool false, .slice aoq27 (List.length lh) coq27, .slice apq36 (List.length lp) cpq36, .slice aqq36 (List.length lq) cqq36, .bool fc, .bool fe, .slice apq45 (List.length lr) cpq45, .slice aqq45 (List.length lv) cqq45, .bool bc, .bool be] 66] := Hv873.trans (Ev.call (R := [.vec apq45 cpq45 1 (bys lr) 5, .vec aqq45 cqq45 1 (bys lv) 5, .vec apq36 cpq36 1 (bys lp) 5, .vec aqq36 cqq36 1 (bys lq) 5, .vec aoq27 coq27 1 (bys lh) 5, .box bk1 [.slice ah (List.length lh) ch, .slice ap (List.length lp) cp, .slice aq (List.length lq) cq, .bool fc, .bool fe, .slice ar (List.length lr) cr, .slice av (List.length lv) cv, .bool bc, .bool be] 26, .box bk56 [.slice none 0 0, .bool false, .slice none 0 0, .bool false, .slice aoq27 (List.length lh) coq27, .slice apq36 (List.length lp) cpq36, .slice aqq36 (List.length lq) cqq36, .bool fc, .bool fe, .slice apq45 (List.length lr) cpq45, .slice aqq45 (List.length lv) cqq45, .bool bc, .bool be] 66]) Hv873.heap [0, 1, 2, 3, 4, 5, 6] (by kernel_rfl) (by decide) he882)
      clear hM877 he882
      refine any_at 7 (by kernel_rfl) rfl ?_
      have hcap883 := bys_vcap Hv881.heap (k := 0) rfl
      refine op_slice (d := some 26) (t := 22) (e := 5) (sz := 1) (len := List.length (lh ++ lp)) (cap := coq876) (lo := List.length lv) (hi := List.length (lh ++ lp)) (ao := aoq876) (lov := (some (.int .i64 ((List.length lv : Nat) : Int)))) (hiv := none) En880 (by kernel_rfl) (by kernel_rfl) (by kernel_rfl) (by omega) (by omega) (.inr ⟨.i64, rfl⟩) (.inl ⟨rfl, rfl⟩) ?_
      intro ac884 En885
      have Hv886 : Ev w [] wo879 [.vec (cutAt aoq876 coq876 (List.length lv) 1) (coq876 - (List.length lv)) 1 (bys (List.drop (List.length lv) (lh ++ lp))) 5, .vec apq45 cpq45 1 (bys lr) 5, .vec aqq45 cqq45 1 (bys lv) 5, .vec apq36 cpq36 1 (bys lp) 5, .vec aqq36 cqq36 1 (bys lq) 5, .vec aoq27 coq27 1 (bys lh) 5, .box bk1 [.slice ah (List.length lh) ch, .slice ap (List.length lp) cp, .slice aq (List.length lq) cq, .bool fc, .bool fe, .slice ar (List.length lr) cr, .slice av (List.length lv) cv, .bool bc, .bool be] 26, .box bk56 [.slice none 0 0, .bool false, .slice none 0 0, .bool false, .slice aoq27 (List.length lh) coq27, .slice apq36 (List.length lp) cpq36, .slice aqq36 (List.length lq) cqq36, .bool fc, .bool fe, .slice apq45 (List.length lr) cpq45, .slice aqq45 (List.length lv) cqq45, .bool bc, .bool be] 66] := by
        have h := Ev.cut (k := 0) (n := List.length (lh ++ lp)) (sz := 1) Hv881 rfl (bys_len _) (by omega) (List.length lv) (List.length (lh ++ lp)) (by omega) (by omega)
        rw [bys_cutw (l := lh ++ lp) (lo := List.length lv) (n := List.length (lh ++ lp)) (by simp)] at h
        exact h
      have el887 : (List.length (lh ++ lp)) - (List.length lv) = List.length (List.drop (List.length lv) (lh ++ lp)) := by first | (simp; done) | (simp; omega)
      rw [el887] at En885
      refine any_pureR (d := some 30) En885 (v := .agg #[.slice (cutAt aoq876 coq876 (List.length lv) 1) (List.length (List.drop (List.length lv) (lh ++ lp))) (coq876 - (List.length lv)), .bool fc]) 11 (by kernel_rfl) (by kernel_rfl) rfl ?_
      intro ac888 En889
      refine any_pureR (d := some 31) En889 (v := .pointer (some ⟨bk56, 0, none⟩)) 12 (by kernel_rfl) (by kernel_rfl) rfl ?_
      intro ac890 En891
      refine any_pureR (d := some 32) En891 (v := .pointer (some ⟨bk56, 0, none⟩)) 13 (by kernel_rfl) (by kernel_rfl) rfl ?_
      intro ac892 En893
      refine any_at 14 (by kernel_rfl) rfl ?_
      refine op_storeaggbox (d := none) (t := 64) (b := bk56) (off := 0) (k := 7) (m := 2) (xs := [.slice (cutAt aoq876 coq876 (List.length lv) 1) (List.length (List.drop (List.length lv) (lh ++ lp))) (coq876 - (List.length lv)), .bool fc]) (v := .agg #[.slice (cutAt aoq876 coq876 (List.length lv) 1) (List.length (List.drop (List.length lv) (lh ++ lp))) (coq876 - (List.length lv)), .bool fc]) (cs' := [.slice (cutAt aoq876 coq876 (List.length lv) 1) (List.length (List.drop (List.length lv) (lh ++ lp))) (coq876 - (List.length lv)), .bool fc, .slice none 0 0, .bool false, .slice aoq27 (List.length lh) coq27, .slice apq36 (List.length lp) cpq36, .slice aqq36 (List.length lq) cqq36, .bool fc, .bool fe, .slice apq45 (List.length lr) cpq45, .slice aqq45 (List.length lv) cqq45, .bool bc, .bool be]) En893 (by kernel_rfl) Hv886 rfl rfl rfl (by simp) (by kernel_rfl) (one_all (by kernel_rfl)) rfl (L' := [.vec (cutAt aoq876 coq876 (List.length lv) 1) (coq876 - (List.length lv)) 1 (bys (List.drop (List.length lv) (lh ++ lp))) 5, .vec apq45 cpq45 1 (bys lr) 5, .vec aqq45 cqq45 1 (bys lv) 5, .vec apq36 cpq36 1 (bys lp) 5, .vec aqq36 cqq36 1 (bys lq) 5, .vec aoq27 coq27 1 (bys lh) 5, .box bk1 [.slice ah (List.length lh) ch, .slice ap (List.length lp) cp, .slice aq (List.length lq) cq, .bool fc, .bool fe, .slice ar (List.length lr) cr, .slice av (List.length lv) cv, .bool bc, .bool be] 26, .box bk56 [.slice (cutAt aoq876 coq876 (List.length lv) 1) (List.length (List.drop (List.length lv) (lh ++ lp))) (coq876 - (List.length lv)), .bool fc, .slice none 0 0, .bool false, .slice aoq27 (List.length lh) coq27, .slice apq36 (List.length lp) cpq36, .slice aqq36 (List.length lq) cqq36, .bool fc, .bool fe, .slice apq45 (List.length lr) cpq45, .slice aqq45 (List.length lv) cqq45, .bool bc, .bool be] 66]) rfl ?_
      intro ac894 wo895  En896 Hv897
      exact any_end (by kernel_rfl) ⟨aoq876, coq876, En896.sub (by kernel_rfl), Hv897.pick [0, 1, 2, 3, 4, 5, 6, 7] (by kernel_rfl) (by decide)⟩
    have nd898 : ∀ (ac : Act) (wo : World) (aoq496 : _) (coq496 : _), Env ac 50 [(1, .pointer (some ⟨bk1, 0, none⟩)), (2, .pointer none), (3, .pointer (some ⟨bk56, 0, none⟩)), (19, .pointer (some ⟨bk56, 0, none⟩)), (21, .slice aoq496 (List.length (lh ++ lp)) coq496), (23, .pointer (some ⟨bk1, 6, none⟩)), (28, .pointer (some ⟨bk1, 3, none⟩))] → Ev w [] wo [.vec aoq496 coq496 1 (bys (lh ++ lp)) 5, .vec apq45 cpq45 1 (bys lr) 5, .vec aqq45 cqq45 1 (bys lv) 5, .vec apq36 cpq36 1 (bys lp) 5, .vec aqq36 cqq36 1 (bys lq) 5, .vec aoq27 coq27 1 (bys lh) 5, .box bk1 [.slice ah (List.length lh) ch, .slice ap (List.length lp) cp, .slice aq (List.length lq) cq, .bool fc, .bool fe, .slice ar (List.length lr) cr, .slice av (List.length lv) cv, .bool bc, .bool be] 26, .box bk56 [.slice none 0 0, .bool false, .slice none 0 0, .bool false, .slice aoq27 (List.length lh) coq27, .slice apq36 (List.length lp) cpq36, .slice aqq36 (List.length lq) cqq36, .bool fc, .bool fe, .slice apq45 (List.length lr) cpq45, .slice aqq45 (List.length lv) cqq45, .bool bc, .bool be] 66] → G 8 #[true, true, true, true, true, false, false, false, true, true, false, false, false, false, false] ac wo := by
      intro ac899 wo900 aoq496 coq496 En901 Hv902
      refine any_from hG ?_
      refine any_two 5 10 (by kernel_rfl) ?_ ?_
      · rintro _ rfl
        refine op_loadbox (d := some 24) (t := 22) (b := bk1) (off := 6) (k := 6) (v := .slice av (List.length lv) cv) En901 (by kernel_rfl) Hv902 rfl rfl (by kernel_rfl) ?_
        intro ac903 En904
        exact any_to hG (by kernel_rfl) (nd788 _ _ aoq496 coq496 (En904.sub (by kernel_rfl)) (Hv902.pick [0, 1, 2, 3, 4, 5, 6, 7] (by kernel_rfl) (by decide)))
      · rintro _ rfl
        refine op_loadbox (d := some 29) (t := 4) (b := bk1) (off := 3) (k := 6) (v := .bool fc) En901 (by kernel_rfl) Hv902 rfl rfl (by kernel_rfl) ?_
        intro ac905 En906
        exact any_to hG (by kernel_rfl) (nd802 _ _ aoq496 coq496 (En906.sub (by kernel_rfl)) (Hv902.pick [0, 1, 2, 3, 4, 5, 6, 7] (by kernel_rfl) (by decide)))
    have nd907 : ∀ (ac : Act) (wo : World), Env ac 50 [(1, .pointer (some ⟨bk1, 0, none⟩)), (2, .pointer none), (3, .pointer (some ⟨bk56, 0, none⟩)), (19, .pointer (some ⟨bk56, 0, none⟩)), (20, .agg #[.slice ah (List.length lh) ch, .slice ap (List.length lp) cp, .slice aq (List.length lq) cq, .bool fc, .bool fe, .slice ar (List.length lr) cr, .slice av (List.length lv) cv, .bool bc, .bool be]), (24, .slice av (List.length lv) cv), (28, .pointer (some ⟨bk1, 3, none⟩))] → Ev w [] wo [.vec apq45 cpq45 1 (bys lr) 5, .vec aqq45 cqq45 1 (bys lv) 5, .vec apq36 cpq36 1 (bys lp) 5, .vec aqq36 cqq36 1 (bys lq) 5, .vec aoq27 coq27 1 (bys lh) 5, .box bk1 [.slice ah (List.length lh) ch, .slice ap (List.length lp) cp, .slice aq (List.length lq) cq, .bool fc, .bool fe, .slice ar (List.length lr) cr, .slice av (List.length lv) cv, .bool bc, .bool be] 26, .box bk56 [.slice none 0 0, .bool false, .slice none 0 0, .bool false, .slice aoq27 (List.length lh) coq27, .slice apq36 (List.length lp) cpq36, .slice aqq36 (List.length lq) cqq36, .bool fc, .bool fe, .slice apq45 (List.length lr) cpq45, .slice aqq45 (List.length lv) cqq45, .bool bc, .bool be] 66] → G 8 #[true, true, false, true, true, true, false, false, true, true, false, false, false, false, false] ac wo := by
      intro ac908 wo909 En910 Hv911
      refine any_from hG ?_
      refine any_pureR (d := some 25) En910 (v := .int .i64 ((List.length lv : Nat) : Int)) 6 (by kernel_rfl) (by kernel_rfl) rfl ?_
      intro ac912 En913
      refine any_two 2 10 (by kernel_rfl) ?_ ?_
      · rintro _ rfl
        have hM915 : Heap wo909 [] := Hv911.heap.pick [] (by kernel_rfl) (by decide)
        refine op_call (d := some 21) (f := 28) (args := #[.agg #[.slice ah (List.length lh) ch, .slice ap (List.length lp) cp, .slice aq (List.length lq) cq, .bool fc, .bool fe, .slice ar (List.length lr) cr, .slice av (List.length lv) cv, .bool bc, .bool be]]) En913 (by kernel_rfl) ((whole_go _ ah (List.length lh) ch lh (by first | rfl | (simp; done) | (simp; omega) | omega) ((ih.ev Hv911).pick [] (by kernel_rfl)) ap (List.length lp) cp lp (by first | rfl | (simp; done) | (simp; omega) | omega) ((ip.ev Hv911).pick [] (by kernel_rfl)) aq (List.length lq) cq lq (by first | rfl | (simp; done) | (simp; omega) | omega) ((iq.ev Hv911).pick [] (by kernel_rfl)) fc fe ar (List.length lr) cr lr (by first | rfl | (simp; done) | (simp; omega) | omega) ((ir.ev Hv911).pick [] (by kernel_rfl)) av (List.length lv) cv lv (by first | rfl | (simp; done) | (simp; omega) | omega) ((iv.ev Hv911).pick [] (by kernel_rfl)) bc be (by first | omega | (simp; done) | (simp; omega))).mono ?_)
        rintro _ wo917 ⟨aoq914, coq914, rfl, he920⟩
        refine ⟨_, rfl, ?_⟩
        intro ac916 En918
        have Hv919 : Ev w [] wo917 [.vec aoq914 coq914 1 (bys (lh ++ lp)) 5, .vec apq45 cpq45 1 (bys lr) 5, .vec aqq45 cqq45 1 (bys lv) 5, .vec apq36 cpq36 1 (bys lp) 5, .vec aqq36 cqq36 1 (bys lq) 5, .vec aoq27 coq27 1 (bys lh) 5, .box bk1 [.slice ah (List.length lh) ch, .slice ap (List.length lp) cp, .slice aq (List.length lq) cq, .bool fc, .bool fe, .slice ar (List.length lr) cr, .slice av (List.length lv) cv, .bool bc, .bool be] 26, .box bk56 [.slice none 0 0, .bool false, .slice none 0 0, .bool false, .slice aoq27 (List.length lh) coq27, .slice apq36 (List.length lp) cpq36, .slice aqq36 (List.length lq) cqq36, .bool fc, .bool fe, .slice apq45 (List.length lr) cpq45, .slice aqq45 (List.length lv) cqq45, .bool bc, .bool be] 66] := Hv911.trans (Ev.call (R := [.vec apq45 cpq45 1 (bys lr) 5, .vec aqq45 cqq45 1 (bys lv) 5, .vec apq36 cpq36 1 (bys lp) 5, .vec aqq36 cqq36 1 (bys lq) 5, .vec aoq27 coq27 1 (bys lh) 5, .box bk1 [.slice ah (List.length lh) ch, .slice ap (List.length lp) cp, .slice aq (List.length lq) cq, .bool fc, .bool fe, .slice ar (List.length lr) cr, .slice av (List.length lv) cv, .bool bc, .bool be] 26, .box bk56 [.slice none 0 0, .bool false, .slice none 0 0, .bool false, .slice aoq27 (List.length lh) coq27, .slice apq36 (List.length lp) cpq36, .slice aqq36 (List.length lq) cqq36, .bool fc, .bool fe, .slice apq45 (List.length lr) cpq45, .slice aqq45 (List.length lv) cqq45, .bool bc, .bool be] 66]) Hv911.heap [0, 1, 2, 3, 4, 5, 6] (by kernel_rfl) (by decide) he920)
        clear hM915 he920
        exact any_to hG (by kernel_rfl) (nd749 _ _ aoq914 coq914 (En918.sub (by kernel_rfl)) (Hv919.pick [0, 1, 2, 3, 4, 5, 6, 7] (by kernel_rfl) (by decide)))
      · rintro _ rfl
        refine op_loadbox (d := some 29) (t := 4) (b := bk1) (off := 3) (k := 5) (v := .bool fc) En913 (by kernel_rfl) Hv911 rfl rfl (by kernel_rfl) ?_
        intro ac921 En922
        exact any_to hG (by kernel_rfl) (nd761 _ _ (En922.sub (by kernel_rfl)) (Hv911.pick [0, 1, 2, 3, 4, 5, 6] (by kernel_rfl) (by decide)))
    have nd923 : ∀ (ac : Act) (wo : World), Env ac 50 [(1, .pointer (some ⟨bk1, 0, none⟩)), (2, .pointer none), (3, .pointer (some ⟨bk56, 0, none⟩)), (19, .pointer (some ⟨bk56, 0, none⟩)), (20, .agg #[.slice ah (List.length lh) ch, .slice ap (List.length lp) cp, .slice aq (List.length lq) cq, .bool fc, .bool fe, .slice ar (List.length lr) cr, .slice av (List.length lv) cv, .bool bc, .bool be]), (23, .pointer (some ⟨bk1, 6, none⟩)), (29, .bool fc)] → Ev w [] wo [.vec apq45 cpq45 1 (bys lr) 5, .vec aqq45 cqq45 1 (bys lv) 5, .vec apq36 cpq36 1 (bys lp) 5, .vec aqq36 cqq36 1 (bys lq) 5, .vec aoq27 coq27 1 (bys lh) 5, .box bk1 [.slice ah (List.length lh) ch, .slice ap (List.length lp) cp, .slice aq (List.length lq) cq, .bool fc, .bool fe, .slice ar (List.length lr) cr, .slice av (List.length lv) cv, .bool bc, .bool be] 26, .box bk56 [.slice none 0 0, .bool false, .slice none 0 0, .bool false, .slice aoq27 (List.length lh) coq27, .slice apq36 (List.length lp) cpq36, .slice aqq36 (List.length lq) cqq36, .bool fc, .bool fe, .slice apq45 (List.length lr) cpq45, .slice aqq45 (List.length lv) cqq45, .bool bc, .bool be] 66] → G 8 #[true, true, false, true, true, false, false, false, true, true, true, false, false, false, false] ac wo := by
      intro ac924 wo925 En926 Hv927
      refine any_from hG ?_
      refine any_two 2 5 (by kernel_rfl) ?_ ?_
      · rintro _ rfl
        have hM929 : Heap wo925 [] := Hv927.heap.pick [] (by kernel_rfl) (by decide)
        refine op_call (d := some 21) (f := 28) (args := #[.agg #[.slice ah (List.length lh) ch, .slice ap (List.length lp) cp, .slice aq (List.length lq) cq, .bool fc, .bool fe, .slice ar (List.length lr) cr, .slice av (List.length lv) cv, .bool bc, .bool be]]) En926 (by kernel_rfl) ((whole_go _ ah (List.length lh) ch lh (by first | rfl | (simp; done) | (simp; omega) | omega) ((ih.ev Hv927).pick [] (by kernel_rfl)) ap (List.length lp) cp lp (by first | rfl | (simp; done) | (simp; omega) | omega) ((ip.ev Hv927).pick [] (by kernel_rfl)) aq (List.length lq) cq lq (by first | rfl | (simp; done) | (simp; omega) | omega) ((iq.ev Hv927).pick [] (by kernel_rfl)) fc fe ar (List.length lr) cr lr (by first | rfl | (simp; done) | (simp; omega) | omega) ((ir.ev Hv927).pick [] (by kernel_rfl)) av (List.length lv) cv lv (by first | rfl | (simp; done) | (simp; omega) | omega) ((iv.ev Hv927).pick [] (by kernel_rfl)) bc be (by first | omega | (simp; done) | (simp; omega))).mono ?_)
        rintro _ wo931 ⟨aoq928, coq928, rfl, he934⟩
        refine ⟨_, rfl, ?_⟩
        intro ac930 En932
        have Hv933 : Ev w [] wo931 [.vec aoq928 coq928 1 (bys (lh ++ lp)) 5, .vec apq45 cpq45 1 (bys lr) 5, .vec aqq45 cqq45 1 (bys lv) 5, .vec apq36 cpq36 1 (bys lp) 5, .vec aqq36 cqq36 1 (bys lq) 5, .vec aoq27 coq27 1 (bys lh) 5, .box bk1 [.slice ah (List.length lh) ch, .slice ap (List.length lp) cp, .slice aq (List.length lq) cq, .bool fc, .bool fe, .slice ar (List.length lr) cr, .slice av (List.length lv) cv, .bool bc, .bool be] 26, .box bk56 [.slice none 0 0, .bool false, .slice none 0 0, .bool false, .slice aoq27 (List.length lh) coq27, .slice apq36 (List.length lp) cpq36, .slice aqq36 (List.length lq) cqq36, .bool fc, .bool fe, .slice apq45 (List.length lr) cpq45, .slice aqq45 (List.length lv) cqq45, .bool bc, .bool be] 66] := Hv927.trans (Ev.call (R := [.vec apq45 cpq45 1 (bys lr) 5, .vec aqq45 cqq45 1 (bys lv) 5, .vec apq36 cpq36 1 (bys lp) 5, .vec aqq36 cqq36 1 (bys lq) 5, .vec aoq27 coq27 1 (bys lh) 5, .box bk1 [.slice ah (List.length lh) ch, .slice ap (List.length lp) cp, .slice aq (List.length lq) cq, .bool fc, .bool fe, .slice ar (List.length lr) cr, .slice av (List.length lv) cv, .bool bc, .bool be] 26, .box bk56 [.slice none 0 0, .bool false, .slice none 0 0, .bool false, .slice aoq27 (List.length lh) coq27, .slice apq36 (List.length lp) cpq36, .slice aqq36 (List.length lq) cqq36, .bool fc, .bool fe, .slice apq45 (List.length lr) cpq45, .slice aqq45 (List.length lv) cqq45, .bool bc, .bool be] 66]) Hv927.heap [0, 1, 2, 3, 4, 5, 6] (by kernel_rfl) (by decide) he934)
        clear hM929 he934
        exact any_to hG (by kernel_rfl) (nd802 _ _ aoq928 coq928 (En932.sub (by kernel_rfl)) (Hv933.pick [0, 1, 2, 3, 4, 5, 6, 7] (by kernel_rfl) (by decide)))
      · rintro _ rfl
        refine op_loadbox (d := some 24) (t := 22) (b := bk1) (off := 6) (k := 5) (v := .slice av (List.length lv) cv) En926 (by kernel_rfl) Hv927 rfl rfl (by kernel_rfl) ?_
        intro ac935 En936
        exact any_to hG (by kernel_rfl) (nd826 _ _ (En936.sub (by kernel_rfl)) (Hv927.pick [0, 1, 2, 3, 4, 5, 6] (by kernel_rfl) (by decide)))
    have nd937 : ∀ (ac : Act) (wo : World), Env ac 50 [(1, .pointer (some ⟨bk1, 0, none⟩)), (2, .pointer none), (3, .pointer (some ⟨bk56, 0, none⟩)), (19, .pointer (some ⟨bk56, 0, none⟩)), (24, .slice av (List.length lv) cv), (29, .bool fc)] → Ev w [] wo [.vec apq45 cpq45 1 (bys lr) 5, .vec aqq45 cqq45 1 (bys lv) 5, .vec apq36 cpq36 1 (bys lp) 5, .vec aqq36 cqq36 1 (bys lq) 5, .vec aoq27 coq27 1 (bys lh) 5, .box bk1 [.slice ah (List.length lh) ch, .slice ap (List.length lp) cp, .slice aq (List.length lq) cq, .bool fc, .bool fe, .slice ar (List.length lr) cr, .slice av (List.length lv) cv, .bool bc, .bool be] 26, .box bk56 [.slice none 0 0, .bool false, .slice none 0 0, .bool false, .slice aoq27 (List.length lh) coq27, .slice apq36 (List.length lp) cpq36, .slice aqq36 (List.length lq) cqq36, .bool fc, .bool fe, .slice apq45 (List.length lr) cpq45, .slice aqq45 (List.length lv) cqq45, .bool bc, .bool be] 66] → G 8 #[true, false, false, true, true, true, false, false, true, true, true, false, false, false, false] ac wo := by
      intro ac938 wo939 En940 Hv941
      refine any_from hG ?_
      refine any_pureR (d := some 25) En940 (v := .int .i64 ((List.length lv : Nat) : Int)) 6 (by kernel_rfl) (by kernel_rfl) rfl ?_
      intro ac942 En943
      refine any_at 1 (by kernel_rfl) rfl ?_
      refine op_loadaggbox (d := some 20) (t := 26) (b := bk1) (off := 0) (k := 5) (m := 9) (xs := [.slice ah (List.length lh) ch, .slice ap (List.length lp) cp, .slice aq (List.length lq) cq, .bool fc, .bool fe, .slice ar (List.length lr) cr, .slice av (List.length lv) cv, .bool bc, .bool be]) En943 (by kernel_rfl) Hv941 rfl rfl rfl (by kernel_rfl) (by kernel_rfl) ?_
      intro ac944 En945
      refine any_at 2 (by kernel_rfl) rfl ?_
      have hM947 : Heap wo939 [] := Hv941.heap.pick [] (by kernel_rfl) (by decide)
      refine op_call (d := some 21) (f := 28) (args := #[.agg #[.slice ah (List.length lh) ch, .slice ap (List.length lp) cp, .slice aq (List.length lq) cq, .bool fc, .bool fe, .slice ar (List.length lr) cr, .slice av (List.length lv) cv, .bool bc, .bool be]]) En945 (by kernel_rfl) ((whole_go _ ah (List.length lh) ch lh (by first | rfl | (simp; done) | (simp; omega) | omega) ((ih.ev Hv941).pick [] (by kernel_rfl)) ap (List.length lp) cp lp (by first | rfl | (simp; done) | (simp; omega) | omega) ((ip.ev Hv941).pick [] (by kernel_rfl)) aq (List.length lq) cq lq (by first | rfl | (simp; done) | (simp; omega) | omega) ((iq.ev Hv941).pick [] (by kernel_rfl)) fc fe ar (List.length lr) cr lr (by first | rfl | (simp; done) | (simp; omega) | omega) ((ir.ev Hv941).pick [] (by kernel_rfl)) av (List.length lv) cv lv (by first | rfl | (simp; done) | (simp; omega) | omega) ((iv.ev Hv941).pick [] (by kernel_rfl)) bc be (by first | omega | (simp; done) | (simp; omega))).mono ?_)
      rintro _ wo949 ⟨aoq946, coq946, rfl, he952⟩
      refine ⟨_, rfl, ?_⟩
      intro ac948 En950
      have Hv951 : Ev w [] wo949 [.vec aoq946 coq946 1 (bys (lh ++ lp)) 5, .vec apq45 cpq45 1 (bys lr) 5, .vec aqq45 cqq45 1 (bys lv) 5, .vec apq36 cpq36 1 (bys lp) 5, .vec aqq36 cqq36 1 (bys lq) 5, .vec aoq27 coq27 1 (bys lh) 5, .box bk1 [.slice ah (List.length lh) ch, .slice ap (List.length lp) cp, .slice aq (List.length lq) cq, .bool fc, .bool fe, .slice ar (List.length lr) cr, .slice av (List.length lv) cv, .bool bc, .bool be] 26, .box bk56 [.slice none 0 0, .bool false, .slice none 0 0, .bool false, .slice aoq27 (List.length lh) coq27, .slice apq36 (List.length lp) cpq36, .slice aqq36 (List.length lq) cqq36, .bool fc, .bool fe, .slice apq45 (List.length lr) cpq45, .slice aqq45 (List.length lv) cqq45, .bool bc, .bool be] 66] := Hv941.trans (Ev.call (R := [.vec apq45 cpq45 1 (bys lr) 5, .vec aqq45 cqq45 1 (bys lv) 5, .vec apq36 cpq36 1 (bys lp) 5, .vec aqq36 cqq36 1 (bys lq) 5, .vec aoq27 coq27 1 (bys lh) 5, .box bk1 [.slice ah (List.length lh) ch, .slice ap (List.length lp) cp, .slice aq (List.length lq) cq, .bool fc, .bool fe, .slice ar (List.length lr) cr, .slice av (List.length lv) cv, .bool bc, .bool be] 26, .box bk56 [.slice none 0 0, .bool false, .slice none 0 0, .bool false, .slice aoq27 (List.length lh) coq27, .slice apq36 (List.length lp) cpq36, .slice aqq36 (List.length lq) cqq36, .bool fc, .bool fe, .slice apq45 (List.length lr) cpq45, .slice aqq45 (List.length lv) cqq45, .bool bc, .bool be] 66]) Hv941.heap [0, 1, 2, 3, 4, 5, 6] (by kernel_rfl) (by decide) he952)
      clear hM947 he952
      refine any_at 7 (by kernel_rfl) rfl ?_
      have hcap953 := bys_vcap Hv951.heap (k := 0) rfl
      refine op_slice (d := some 26) (t := 22) (e := 5) (sz := 1) (len := List.length (lh ++ lp)) (cap := coq946) (lo := List.length lv) (hi := List.length (lh ++ lp)) (ao := aoq946) (lov := (some (.int .i64 ((List.length lv : Nat) : Int)))) (hiv := none) En950 (by kernel_rfl) (by kernel_rfl) (by kernel_rfl) (by omega) (by omega) (.inr ⟨.i64, rfl⟩) (.inl ⟨rfl, rfl⟩) ?_
      intro ac954 En955
      have Hv956 : Ev w [] wo949 [.vec (cutAt aoq946 coq946 (List.length lv) 1) (coq946 - (List.length lv)) 1 (bys (List.drop (List.length lv) (lh ++ lp))) 5, .vec apq45 cpq45 1 (bys lr) 5, .vec aqq45 cqq45 1 (bys lv) 5, .vec apq36 cpq36 1 (bys lp) 5, .vec aqq36 cqq36 1 (bys lq) 5, .vec aoq27 coq27 1 (bys lh) 5, .box bk1 [.slice ah (List.length lh) ch, .slice ap (List.length lp) cp, .slice aq (List.length lq) cq, .bool fc, .bool fe, .slice ar (List.length lr) cr, .slice av (List.length lv) cv, .bool bc, .bool be] 26, .box bk56 [.slice none 0 0, .bool false, .slice none 0 0, .bool false, .slice aoq27 (List.length lh) coq27, .slice apq36 (List.length lp) cpq36, .slice aqq36 (List.length lq) cqq36, .bool fc, .bool fe, .slice apq45 (List.length lr) cpq45, .slice aqq45 (List.length lv) cqq45, .bool bc, .bool be] 66] := by
        have h := Ev.cut (k := 0) (n := List.length (lh ++ lp)) (sz := 1) Hv951 rfl (bys_len _) (by omega) (List.length lv) (List.length (lh ++ lp)) (by omega) (by omega)
        rw [bys_cutw (l := lh ++ lp) (lo := List.length lv) (n := List.length (lh ++ lp)) (by simp)] at h
        exact h
      have el957 : (List.length (lh ++ lp)) - (List.length lv) = List.length (List.drop (List.length lv) (lh ++ lp)) := by first | (simp; done) | (simp; omega)
      rw [el957] at En955
      refine any_pureR (d := some 30) En955 (v := .agg #[.slice (cutAt aoq946 coq946 (List.length lv) 1) (List.length (List.drop (List.length lv) (lh ++ lp))) (coq946 - (List.length lv)), .bool fc]) 11 (by kernel_rfl) (by kernel_rfl) rfl ?_
      intro ac958 En959
      refine any_pureR (d := some 31) En959 (v := .pointer (some ⟨bk56, 0, none⟩)) 12 (by kernel_rfl) (by kernel_rfl) rfl ?_
      intro ac960 En961
      refine any_pureR (d := some 32) En961 (v := .pointer (some ⟨bk56, 0, none⟩)) 13 (by kernel_rfl) (by kernel_rfl) rfl ?_
      intro ac962 En963
      refine any_at 14 (by kernel_rfl) rfl ?_
      refine op_storeaggbox (d := none) (t := 64) (b := bk56) (off := 0) (k := 7) (m := 2) (xs := [.slice (cutAt aoq946 coq946 (List.length lv) 1) (List.length (List.drop (List.length lv) (lh ++ lp))) (coq946 - (List.length lv)), .bool fc]) (v := .agg #[.slice (cutAt aoq946 coq946 (List.length lv) 1) (List.length (List.drop (List.length lv) (lh ++ lp))) (coq946 - (List.length lv)), .bool fc]) (cs' := [.slice (cutAt aoq946 coq946 (List.length lv) 1) (List.length (List.drop (List.length lv) (lh ++ lp))) (coq946 - (List.length lv)), .bool fc, .slice none 0 0, .bool false, .slice aoq27 (List.length lh) coq27, .slice apq36 (List.length lp) cpq36, .slice aqq36 (List.length lq) cqq36, .bool fc, .bool fe, .slice apq45 (List.length lr) cpq45, .slice aqq45 (List.length lv) cqq45, .bool bc, .bool be]) En963 (by kernel_rfl) Hv956 rfl rfl rfl (by simp) (by kernel_rfl) (one_all (by kernel_rfl)) rfl (L' := [.vec (cutAt aoq946 coq946 (List.length lv) 1) (coq946 - (List.length lv)) 1 (bys (List.drop (List.length lv) (lh ++ lp))) 5, .vec apq45 cpq45 1 (bys lr) 5, .vec aqq45 cqq45 1 (bys lv) 5, .vec apq36 cpq36 1 (bys lp) 5, .vec aqq36 cqq36 1 (bys lq) 5, .vec aoq27 coq27 1 (bys lh) 5, .box bk1 [.slice ah (List.length lh) ch, .slice ap (List.length lp) cp, .slice aq (List.length lq) cq, .bool fc, .bool fe, .slice ar (List.length lr) cr, .slice av (List.length lv) cv, .bool bc, .bool be] 26, .box bk56 [.slice (cutAt aoq946 coq946 (List.length lv) 1) (List.length (List.drop (List.length lv) (lh ++ lp))) (coq946 - (List.length lv)), .bool fc, .slice none 0 0, .bool false, .slice aoq27 (List.length lh) coq27, .slice apq36 (List.length lp) cpq36, .slice aqq36 (List.length lq) cqq36, .bool fc, .bool fe, .slice apq45 (List.length lr) cpq45, .slice aqq45 (List.length lv) cqq45, .bool bc, .bool be] 66]) rfl ?_
      intro ac964 wo965  En966 Hv967
      exact any_end (by kernel_rfl) ⟨aoq946, coq946, En966.sub (by kernel_rfl), Hv967.pick [0, 1, 2, 3, 4, 5, 6, 7] (by kernel_rfl) (by decide)⟩
    have nd968 : ∀ (ac : Act) (wo : World), Env ac 50 [(1, .pointer (some ⟨bk1, 0, none⟩)), (2, .pointer none), (3, .pointer (some ⟨bk56, 0, none⟩)), (19, .pointer (some ⟨bk56, 0, none⟩)), (20, .agg #[.slice ah (List.length lh) ch, .slice ap (List.length lp) cp, .slice aq (List.length lq) cq, .bool fc, .bool fe, .slice ar (List.length lr) cr, .slice av (List.length lv) cv, .bool bc, .bool be]), (23, .pointer (some ⟨bk1, 6, none⟩)), (28, .pointer (some ⟨bk1, 3, none⟩))] → Ev w [] wo [.vec apq45 cpq45 1 (bys lr) 5, .vec aqq45 cqq45 1 (bys lv) 5, .vec apq36 cpq36 1 (bys lp) 5, .vec aqq36 cqq36 1 (bys lq) 5, .vec aoq27 coq27 1 (bys lh) 5, .box bk1 [.slice ah (List.length lh) ch, .slice ap (List.length lp) cp, .slice aq (List.length lq) cq, .bool fc, .bool fe, .slice ar (List.length lr) cr, .slice av (List.length lv) cv, .bool bc, .bool be] 26, .box bk56 [.slice none 0 0, .bool false, .slice none 0 0, .bool false, .slice aoq27 (List.length lh) coq27, .slice apq36 (List.length lp) cpq36, .slice aqq36 (List.length lq) cqq36, .bool fc, .bool fe, .slice apq45 (List.length lr) cpq45, .slice aqq45 (List.length lv) cqq45, .bool bc, .bool be] 66] → G 9 #[true, true, false, true, true, false, false, false, true, true, false, false, false, false, false] ac wo := by
      intro ac969 wo970 En971 Hv972
      refine any_from hG ?_
      refine any_ways [2, 5, 10] (by kernel_rfl) rfl ?_
      refine ⟨?_, ?_, ?_, trivial⟩
      · rintro _ rfl
        have hM974 : Heap wo970 [] := Hv972.heap.pick [] (by kernel_rfl) (by decide)
        refine op_call (d := some 21) (f := 28) (args := #[.agg #[.slice ah (List.length lh) ch, .slice ap (List.length lp) cp, .slice aq (List.length lq) cq, .bool fc, .bool fe, .slice ar (List.length lr) cr, .slice av (List.length lv) cv, .bool bc, .bool be]]) En971 (by kernel_rfl) ((whole_go _ ah (List.length lh) ch lh (by first | rfl | (simp; done) | (simp; omega) | omega) ((ih.ev Hv972).pick [] (by kernel_rfl)) ap (List.length lp) cp lp (by first | rfl | (simp; done) | (simp; omega) | omega) ((ip.ev Hv972).pick [] (by kernel_rfl)) aq (List.length lq) cq lq (by first | rfl | (simp; done) | (simp; omega) | omega) ((iq.ev Hv972).pick [] (by kernel_rfl)) fc fe ar (List.length lr) cr lr (by first | rfl | (simp; done) | (simp; omega) | omega) ((ir.ev Hv972).pick [] (by kernel_rfl)) av (List.length lv) cv lv (by first | rfl | (simp; done) | (simp; omega) | omega) ((iv.ev Hv972).pick [] (by kernel_rfl)) bc be (by first | omega | (simp; done) | (simp; omega))).mono ?_)
        rintro _ wo976 ⟨aoq973, coq973, rfl, he979⟩
        refine ⟨_, rfl, ?_⟩
        intro ac975 En977
        have Hv978 : Ev w [] wo976 [.vec aoq973 coq973 1 (bys (lh ++ lp)) 5, .vec apq45 cpq45 1 (bys lr) 5, .vec aqq45 cqq45 1 (bys lv) 5, .vec apq36 cpq36 1 (bys lp) 5, .vec aqq36 cqq36 1 (bys lq) 5, .vec aoq27 coq27 1 (bys lh) 5, .box bk1 [.slice ah (List.length lh) ch, .slice ap (List.length lp) cp, .slice aq (List.length lq) cq, .bool fc, .bool fe, .slice ar (List.length lr) cr, .slice av (List.length lv) cv, .bool bc, .bool be] 26, .box bk56 [.slice none 0 0, .bool false, .slice none 0 0, .bool false, .slice aoq27 (List.length lh) coq27, .slice apq36 (List.length lp) cpq36, .slice aqq36 (List.length lq) cqq36, .bool fc, .bool fe, .slice apq45 (List.length lr) cpq45, .slice aqq45 (List.length lv) cqq45, .bool bc, .bool be] 66] := Hv972.trans (Ev.call (R := [.vec apq45 cpq45 1 (bys lr) 5, .vec aqq45 cqq45 1 (bys lv) 5, .vec apq36 cpq36 1 (bys lp) 5, .vec aqq36 cqq36 1 (bys lq) 5, .vec aoq27 coq27 1 (bys lh) 5, .box bk1 [.slice ah (List.length lh) ch, .slice ap (List.length lp) cp, .slice aq (List.length lq) cq, .bool fc, .bool fe, .slice ar (List.length lr) cr, .slice av (List.length lv) cv, .bool bc, .bool be] 26, .box bk56 [.slice none 0 0, .bool false, .slice none 0 0, .bool false, .slice aoq27 (List.length lh) coq27, .slice apq36 (List.length lp) cpq36, .slice aqq36 (List.length lq) cqq36, .bool fc, .bool fe, .slice apq45 (List.length lr) cpq45, .slice aqq45 (List.length lv) cqq45, .bool bc, .bool be] 66]) Hv972.heap [0, 1, 2, 3, 4, 5, 6] (by kernel_rfl) (by decide) he979)
        clear hM974 he979
        exact any_to hG (by kernel_rfl) (nd898 _ _ aoq973 coq973 (En977.sub (by kernel_rfl)) (Hv978.pick [0, 1, 2, 3, 4, 5, 6, 7] (by kernel_rfl) (by decide)))
      · rintro _ rfl
        refine op_loadbox (d := some 24) (t := 22) (b := bk1) (off := 6) (k := 5) (v := .slice av (List.length lv) cv) En971 (by kernel_rfl) Hv972 rfl rfl (by kernel_rfl) ?_
        intro ac980 En981
        exact any_to hG (by kernel_rfl) (nd907 _ _ (En981.sub (by kernel_rfl)) (Hv972.pick [0, 1, 2, 3, 4, 5, 6] (by kernel_rfl) (by decide)))
      · rintro _ rfl
        refine op_loadbox (d := some 29) (t := 4) (b := bk1) (off := 3) (k := 5) (v := .bool fc) En971 (by kernel_rfl) Hv972 rfl rfl (by kernel_rfl) ?_
        intro ac982 En983
        exact any_to hG (by kernel_rfl) (nd923 _ _ (En983.sub (by kernel_rfl)) (Hv972.pick [0, 1, 2, 3, 4, 5, 6] (by kernel_rfl) (by decide)))
    have nd984 : ∀ (ac : Act) (wo : World), Env ac 50 [(1, .pointer (some ⟨bk1, 0, none⟩)), (2, .pointer none), (3, .pointer (some ⟨bk56, 0, none⟩)), (19, .pointer (some ⟨bk56, 0, none⟩)), (24, .slice av (List.length lv) cv), (28, .pointer (some ⟨bk1, 3, none⟩))] → Ev w [] wo [.vec apq45 cpq45 1 (bys lr) 5, .vec aqq45 cqq45 1 (bys lv) 5, .vec apq36 cpq36 1 (bys lp) 5, .vec aqq36 cqq36 1 (bys lq) 5, .vec aoq27 coq27 1 (bys lh) 5, .box bk1 [.slice ah (List.length lh) ch, .slice ap (List.length lp) cp, .slice aq (List.length lq) cq, .bool fc, .bool fe, .slice ar (List.length lr) cr, .slice av (List.length lv) cv, .bool bc, .bool be] 26, .box bk56 [.slice none 0 0, .bool false, .slice none 0 0, .bool false, .slice aoq27 (List.length lh) coq27, .slice apq36 (List.length lp) cpq36, .slice aqq36 (List.length lq) cqq36, .bool fc, .bool fe, .slice apq45 (List.length lr) cpq45, .slice aqq45 (List.length lv) cqq45, .bool bc, .bool be] 66] → G 9 #[true, false, false, true, true, true, false, false, true, true, false, false, false, false, false] ac wo := by
      intro ac985 wo986 En987 Hv988
      refine any_from hG ?_
      refine any_pureR (d := some 25) En987 (v := .int .i64 ((List.length lv : Nat) : Int)) 6 (by kernel_rfl) (by kernel_rfl) rfl ?_
      intro ac989 En990
      refine any_two 1 10 (by kernel_rfl) ?_ ?_
      · rintro _ rfl
        refine op_loadaggbox (d := some 20) (t := 26) (b := bk1) (off := 0) (k := 5) (m := 9) (xs := [.slice ah (List.length lh) ch, .slice ap (List.length lp) cp, .slice aq (List.length lq) cq, .bool fc, .bool fe, .slice ar (List.length lr) cr, .slice av (List.length lv) cv, .bool bc, .bool be]) En990 (by kernel_rfl) Hv988 rfl rfl rfl (by kernel_rfl) (by kernel_rfl) ?_
        intro ac991 En992
        exact any_to hG (by kernel_rfl) (nd855 _ _ (En992.sub (by kernel_rfl)) (Hv988.pick [0, 1, 2, 3, 4, 5, 6] (by kernel_rfl) (by decide)))
      · rintro _ rfl
        refine op_loadbox (d := some 29) (t := 4) (b := bk1) (off := 3) (k := 5) (v := .bool fc) En990 (by kernel_rfl) Hv988 rfl rfl (by kernel_rfl) ?_
        intro ac993 En994
        exact any_to hG (by kernel_rfl) (nd869 _ _ (En994.sub (by kernel_rfl)) (Hv988.pick [0, 1, 2, 3, 4, 5, 6] (by kernel_rfl) (by decide)))
    have nd995 : ∀ (ac : Act) (wo : World), Env ac 50 [(1, .pointer (some ⟨bk1, 0, none⟩)), (2, .pointer none), (3, .pointer (some ⟨bk56, 0, none⟩)), (19, .pointer (some ⟨bk56, 0, none⟩)), (23, .pointer (some ⟨bk1, 6, none⟩)), (29, .bool fc)] → Ev w [] wo [.vec apq45 cpq45 1 (bys lr) 5, .vec aqq45 cqq45 1 (bys lv) 5, .vec apq36 cpq36 1 (bys lp) 5, .vec aqq36 cqq36 1 (bys lq) 5, .vec aoq27 coq27 1 (bys lh) 5, .box bk1 [.slice ah (List.length lh) ch, .slice ap (List.length lp) cp, .slice aq (List.length lq) cq, .bool fc, .bool fe, .slice ar (List.length lr) cr, .slice av (List.length lv) cv, .bool bc, .bool be] 26, .box bk56 [.slice none 0 0, .bool false, .slice none 0 0, .bool false, .slice aoq27 (List.length lh) coq27, .slice apq36 (List.length lp) cpq36, .slice aqq36 (List.length lq) cqq36, .bool fc, .bool fe, .slice apq45 (List.length lr) cpq45, .slice aqq45 (List.length lv) cqq45, .bool bc, .bool be] 66] → G 9 #[true, false, false, true, true, false, false, false, true, true, true, false, false, false, false] ac wo := by
      intro ac996 wo997 En998 Hv999
      refine any_from hG ?_
      refine any_two 1 5 (by kernel_rfl) ?_ ?_
      · rintro _ rfl
        refine op_loadaggbox (d := some 20) (t := 26) (b := bk1) (off := 0) (k := 5) (m := 9) (xs := [.slice ah (List.length lh) ch, .slice ap (List.length lp) cp, .slice aq (List.length lq) cq, .bool fc, .bool fe, .slice ar (List.length lr) cr, .slice av (List.length lv) cv, .bool bc, .bool be]) En998 (by kernel_rfl) Hv999 rfl rfl rfl (by kernel_rfl) (by kernel_rfl) ?_
        intro ac1000 En1001
        exact any_to hG (by kernel_rfl) (nd923 _ _ (En1001.sub (by kernel_rfl)) (Hv999.pick [0, 1, 2, 3, 4, 5, 6] (by kernel_rfl) (by decide)))
      · rintro _ rfl
        refine op_loadbox (d := some 24) (t := 22) (b := bk1) (off := 6) (k := 5) (v := .slice av (List.length lv) cv) En998 (by kernel_rfl) Hv999 rfl rfl (by kernel_rfl) ?_
        intro ac1002 En1003
        exact any_to hG (by kernel_rfl) (nd937 _ _ (En1003.sub (by kernel_rfl)) (Hv999.pick [0, 1, 2, 3, 4, 5, 6] (by kernel_rfl) (by decide)))
    refine any_from hG ?_
    refine any_pureR (d := some 19) En481 (v := .pointer (some ⟨bk56, 0, none⟩)) 0 (by kernel_rfl) (by kernel_rfl) rfl ?_
    intro ac1004 En1005
    refine any_pureR (d := some 22) En1005 (v := .pointer (some ⟨bk1, 5, none⟩)) 3 (by kernel_rfl) (by kernel_rfl) rfl ?_
    intro ac1006 En1007
    refine any_pureR (d := some 23) En1007 (v := .pointer (some ⟨bk1, 6, none⟩)) 4 (by kernel_rfl) (by kernel_rfl) rfl ?_
    intro ac1008 En1009
    refine any_pureR (d := some 27) En1009 (v := .pointer (some ⟨bk1, 1, none⟩)) 8 (by kernel_rfl) (by kernel_rfl) rfl ?_
    intro ac1010 En1011
    refine any_pureR (d := some 28) En1011 (v := .pointer (some ⟨bk1, 3, none⟩)) 9 (by kernel_rfl) (by kernel_rfl) rfl ?_
    intro ac1012 En1013
    refine any_ways [1, 5, 10] (by kernel_rfl) rfl ?_
    refine ⟨?_, ?_, ?_, trivial⟩
    · rintro _ rfl
      refine op_loadaggbox (d := some 20) (t := 26) (b := bk1) (off := 0) (k := 5) (m := 9) (xs := [.slice ah (List.length lh) ch, .slice ap (List.length lp) cp, .slice aq (List.length lq) cq, .bool fc, .bool fe, .slice ar (List.length lr) cr, .slice av (List.length lv) cv, .bool bc, .bool be]) En1013 (by kernel_rfl) wo483 rfl rfl rfl (by kernel_rfl) (by kernel_rfl) ?_
      intro ac1014 En1015
      exact any_to hG (by kernel_rfl) (nd968 _ _ (En1015.sub (by kernel_rfl)) (wo483.pick [0, 1, 2, 3, 4, 5, 6] (by kernel_rfl) (by decide)))
    · rintro _ rfl
      refine op_loadbox (d := some 24) (t := 22) (b := bk1) (off := 6) (k := 5) (v := .slice av (List.length lv) cv) En1013 (by kernel_rfl) wo483 rfl rfl (by kernel_rfl) ?_
      intro ac1016 En1017
      exact any_to hG (by kernel_rfl) (nd984 _ _ (En1017.sub (by kernel_rfl)) (wo483.pick [0, 1, 2, 3, 4, 5, 6] (by kernel_rfl) (by decide)))
    · rintro _ rfl
      refine op_loadbox (d := some 29) (t := 4) (b := bk1) (off := 3) (k := 5) (v := .bool fc) En1013 (by kernel_rfl) wo483 rfl rfl (by kernel_rfl) ?_
      intro ac1018 En1019
      exact any_to hG (by kernel_rfl) (nd995 _ _ (En1019.sub (by kernel_rfl)) (wo483.pick [0, 1, 2, 3, 4, 5, 6] (by kernel_rfl) (by decide)))
  rintro ac1020 wo1021 ⟨aoq496, coq496, En1022, Hv1023⟩
  refine then_normal ?_
  refine wp_seq ?_
  refine region_cut (F := fun ac wo => ∃ (aoq1048 : _) (coq1048 : _), Env ac 50 [(1, .pointer (some ⟨bk1, 0, none⟩)), (2, .pointer none), (3, .pointer (some ⟨bk56, 0, none⟩))] ∧ Ev w [] wo [.vec aoq1048 coq1048 1 (bys (List.drop (List.length lq) lr)) 5, .vec (cutAt aoq496 coq496 (List.length lv) 1) (coq496 - (List.length lv)) 1 (bys (List.drop (List.length lv) (lh ++ lp))) 5, .vec apq45 cpq45 1 (bys lr) 5, .vec aqq45 cqq45 1 (bys lv) 5, .vec apq36 cpq36 1 (bys lp) 5, .vec aqq36 cqq36 1 (bys lq) 5, .vec aoq27 coq27 1 (bys lh) 5, .box bk1 [.slice ah (List.length lh) ch, .slice ap (List.length lp) cp, .slice aq (List.length lq) cq, .bool fc, .bool fe, .slice ar (List.length lr) cr, .slice av (List.length lv) cv, .bool bc, .bool be] 26, .box bk56 [.slice (cutAt aoq496 coq496 (List.length lv) 1) (List.length (List.drop (List.length lv) (lh ++ lp))) (coq496 - (List.length lv)), .bool fc, .slice aoq1048 (List.length (List.drop (List.length lq) lr)) coq1048, .bool bc, .slice aoq27 (List.length lh) coq27, .slice apq36 (List.length lp) cpq36, .slice aqq36 (List.length lq) cqq36, .bool fc, .bool fe, .slice apq45 (List.length lr) cpq45, .slice aqq45 (List.length lv) cqq45, .bool bc, .bool be] 66]) ?_ ?_
  ·
    refine draw_any (by kernel_rfl) 17 (by kernel_rfl) ?_  -- region 5
    have wo1024 := Hv1023.trans (Ev.drew Hv1023.heap)
    refine any_name fun G hG => ?_
    have nd1199 : ∀ (ac : Act) (wo : World) (aoq1048 : _) (coq1048 : _), Env ac 50 [(1, .pointer (some ⟨bk1, 0, none⟩)), (2, .pointer none), (3, .pointer (some ⟨bk56, 0, none⟩)), (33, .pointer (some ⟨bk56, 0, none⟩)), (42, .slice aoq1048 (List.length (List.drop (List.length lq) lr)) coq1048), (44, .pointer (some ⟨bk1, 7, none⟩))] → Ev w [] wo [.vec aoq1048 coq1048 1 (bys (List.drop (List.length lq) lr)) 5, .vec (cutAt aoq496 coq496 (List.length lv) 1) (coq496 - (List.length lv)) 1 (bys (List.drop (List.length lv) (lh ++ lp))) 5, .vec apq45 cpq45 1 (bys lr) 5, .vec aqq45 cqq45 1 (bys lv) 5, .vec apq36 cpq36 1 (bys lp) 5, .vec aqq36 cqq36 1 (bys lq) 5, .vec aoq27 coq27 1 (bys lh) 5, .box bk1 [.slice ah (List.length lh) ch, .slice ap (List.length lp) cp, .slice aq (List.length lq) cq, .bool fc, .bool fe, .slice ar (List.length lr) cr, .slice av (List.length lv) cv, .bool bc, .bool be] 26, .box bk56 [.slice (cutAt aoq496 coq496 (List.length lv) 1) (List.length (List.drop (List.length lv) (lh ++ lp))) (coq496 - (List.length lv)), .bool fc, .slice none 0 0, .bool false, .slice aoq27 (List.length lh) coq27, .slice apq36 (List.length lp) cpq36, .slice aqq36 (List.length lq) cqq36, .bool fc, .bool fe, .slice apq45 (List.length lr) cpq45, .slice aqq45 (List.length lv) cqq45, .bool bc, .bool be] 66] → G 5 #[true, true, true, true, true, true, true, true, true, true, true, true, false, false, false, false, false] ac wo := by
      intro ac1200 wo1201 aoq1048 coq1048 En1202 Hv1203
      refine any_from hG ?_
      refine any_at 12 (by kernel_rfl) rfl ?_
      refine op_loadbox (d := some 45) (t := 4) (b := bk1) (off := 7) (k := 7) (v := .bool bc) En1202 (by kernel_rfl) Hv1203 rfl rfl (by kernel_rfl) ?_
      intro ac1204 En1205
      refine any_pureR (d := some 46) En1205 (v := .agg #[.slice aoq1048 (List.length (List.drop (List.length lq) lr)) coq1048, .bool bc]) 13 (by kernel_rfl) (by kernel_rfl) rfl ?_
      intro ac1206 En1207
      refine any_pureR (d := some 47) En1207 (v := .pointer (some ⟨bk56, 0, none⟩)) 14 (by kernel_rfl) (by kernel_rfl) rfl ?_
      intro ac1208 En1209
      refine any_pureR (d := some 48) En1209 (v := .pointer (some ⟨bk56, 2, none⟩)) 15 (by kernel_rfl) (by kernel_rfl) rfl ?_
      intro ac1210 En1211
      refine any_at 16 (by kernel_rfl) rfl ?_
      refine op_storeaggbox (d := none) (t := 64) (b := bk56) (off := 2) (k := 8) (m := 2) (xs := [.slice aoq1048 (List.length (List.drop (List.length lq) lr)) coq1048, .bool bc]) (v := .agg #[.slice aoq1048 (List.length (List.drop (List.length lq) lr)) coq1048, .bool bc]) (cs' := [.slice (cutAt aoq496 coq496 (List.length lv) 1) (List.length (List.drop (List.length lv) (lh ++ lp))) (coq496 - (List.length lv)), .bool fc, .slice aoq1048 (List.length (List.drop (List.length lq) lr)) coq1048, .bool bc, .slice aoq27 (List.length lh) coq27, .slice apq36 (List.length lp) cpq36, .slice aqq36 (List.length lq) cqq36, .bool fc, .bool fe, .slice apq45 (List.length lr) cpq45, .slice aqq45 (List.length lv) cqq45, .bool bc, .bool be]) En1211 (by kernel_rfl) Hv1203 rfl rfl rfl (by simp) (by kernel_rfl) (one_all (by kernel_rfl)) rfl (L' := [.vec aoq1048 coq1048 1 (bys (List.drop (List.length lq) lr)) 5, .vec (cutAt aoq496 coq496 (List.length lv) 1) (coq496 - (List.length lv)) 1 (bys (List.drop (List.length lv) (lh ++ lp))) 5, .vec apq45 cpq45 1 (bys lr) 5, .vec aqq45 cqq45 1 (bys lv) 5, .vec apq36 cpq36 1 (bys lp) 5, .vec aqq36 cqq36 1 (bys lq) 5, .vec aoq27 coq27 1 (bys lh) 5, .box bk1 [.slice ah (List.length lh) ch, .slice ap (List.length lp) cp, .slice aq (List.length lq) cq, .bool fc, .bool fe, .slice ar (List.length lr) cr, .slice av (List.length lv) cv, .bool bc, .bool be] 26, .box bk56 [.slice (cutAt aoq496 coq496 (List.length lv) 1) (List.length (List.drop (List.length lv) (lh ++ lp))) (coq496 - (List.length lv)), .bool fc, .slice aoq1048 (List.length (List.drop (List.length lq) lr)) coq1048, .bool bc, .slice aoq27 (List.length lh) coq27, .slice apq36 (List.length lp) cpq36, .slice aqq36 (List.length lq) cqq36, .bool fc, .bool fe, .slice apq45 (List.length lr) cpq45, .slice aqq45 (List.length lv) cqq45, .bool bc, .bool be] 66]) rfl ?_
      intro ac1212 wo1213  En1214 Hv1215
      exact any_end (by kernel_rfl) ⟨aoq1048, coq1048, En1214.sub (by kernel_rfl), Hv1215.pick [0, 1, 2, 3, 4, 5, 6, 7, 8] (by kernel_rfl) (by decide)⟩
    have nd1216 : ∀ (ac : Act) (wo : World), Env ac 50 [(1, .pointer (some ⟨bk1, 0, none⟩)), (2, .pointer none), (3, .pointer (some ⟨bk56, 0, none⟩)), (33, .pointer (some ⟨bk56, 0, none⟩)), (41, .slice (cutAt ar cr (List.length lq) 1) ((List.length lr) - (List.length lq)) (cr - (List.length lq))), (45, .bool bc)] → Ev w [] wo [.vec (cutAt aoq496 coq496 (List.length lv) 1) (coq496 - (List.length lv)) 1 (bys (List.drop (List.length lv) (lh ++ lp))) 5, .vec apq45 cpq45 1 (bys lr) 5, .vec aqq45 cqq45 1 (bys lv) 5, .vec apq36 cpq36 1 (bys lp) 5, .vec aqq36 cqq36 1 (bys lq) 5, .vec aoq27 coq27 1 (bys lh) 5, .box bk1 [.slice ah (List.length lh) ch, .slice ap (List.length lp) cp, .slice aq (List.length lq) cq, .bool fc, .bool fe, .slice ar (List.length lr) cr, .slice av (List.length lv) cv, .bool bc, .bool be] 26, .box bk56 [.slice (cutAt aoq496 coq496 (List.length lv) 1) (List.length (List.drop (List.length lv) (lh ++ lp))) (coq496 - (List.length lv)), .bool fc, .slice none 0 0, .bool false, .slice aoq27 (List.length lh) coq27, .slice apq36 (List.length lp) cpq36, .slice aqq36 (List.length lq) cqq36, .bool fc, .bool fe, .slice apq45 (List.length lr) cpq45, .slice aqq45 (List.length lv) cqq45, .bool bc, .bool be] 66] → G 5 #[true, true, true, true, true, true, true, true, true, false, true, true, true, false, false, false, false] ac wo := by
      intro ac1217 wo1218 En1219 Hv1220
      refine any_from hG ?_
      refine any_at 9 (by kernel_rfl) rfl ?_
      have hM1222 : Heap wo1218 [] := Hv1220.heap.pick [] (by kernel_rfl) (by decide)
      refine op_call (d := some 42) (f := 35) (args := #[.slice (cutAt ar cr (List.length lq) 1) ((List.length lr) - (List.length lq)) (cr - (List.length lq))]) En1219 (by kernel_rfl) ((clone_go _ (cutAt ar cr (List.length lq) 1) ((List.length lr) - (List.length lq)) (cr - (List.length lq)) (List.drop (List.length lq) lr) (by first | rfl | (simp; done) | (simp; omega) | omega) (((ir.ev Hv1220).pick [] (by kernel_rfl)).drop (List.length lq) (by omega))).mono ?_)
      rintro _ wo1224 ⟨aoq1221, coq1221, rfl, he1227⟩
      refine ⟨_, rfl, ?_⟩
      intro ac1223 En1225
      have Hv1226 : Ev w [] wo1224 [.vec aoq1221 coq1221 1 (bys (List.drop (List.length lq) lr)) 5, .vec (cutAt aoq496 coq496 (List.length lv) 1) (coq496 - (List.length lv)) 1 (bys (List.drop (List.length lv) (lh ++ lp))) 5, .vec apq45 cpq45 1 (bys lr) 5, .vec aqq45 cqq45 1 (bys lv) 5, .vec apq36 cpq36 1 (bys lp) 5, .vec aqq36 cqq36 1 (bys lq) 5, .vec aoq27 coq27 1 (bys lh) 5, .box bk1 [.slice ah (List.length lh) ch, .slice ap (List.length lp) cp, .slice aq (List.length lq) cq, .bool fc, .bool fe, .slice ar (List.length lr) cr, .slice av (List.length lv) cv, .bool bc, .bool be] 26, .box bk56 [.slice (cutAt aoq496 coq496 (List.length lv) 1) (List.length (List.drop (List.length lv) (lh ++ lp))) (coq496 - (List.length lv)), .bool fc, .slice none 0 0, .bool false, .slice aoq27 (List.length lh) coq27, .slice apq36 (List.length lp) cpq36, .slice aqq36 (List.length lq) cqq36, .bool fc, .bool fe, .slice apq45 (List.length lr) cpq45, .slice aqq45 (List.length lv) cqq45, .bool bc, .bool be] 66] := Hv1220.trans (Ev.call (R := [.vec (cutAt aoq496 coq496 (List.length lv) 1) (coq496 - (List.length lv)) 1 (bys (List.drop (List.length lv) (lh ++ lp))) 5, .vec apq45 cpq45 1 (bys lr) 5, .vec aqq45 cqq45 1 (bys lv) 5, .vec apq36 cpq36 1 (bys lp) 5, .vec aqq36 cqq36 1 (bys lq) 5, .vec aoq27 coq27 1 (bys lh) 5, .box bk1 [.slice ah (List.length lh) ch, .slice ap (List.length lp) cp, .slice aq (List.length lq) cq, .bool fc, .bool fe, .slice ar (List.length lr) cr, .slice av (List.length lv) cv, .bool bc, .bool be] 26, .box bk56 [.slice (cutAt aoq496 coq496 (List.length lv) 1) (List.length (List.drop (List.length lv) (lh ++ lp))) (coq496 - (List.length lv)), .bool fc, .slice none 0 0, .bool false, .slice aoq27 (List.length lh) coq27, .slice apq36 (List.length lp) cpq36, .slice aqq36 (List.length lq) cqq36, .bool fc, .bool fe, .slice apq45 (List.length lr) cpq45, .slice aqq45 (List.length lv) cqq45, .bool bc, .bool be] 66]) Hv1220.heap [0, 1, 2, 3, 4, 5, 6, 7] (by kernel_rfl) (by decide) he1227)
      clear hM1222 he1227
      refine any_pureR (d := some 46) En1225 (v := .agg #[.slice aoq1221 (List.length (List.drop (List.length lq) lr)) coq1221, .bool bc]) 13 (by kernel_rfl) (by kernel_rfl) rfl ?_
      intro ac1228 En1229
      refine any_pureR (d := some 47) En1229 (v := .pointer (some ⟨bk56, 0, none⟩)) 14 (by kernel_rfl) (by kernel_rfl) rfl ?_
      intro ac1230 En1231
      refine any_pureR (d := some 48) En1231 (v := .pointer (some ⟨bk56, 2, none⟩)) 15 (by kernel_rfl) (by kernel_rfl) rfl ?_
      intro ac1232 En1233
      refine any_at 16 (by kernel_rfl) rfl ?_
      refine op_storeaggbox (d := none) (t := 64) (b := bk56) (off := 2) (k := 8) (m := 2) (xs := [.slice aoq1221 (List.length (List.drop (List.length lq) lr)) coq1221, .bool bc]) (v := .agg #[.slice aoq1221 (List.length (List.drop (List.length lq) lr)) coq1221, .bool bc]) (cs' := [.slice (cutAt aoq496 coq496 (List.length lv) 1) (List.length (List.drop (List.length lv) (lh ++ lp))) (coq496 - (List.length lv)), .bool fc, .slice aoq1221 (List.length (List.drop (List.length lq) lr)) coq1221, .bool bc, .slice aoq27 (List.length lh) coq27, .slice apq36 (List.length lp) cpq36, .slice aqq36 (List.length lq) cqq36, .bool fc, .bool fe, .slice apq45 (List.length lr) cpq45, .slice aqq45 (List.length lv) cqq45, .bool bc, .bool be]) En1233 (by kernel_rfl) Hv1226 rfl rfl rfl (by simp) (by kernel_rfl) (one_all (by kernel_rfl)) rfl (L' := [.vec aoq1221 coq1221 1 (bys (List.drop (List.length lq) lr)) 5, .vec (cutAt aoq496 coq496 (List.length lv) 1) (coq496 - (List.length lv)) 1 (bys (List.drop (List.length lv) (lh ++ lp))) 5, .vec apq45 cpq45 1 (bys lr) 5, .vec aqq45 cqq45 1 (bys lv) 5, .vec apq36 cpq36 1 (bys lp) 5, .vec aqq36 cqq36 1 (bys lq) 5, .vec aoq27 coq27 1 (bys lh) 5, .box bk1 [.slice ah (List.length lh) ch, .slice ap (List.length lp) cp, .slice aq (List.length lq) cq, .bool fc, .bool fe, .slice ar (List.length lr) cr, .slice av (List.length lv) cv, .bool bc, .bool be] 26, .box bk56 [.slice (cutAt aoq496 coq496 (List.length lv) 1) (List.length (List.drop (List.length lv) (lh ++ lp))) (coq496 - (List.length lv)), .bool fc, .slice aoq1221 (List.length (List.drop (List.length lq) lr)) coq1221, .bool bc, .slice aoq27 (List.length lh) coq27, .slice apq36 (List.length lp) cpq36, .slice aqq36 (List.length lq) cqq36, .bool fc, .bool fe, .slice apq45 (List.length lr) cpq45, .slice aqq45 (List.length lv) cqq45, .bool bc, .bool be] 66]) rfl ?_
      intro ac1234 wo1235  En1236 Hv1237
      exact any_end (by kernel_rfl) ⟨aoq1221, coq1221, En1236.sub (by kernel_rfl), Hv1237.pick [0, 1, 2, 3, 4, 5, 6, 7, 8] (by kernel_rfl) (by decide)⟩
    have nd1238 : ∀ (ac : Act) (wo : World), Env ac 50 [(1, .pointer (some ⟨bk1, 0, none⟩)), (2, .pointer none), (3, .pointer (some ⟨bk56, 0, none⟩)), (33, .pointer (some ⟨bk56, 0, none⟩)), (41, .slice (cutAt ar cr (List.length lq) 1) ((List.length lr) - (List.length lq)) (cr - (List.length lq))), (44, .pointer (some ⟨bk1, 7, none⟩))] → Ev w [] wo [.vec (cutAt aoq496 coq496 (List.length lv) 1) (coq496 - (List.length lv)) 1 (bys (List.drop (List.length lv) (lh ++ lp))) 5, .vec apq45 cpq45 1 (bys lr) 5, .vec aqq45 cqq45 1 (bys lv) 5, .vec apq36 cpq36 1 (bys lp) 5, .vec aqq36 cqq36 1 (bys lq) 5, .vec aoq27 coq27 1 (bys lh) 5, .box bk1 [.slice ah (List.length lh) ch, .slice ap (List.length lp) cp, .slice aq (List.length lq) cq, .bool fc, .bool fe, .slice ar (List.length lr) cr, .slice av (List.length lv) cv, .bool bc, .bool be] 26, .box bk56 [.slice (cutAt aoq496 coq496 (List.length lv) 1) (List.length (List.drop (List.length lv) (lh ++ lp))) (coq496 - (List.length lv)), .bool fc, .slice none 0 0, .bool false, .slice aoq27 (List.length lh) coq27, .slice apq36 (List.length lp) cpq36, .slice aqq36 (List.length lq) cqq36, .bool fc, .bool fe, .slice apq45 (List.length lr) cpq45, .slice aqq45 (List.length lv) cqq45, .bool bc, .bool be] 66] → G 6 #[true, true, true, true, true, true, true, true, true, false, true, true, false, false, false, false, false] ac wo := by
      intro ac1239 wo1240 En1241 Hv1242
      refine any_from hG ?_
      refine any_two 9 12 (by kernel_rfl) ?_ ?_
      · rintro _ rfl
        have hM1244 : Heap wo1240 [] := Hv1242.heap.pick [] (by kernel_rfl) (by decide)
        refine op_call (d := some 42) (f := 35) (args := #[.slice (cutAt ar cr (List.length lq) 1) ((List.length lr) - (List.length lq)) (cr - (List.length lq))]) En1241 (by kernel_rfl) ((clone_go _ (cutAt ar cr (List.length lq) 1) ((List.length lr) - (List.length lq)) (cr - (List.length lq)) (List.drop (List.length lq) lr) (by first | rfl | (simp; done) | (simp; omega) | omega) (((ir.ev Hv1242).pick [] (by kernel_rfl)).drop (List.length lq) (by omega))).mono ?_)
        rintro _ wo1246 ⟨aoq1243, coq1243, rfl, he1249⟩
        refine ⟨_, rfl, ?_⟩
        intro ac1245 En1247
        have Hv1248 : Ev w [] wo1246 [.vec aoq1243 coq1243 1 (bys (List.drop (List.length lq) lr)) 5, .vec (cutAt aoq496 coq496 (List.length lv) 1) (coq496 - (List.length lv)) 1 (bys (List.drop (List.length lv) (lh ++ lp))) 5, .vec apq45 cpq45 1 (bys lr) 5, .vec aqq45 cqq45 1 (bys lv) 5, .vec apq36 cpq36 1 (bys lp) 5, .vec aqq36 cqq36 1 (bys lq) 5, .vec aoq27 coq27 1 (bys lh) 5, .box bk1 [.slice ah (List.length lh) ch, .slice ap (List.length lp) cp, .slice aq (List.length lq) cq, .bool fc, .bool fe, .slice ar (List.length lr) cr, .slice av (List.length lv) cv, .bool bc, .bool be] 26, .box bk56 [.slice (cutAt aoq496 coq496 (List.length lv) 1) (List.length (List.drop (List.length lv) (lh ++ lp))) (coq496 - (List.length lv)), .bool fc, .slice none 0 0, .bool false, .slice aoq27 (List.length lh) coq27, .slice apq36 (List.length lp) cpq36, .slice aqq36 (List.length lq) cqq36, .bool fc, .bool fe, .slice apq45 (List.length lr) cpq45, .slice aqq45 (List.length lv) cqq45, .bool bc, .bool be] 66] := Hv1242.trans (Ev.call (R := [.vec (cutAt aoq496 coq496 (List.length lv) 1) (coq496 - (List.length lv)) 1 (bys (List.drop (List.length lv) (lh ++ lp))) 5, .vec apq45 cpq45 1 (bys lr) 5, .vec aqq45 cqq45 1 (bys lv) 5, .vec apq36 cpq36 1 (bys lp) 5, .vec aqq36 cqq36 1 (bys lq) 5, .vec aoq27 coq27 1 (bys lh) 5, .box bk1 [.slice ah (List.length lh) ch, .slice ap (List.length lp) cp, .slice aq (List.length lq) cq, .bool fc, .bool fe, .slice ar (List.length lr) cr, .slice av (List.length lv) cv, .bool bc, .bool be] 26, .box bk56 [.slice (cutAt aoq496 coq496 (List.length lv) 1) (List.length (List.drop (List.length lv) (lh ++ lp))) (coq496 - (List.length lv)), .bool fc, .slice none 0 0, .bool false, .slice aoq27 (List.length lh) coq27, .slice apq36 (List.length lp) cpq36, .slice aqq36 (List.length lq) cqq36, .bool fc, .bool fe, .slice apq45 (List.length lr) cpq45, .slice aqq45 (List.length lv) cqq45, .bool bc, .bool be] 66]) Hv1242.heap [0, 1, 2, 3, 4, 5, 6, 7] (by kernel_rfl) (by decide) he1249)
        clear hM1244 he1249
        exact any_to hG (by kernel_rfl) (nd1199 _ _ aoq1243 coq1243 (En1247.sub (by kernel_rfl)) (Hv1248.pick [0, 1, 2, 3, 4, 5, 6, 7, 8] (by kernel_rfl) (by decide)))
      · rintro _ rfl
        refine op_loadbox (d := some 45) (t := 4) (b := bk1) (off := 7) (k := 6) (v := .bool bc) En1241 (by kernel_rfl) Hv1242 rfl rfl (by kernel_rfl) ?_
        intro ac1250 En1251
        exact any_to hG (by kernel_rfl) (nd1216 _ _ (En1251.sub (by kernel_rfl)) (Hv1242.pick [0, 1, 2, 3, 4, 5, 6, 7] (by kernel_rfl) (by decide)))
    have nd1252 : ∀ (ac : Act) (wo : World), Env ac 50 [(1, .pointer (some ⟨bk1, 0, none⟩)), (2, .pointer none), (3, .pointer (some ⟨bk56, 0, none⟩)), (33, .pointer (some ⟨bk56, 0, none⟩)), (36, .slice ar (List.length lr) cr), (40, .int .i64 ((List.length lq : Nat) : Int)), (45, .bool bc)] → Ev w [] wo [.vec (cutAt aoq496 coq496 (List.length lv) 1) (coq496 - (List.length lv)) 1 (bys (List.drop (List.length lv) (lh ++ lp))) 5, .vec apq45 cpq45 1 (bys lr) 5, .vec aqq45 cqq45 1 (bys lv) 5, .vec apq36 cpq36 1 (bys lp) 5, .vec aqq36 cqq36 1 (bys lq) 5, .vec aoq27 coq27 1 (bys lh) 5, .box bk1 [.slice ah (List.length lh) ch, .slice ap (List.length lp) cp, .slice aq (List.length lq) cq, .bool fc, .bool fe, .slice ar (List.length lr) cr, .slice av (List.length lv) cv, .bool bc, .bool be] 26, .box bk56 [.slice (cutAt aoq496 coq496 (List.length lv) 1) (List.length (List.drop (List.length lv) (lh ++ lp))) (coq496 - (List.length lv)), .bool fc, .slice none 0 0, .bool false, .slice aoq27 (List.length lh) coq27, .slice apq36 (List.length lp) cpq36, .slice aqq36 (List.length lq) cqq36, .bool fc, .bool fe, .slice apq45 (List.length lr) cpq45, .slice aqq45 (List.length lv) cqq45, .bool bc, .bool be] 66] → G 6 #[true, true, true, true, true, true, true, true, false, false, true, true, true, false, false, false, false] ac wo := by
      intro ac1253 wo1254 En1255 Hv1256
      refine any_from hG ?_
      refine any_at 8 (by kernel_rfl) rfl ?_
      have hcap1257 := ir.cap
      refine op_slice (d := some 41) (t := 22) (e := 5) (sz := 1) (len := List.length lr) (cap := cr) (lo := List.length lq) (hi := List.length lr) (ao := ar) (lov := (some (.int .i64 ((List.length lq : Nat) : Int)))) (hiv := none) En1255 (by kernel_rfl) (by kernel_rfl) (by kernel_rfl) (by omega) (by omega) (.inr ⟨.i64, rfl⟩) (.inl ⟨rfl, rfl⟩) ?_
      intro ac1258 En1259
      refine any_at 9 (by kernel_rfl) rfl ?_
      have hM1261 : Heap wo1254 [] := Hv1256.heap.pick [] (by kernel_rfl) (by decide)
      refine op_call (d := some 42) (f := 35) (args := #[.slice (cutAt ar cr (List.length lq) 1) ((List.length lr) - (List.length lq)) (cr - (List.length lq))]) En1259 (by kernel_rfl) ((clone_go _ (cutAt ar cr (List.length lq) 1) ((List.length lr) - (List.length lq)) (cr - (List.length lq)) (List.drop (List.length lq) lr) (by first | rfl | (simp; done) | (simp; omega) | omega) (((ir.ev Hv1256).pick [] (by kernel_rfl)).drop (List.length lq) (by omega))).mono ?_)
      rintro _ wo1263 ⟨aoq1260, coq1260, rfl, he1266⟩
      refine ⟨_, rfl, ?_⟩
      intro ac1262 En1264
      have Hv1265 : Ev w [] wo1263 [.vec aoq1260 coq1260 1 (bys (List.drop (List.length lq) lr)) 5, .vec (cutAt aoq496 coq496 (List.length lv) 1) (coq496 - (List.length lv)) 1 (bys (List.drop (List.length lv) (lh ++ lp))) 5, .vec apq45 cpq45 1 (bys lr) 5, .vec aqq45 cqq45 1 (bys lv) 5, .vec apq36 cpq36 1 (bys lp) 5, .vec aqq36 cqq36 1 (bys lq) 5, .vec aoq27 coq27 1 (bys lh) 5, .box bk1 [.slice ah (List.length lh) ch, .slice ap (List.length lp) cp, .slice aq (List.length lq) cq, .bool fc, .bool fe, .slice ar (List.length lr) cr, .slice av (List.length lv) cv, .bool bc, .bool be] 26, .box bk56 [.slice (cutAt aoq496 coq496 (List.length lv) 1) (List.length (List.drop (List.length lv) (lh ++ lp))) (coq496 - (List.length lv)), .bool fc, .slice none 0 0, .bool false, .slice aoq27 (List.length lh) coq27, .slice apq36 (List.length lp) cpq36, .slice aqq36 (List.length lq) cqq36, .bool fc, .bool fe, .slice apq45 (List.length lr) cpq45, .slice aqq45 (List.length lv) cqq45, .bool bc, .bool be] 66] := Hv1256.trans (Ev.call (R := [.vec (cutAt aoq496 coq496 (List.length lv) 1) (coq496 - (List.length lv)) 1 (bys (List.drop (List.length lv) (lh ++ lp))) 5, .vec apq45 cpq45 1 (bys lr) 5, .vec aqq45 cqq45 1 (bys lv) 5, .vec apq36 cpq36 1 (bys lp) 5, .vec aqq36 cqq36 1 (bys lq) 5, .vec aoq27 coq27 1 (bys lh) 5, .box bk1 [.slice ah (List.length lh) ch, .slice ap (List.length lp) cp, .slice aq (List.length lq) cq, .bool fc, .bool fe, .slice ar (List.length lr) cr, .slice av (List.length lv) cv, .bool bc, .bool be] 26, .box bk56 [.slice (cutAt aoq496 coq496 (List.length lv) 1) (List.length (List.drop (List.length lv) (lh ++ lp))) (coq496 - (List.length lv)), .bool fc, .slice none 0 0, .bool false, .slice aoq27 (List.length lh) coq27, .slice apq36 (List.length lp) cpq36, .slice aqq36 (List.length lq) cqq36, .bool fc, .bool fe, .slice apq45 (List.length lr) cpq45, .slice aqq45 (List.length lv) cqq45, .bool bc, .bool be] 66]) Hv1256.heap [0, 1, 2, 3, 4, 5, 6, 7] (by kernel_rfl) (by decide) he1266)
      clear hM1261 he1266
      refine any_pureR (d := some 46) En1264 (v := .agg #[.slice aoq1260 (List.length (List.drop (List.length lq) lr)) coq1260, .bool bc]) 13 (by kernel_rfl) (by kernel_rfl) rfl ?_
      intro ac1267 En1268
      refine any_pureR (d := some 47) En1268 (v := .pointer (some ⟨bk56, 0, none⟩)) 14 (by kernel_rfl) (by kernel_rfl) rfl ?_
      intro ac1269 En1270
      refine any_pureR (d := some 48) En1270 (v := .pointer (some ⟨bk56, 2, none⟩)) 15 (by kernel_rfl) (by kernel_rfl) rfl ?_
      intro ac1271 En1272
      refine any_at 16 (by kernel_rfl) rfl ?_
      refine op_storeaggbox (d := none) (t := 64) (b := bk56) (off := 2) (k := 8) (m := 2) (xs := [.slice aoq1260 (List.length (List.drop (List.length lq) lr)) coq1260, .bool bc]) (v := .agg #[.slice aoq1260 (List.length (List.drop (List.length lq) lr)) coq1260, .bool bc]) (cs' := [.slice (cutAt aoq496 coq496 (List.length lv) 1) (List.length (List.drop (List.length lv) (lh ++ lp))) (coq496 - (List.length lv)), .bool fc, .slice aoq1260 (List.length (List.drop (List.length lq) lr)) coq1260, .bool bc, .slice aoq27 (List.length lh) coq27, .slice apq36 (List.length lp) cpq36, .slice aqq36 (List.length lq) cqq36, .bool fc, .bool fe, .slice apq45 (List.length lr) cpq45, .slice aqq45 (List.length lv) cqq45, .bool bc, .bool be]) En1272 (by kernel_rfl) Hv1265 rfl rfl rfl (by simp) (by kernel_rfl) (one_all (by kernel_rfl)) rfl (L' := [.vec aoq1260 coq1260 1 (bys (List.drop (List.length lq) lr)) 5, .vec (cutAt aoq496 coq496 (List.length lv) 1) (coq496 - (List.length lv)) 1 (bys (List.drop (List.length lv) (lh ++ lp))) 5, .vec apq45 cpq45 1 (bys lr) 5, .vec aqq45 cqq45 1 (bys lv) 5, .vec apq36 cpq36 1 (bys lp) 5, .vec aqq36 cqq36 1 (bys lq) 5, .vec aoq27 coq27 1 (bys lh) 5, .box bk1 [.slice ah (List.length lh) ch, .slice ap (List.length lp) cp, .slice aq (List.length lq) cq, .bool fc, .bool fe, .slice ar (List.length lr) cr, .slice av (List.length lv) cv, .bool bc, .bool be] 26, .box bk56 [.slice (cutAt aoq496 coq496 (List.length lv) 1) (List.length (List.drop (List.length lv) (lh ++ lp))) (coq496 - (List.length lv)), .bool fc, .slice aoq1260 (List.length (List.drop (List.length lq) lr)) coq1260, .bool bc, .slice aoq27 (List.length lh) coq27, .slice apq36 (List.length lp) cpq36, .slice aqq36 (List.length lq) cqq36, .bool fc, .bool fe, .slice apq45 (List.length lr) cpq45, .slice aqq45 (List.length lv) cqq45, .bool bc, .bool be] 66]) rfl ?_
      intro ac1273 wo1274  En1275 Hv1276
      exact any_end (by kernel_rfl) ⟨aoq1260, coq1260, En1275.sub (by kernel_rfl), Hv1276.pick [0, 1, 2, 3, 4, 5, 6, 7, 8] (by kernel_rfl) (by decide)⟩
    have nd1277 : ∀ (ac : Act) (wo : World), Env ac 50 [(1, .pointer (some ⟨bk1, 0, none⟩)), (2, .pointer none), (3, .pointer (some ⟨bk56, 0, none⟩)), (33, .pointer (some ⟨bk56, 0, none⟩)), (36, .slice ar (List.length lr) cr), (40, .int .i64 ((List.length lq : Nat) : Int)), (44, .pointer (some ⟨bk1, 7, none⟩))] → Ev w [] wo [.vec (cutAt aoq496 coq496 (List.length lv) 1) (coq496 - (List.length lv)) 1 (bys (List.drop (List.length lv) (lh ++ lp))) 5, .vec apq45 cpq45 1 (bys lr) 5, .vec aqq45 cqq45 1 (bys lv) 5, .vec apq36 cpq36 1 (bys lp) 5, .vec aqq36 cqq36 1 (bys lq) 5, .vec aoq27 coq27 1 (bys lh) 5, .box bk1 [.slice ah (List.length lh) ch, .slice ap (List.length lp) cp, .slice aq (List.length lq) cq, .bool fc, .bool fe, .slice ar (List.length lr) cr, .slice av (List.length lv) cv, .bool bc, .bool be] 26, .box bk56 [.slice (cutAt aoq496 coq496 (List.length lv) 1) (List.length (List.drop (List.length lv) (lh ++ lp))) (coq496 - (List.length lv)), .bool fc, .slice none 0 0, .bool false, .slice aoq27 (List.length lh) coq27, .slice apq36 (List.length lp) cpq36, .slice aqq36 (List.length lq) cqq36, .bool fc, .bool fe, .slice apq45 (List.length lr) cpq45, .slice aqq45 (List.length lv) cqq45, .bool bc, .bool be] 66] → G 7 #[true, true, true, true, true, true, true, true, false, false, true, true, false, false, false, false, false] ac wo := by
      intro ac1278 wo1279 En1280 Hv1281
      refine any_from hG ?_
      refine any_two 8 12 (by kernel_rfl) ?_ ?_
      · rintro _ rfl
        have hcap1282 := ir.cap
        refine op_slice (d := some 41) (t := 22) (e := 5) (sz := 1) (len := List.length lr) (cap := cr) (lo := List.length lq) (hi := List.length lr) (ao := ar) (lov := (some (.int .i64 ((List.length lq : Nat) : Int)))) (hiv := none) En1280 (by kernel_rfl) (by kernel_rfl) (by kernel_rfl) (by omega) (by omega) (.inr ⟨.i64, rfl⟩) (.inl ⟨rfl, rfl⟩) ?_
        intro ac1283 En1284
        exact any_to hG (by kernel_rfl) (nd1238 _ _ (En1284.sub (by kernel_rfl)) (Hv1281.pick [0, 1, 2, 3, 4, 5, 6, 7] (by kernel_rfl) (by decide)))
      · rintro _ rfl
        refine op_loadbox (d := some 45) (t := 4) (b := bk1) (off := 7) (k := 6) (v := .bool bc) En1280 (by kernel_rfl) Hv1281 rfl rfl (by kernel_rfl) ?_
        intro ac1285 En1286
        exact any_to hG (by kernel_rfl) (nd1252 _ _ (En1286.sub (by kernel_rfl)) (Hv1281.pick [0, 1, 2, 3, 4, 5, 6, 7] (by kernel_rfl) (by decide)))
    have nd1287 : ∀ (ac : Act) (wo : World), Env ac 50 [(1, .pointer (some ⟨bk1, 0, none⟩)), (2, .pointer none), (3, .pointer (some ⟨bk56, 0, none⟩)), (33, .pointer (some ⟨bk56, 0, none⟩)), (35, .pointer (some ⟨bk1, 5, none⟩)), (40, .int .i64 ((List.length lq : Nat) : Int)), (45, .bool bc)] → Ev w [] wo [.vec (cutAt aoq496 coq496 (List.length lv) 1) (coq496 - (List.length lv)) 1 (bys (List.drop (List.length lv) (lh ++ lp))) 5, .vec apq45 cpq45 1 (bys lr) 5, .vec aqq45 cqq45 1 (bys lv) 5, .vec apq36 cpq36 1 (bys lp) 5, .vec aqq36 cqq36 1 (bys lq) 5, .vec aoq27 coq27 1 (bys lh) 5, .box bk1 [.slice ah (List.length lh) ch, .slice ap (List.length lp) cp, .slice aq (List.length lq) cq, .bool fc, .bool fe, .slice ar (List.length lr) cr, .slice av (List.length lv) cv, .bool bc, .bool be] 26, .box bk56 [.slice (cutAt aoq496 coq496 (List.length lv) 1) (List.length (List.drop (List.length lv) (lh ++ lp))) (coq496 - (List.length lv)), .bool fc, .slice none 0 0, .bool false, .slice aoq27 (List.length lh) coq27, .slice apq36 (List.length lp) cpq36, .slice aqq36 (List.length lq) cqq36, .bool fc, .bool fe, .slice apq45 (List.length lr) cpq45, .slice aqq45 (List.length lv) cqq45, .bool bc, .bool be] 66] → G 7 #[true, true, true, false, true, true, true, true, false, false, true, true, true, false, false, false, false] ac wo := by
      intro ac1288 wo1289 En1290 Hv1291
      refine any_from hG ?_
      refine any_at 3 (by kernel_rfl) rfl ?_
      refine op_loadbox (d := some 36) (t := 22) (b := bk1) (off := 5) (k := 6) (v := .slice ar (List.length lr) cr) En1290 (by kernel_rfl) Hv1291 rfl rfl (by kernel_rfl) ?_
      intro ac1292 En1293
      refine any_at 8 (by kernel_rfl) rfl ?_
      have hcap1294 := ir.cap
      refine op_slice (d := some 41) (t := 22) (e := 5) (sz := 1) (len := List.length lr) (cap := cr) (lo := List.length lq) (hi := List.length lr) (ao := ar) (lov := (some (.int .i64 ((List.length lq : Nat) : Int)))) (hiv := none) En1293 (by kernel_rfl) (by kernel_rfl) (by kernel_rfl) (by omega) (by omega) (.inr ⟨.i64, rfl⟩) (.inl ⟨rfl, rfl⟩) ?_
      intro ac1295 En1296
      refine any_at 9 (by kernel_rfl) rfl ?_
      have hM1298 : Heap wo1289 [] := Hv1291.heap.pick [] (by kernel_rfl) (by decide)
      refine op_call (d := some 42) (f := 35) (args := #[.slice (cutAt ar cr (List.length lq) 1) ((List.length lr) - (List.length lq)) (cr - (List.length lq))]) En1296 (by kernel_rfl) ((clone_go _ (cutAt ar cr (List.length lq) 1) ((List.length lr) - (List.length lq)) (cr - (List.length lq)) (List.drop (List.length lq) lr) (by first | rfl | (simp; done) | (simp; omega) | omega) (((ir.ev Hv1291).pick [] (by kernel_rfl)).drop (List.length lq) (by omega))).mono ?_)
      rintro _ wo1300 ⟨aoq1297, coq1297, rfl, he1303⟩
      refine ⟨_, rfl, ?_⟩
      intro ac1299 En1301
      have Hv1302 : Ev w [] wo1300 [.vec aoq1297 coq1297 1 (bys (List.drop (List.length lq) lr)) 5, .vec (cutAt aoq496 coq496 (List.length lv) 1) (coq496 - (List.length lv)) 1 (bys (List.drop (List.length lv) (lh ++ lp))) 5, .vec apq45 cpq45 1 (bys lr) 5, .vec aqq45 cqq45 1 (bys lv) 5, .vec apq36 cpq36 1 (bys lp) 5, .vec aqq36 cqq36 1 (bys lq) 5, .vec aoq27 coq27 1 (bys lh) 5, .box bk1 [.slice ah (List.length lh) ch, .slice ap (List.length lp) cp, .slice aq (List.length lq) cq, .bool fc, .bool fe, .slice ar (List.length lr) cr, .slice av (List.length lv) cv, .bool bc, .bool be] 26, .box bk56 [.slice (cutAt aoq496 coq496 (List.length lv) 1) (List.length (List.drop (List.length lv) (lh ++ lp))) (coq496 - (List.length lv)), .bool fc, .slice none 0 0, .bool false, .slice aoq27 (List.length lh) coq27, .slice apq36 (List.length lp) cpq36, .slice aqq36 (List.length lq) cqq36, .bool fc, .bool fe, .slice apq45 (List.length lr) cpq45, .slice aqq45 (List.length lv) cqq45, .bool bc, .bool be] 66] := Hv1291.trans (Ev.call (R := [.vec (cutAt aoq496 coq496 (List.length lv) 1) (coq496 - (List.length lv)) 1 (bys (List.drop (List.length lv) (lh ++ lp))) 5, .vec apq45 cpq45 1 (bys lr) 5, .vec aqq45 cqq45 1 (bys lv) 5, .vec apq36 cpq36 1 (bys lp) 5, .vec aqq36 cqq36 1 (bys lq) 5, .vec aoq27 coq27 1 (bys lh) 5, .box bk1 [.slice ah (List.length lh) ch, .slice ap (List.length lp) cp, .slice aq (List.length lq) cq, .bool fc, .bool fe, .slice ar (List.length lr) cr, .slice av (List.length lv) cv, .bool bc, .bool be] 26, .box bk56 [.slice (cutAt aoq496 coq496 (List.length lv) 1) (List.length (List.drop (List.length lv) (lh ++ lp))) (coq496 - (List.length lv)), .bool fc, .slice none 0 0, .bool false, .slice aoq27 (List.length lh) coq27, .slice apq36 (List.length lp) cpq36, .slice aqq36 (List.length lq) cqq36, .bool fc, .bool fe, .slice apq45 (List.length lr) cpq45, .slice aqq45 (List.length lv) cqq45, .bool bc, .bool be] 66]) Hv1291.heap [0, 1, 2, 3, 4, 5, 6, 7] (by kernel_rfl) (by decide) he1303)
      clear hM1298 he1303
      refine any_pureR (d := some 46) En1301 (v := .agg #[.slice aoq1297 (List.length (List.drop (List.length lq) lr)) coq1297, .bool bc]) 13 (by kernel_rfl) (by kernel_rfl) rfl ?_
      intro ac1304 En1305
      refine any_pureR (d := some 47) En1305 (v := .pointer (some ⟨bk56, 0, none⟩)) 14 (by kernel_rfl) (by kernel_rfl) rfl ?_
      intro ac1306 En1307
      refine any_pureR (d := some 48) En1307 (v := .pointer (some ⟨bk56, 2, none⟩)) 15 (by kernel_rfl) (by kernel_rfl) rfl ?_
      intro ac1308 En1309
      refine any_at 16 (by kernel_rfl) rfl ?_
      refine op_storeaggbox (d := none) (t := 64) (b := bk56) (off := 2) (k := 8) (m := 2) (xs := [.slice aoq1297 (List.length (List.drop (List.length lq) lr)) coq1297, .bool bc]) (v := .agg #[.slice aoq1297 (List.length (List.drop (List.length lq) lr)) coq1297, .bool bc]) (cs' := [.slice (cutAt aoq496 coq496 (List.length lv) 1) (List.length (List.drop (List.length lv) (lh ++ lp))) (coq496 - (List.length lv)), .bool fc, .slice aoq1297 (List.length (List.drop (List.length lq) lr)) coq1297, .bool bc, .slice aoq27 (List.length lh) coq27, .slice apq36 (List.length lp) cpq36, .slice aqq36 (List.length lq) cqq36, .bool fc, .bool fe, .slice apq45 (List.length lr) cpq45, .slice aqq45 (List.length lv) cqq45, .bool bc, .bool be]) En1309 (by kernel_rfl) Hv1302 rfl rfl rfl (by simp) (by kernel_rfl) (one_all (by kernel_rfl)) rfl (L' := [.vec aoq1297 coq1297 1 (bys (List.drop (List.length lq) lr)) 5, .vec (cutAt aoq496 coq496 (List.length lv) 1) (coq496 - (List.length lv)) 1 (bys (List.drop (List.length lv) (lh ++ lp))) 5, .vec apq45 cpq45 1 (bys lr) 5, .vec aqq45 cqq45 1 (bys lv) 5, .vec apq36 cpq36 1 (bys lp) 5, .vec aqq36 cqq36 1 (bys lq) 5, .vec aoq27 coq27 1 (bys lh) 5, .box bk1 [.slice ah (List.length lh) ch, .slice ap (List.length lp) cp, .slice aq (List.length lq) cq, .bool fc, .bool fe, .slice ar (List.length lr) cr, .slice av (List.length lv) cv, .bool bc, .bool be] 26, .box bk56 [.slice (cutAt aoq496 coq496 (List.length lv) 1) (List.length (List.drop (List.length lv) (lh ++ lp))) (coq496 - (List.length lv)), .bool fc, .slice aoq1297 (List.length (List.drop (List.length lq) lr)) coq1297, .bool bc, .slice aoq27 (List.length lh) coq27, .slice apq36 (List.length lp) cpq36, .slice aqq36 (List.length lq) cqq36, .bool fc, .bool fe, .slice apq45 (List.length lr) cpq45, .slice aqq45 (List.length lv) cqq45, .bool bc, .bool be] 66]) rfl ?_
      intro ac1310 wo1311  En1312 Hv1313
      exact any_end (by kernel_rfl) ⟨aoq1297, coq1297, En1312.sub (by kernel_rfl), Hv1313.pick [0, 1, 2, 3, 4, 5, 6, 7, 8] (by kernel_rfl) (by decide)⟩
    have nd1314 : ∀ (ac : Act) (wo : World), Env ac 50 [(1, .pointer (some ⟨bk1, 0, none⟩)), (2, .pointer none), (3, .pointer (some ⟨bk56, 0, none⟩)), (33, .pointer (some ⟨bk56, 0, none⟩)), (36, .slice ar (List.length lr) cr), (39, .slice aq (List.length lq) cq), (44, .pointer (some ⟨bk1, 7, none⟩))] → Ev w [] wo [.vec (cutAt aoq496 coq496 (List.length lv) 1) (coq496 - (List.length lv)) 1 (bys (List.drop (List.length lv) (lh ++ lp))) 5, .vec apq45 cpq45 1 (bys lr) 5, .vec aqq45 cqq45 1 (bys lv) 5, .vec apq36 cpq36 1 (bys lp) 5, .vec aqq36 cqq36 1 (bys lq) 5, .vec aoq27 coq27 1 (bys lh) 5, .box bk1 [.slice ah (List.length lh) ch, .slice ap (List.length lp) cp, .slice aq (List.length lq) cq, .bool fc, .bool fe, .slice ar (List.length lr) cr, .slice av (List.length lv) cv, .bool bc, .bool be] 26, .box bk56 [.slice (cutAt aoq496 coq496 (List.length lv) 1) (List.length (List.drop (List.length lv) (lh ++ lp))) (coq496 - (List.length lv)), .bool fc, .slice none 0 0, .bool false, .slice aoq27 (List.length lh) coq27, .slice apq36 (List.length lp) cpq36, .slice aqq36 (List.length lq) cqq36, .bool fc, .bool fe, .slice apq45 (List.length lr) cpq45, .slice aqq45 (List.length lv) cqq45, .bool bc, .bool be] 66] → G 8 #[true, true, true, true, true, true, true, false, false, false, true, true, false, false, false, false, false] ac wo := by
      intro ac1315 wo1316 En1317 Hv1318
      refine any_from hG ?_
      refine any_pureR (d := some 40) En1317 (v := .int .i64 ((List.length lq : Nat) : Int)) 7 (by kernel_rfl) (by kernel_rfl) rfl ?_
      intro ac1319 En1320
      refine any_two 8 12 (by kernel_rfl) ?_ ?_
      · rintro _ rfl
        have hcap1321 := ir.cap
        refine op_slice (d := some 41) (t := 22) (e := 5) (sz := 1) (len := List.length lr) (cap := cr) (lo := List.length lq) (hi := List.length lr) (ao := ar) (lov := (some (.int .i64 ((List.length lq : Nat) : Int)))) (hiv := none) En1320 (by kernel_rfl) (by kernel_rfl) (by kernel_rfl) (by omega) (by omega) (.inr ⟨.i64, rfl⟩) (.inl ⟨rfl, rfl⟩) ?_
        intro ac1322 En1323
        exact any_to hG (by kernel_rfl) (nd1238 _ _ (En1323.sub (by kernel_rfl)) (Hv1318.pick [0, 1, 2, 3, 4, 5, 6, 7] (by kernel_rfl) (by decide)))
      · rintro _ rfl
        refine op_loadbox (d := some 45) (t := 4) (b := bk1) (off := 7) (k := 6) (v := .bool bc) En1320 (by kernel_rfl) Hv1318 rfl rfl (by kernel_rfl) ?_
        intro ac1324 En1325
        exact any_to hG (by kernel_rfl) (nd1252 _ _ (En1325.sub (by kernel_rfl)) (Hv1318.pick [0, 1, 2, 3, 4, 5, 6, 7] (by kernel_rfl) (by decide)))
    have nd1326 : ∀ (ac : Act) (wo : World), Env ac 50 [(1, .pointer (some ⟨bk1, 0, none⟩)), (2, .pointer none), (3, .pointer (some ⟨bk56, 0, none⟩)), (33, .pointer (some ⟨bk56, 0, none⟩)), (36, .slice ar (List.length lr) cr), (38, .pointer (some ⟨bk1, 2, none⟩)), (45, .bool bc)] → Ev w [] wo [.vec (cutAt aoq496 coq496 (List.length lv) 1) (coq496 - (List.length lv)) 1 (bys (List.drop (List.length lv) (lh ++ lp))) 5, .vec apq45 cpq45 1 (bys lr) 5, .vec aqq45 cqq45 1 (bys lv) 5, .vec apq36 cpq36 1 (bys lp) 5, .vec aqq36 cqq36 1 (bys lq) 5, .vec aoq27 coq27 1 (bys lh) 5, .box bk1 [.slice ah (List.length lh) ch, .slice ap (List.length lp) cp, .slice aq (List.length lq) cq, .bool fc, .bool fe, .slice ar (List.length lr) cr, .slice av (List.length lv) cv, .bool bc, .bool be] 26, .box bk56 [.slice (cutAt aoq496 coq496 (List.length lv) 1) (List.length (List.drop (List.length lv) (lh ++ lp))) (coq496 - (List.length lv)), .bool fc, .slice none 0 0, .bool false, .slice aoq27 (List.length lh) coq27, .slice apq36 (List.length lp) cpq36, .slice aqq36 (List.length lq) cqq36, .bool fc, .bool fe, .slice apq45 (List.length lr) cpq45, .slice aqq45 (List.length lv) cqq45, .bool bc, .bool be] 66] → G 8 #[true, true, true, true, true, true, false, false, false, false, true, true, true, false, false, false, false] ac wo := by
      intro ac1327 wo1328 En1329 Hv1330
      refine any_from hG ?_
      refine any_at 6 (by kernel_rfl) rfl ?_
      refine op_loadbox (d := some 39) (t := 22) (b := bk1) (off := 2) (k := 6) (v := .slice aq (List.length lq) cq) En1329 (by kernel_rfl) Hv1330 rfl rfl (by kernel_rfl) ?_
      intro ac1331 En1332
      refine any_pureR (d := some 40) En1332 (v := .int .i64 ((List.length lq : Nat) : Int)) 7 (by kernel_rfl) (by kernel_rfl) rfl ?_
      intro ac1333 En1334
      refine any_at 8 (by kernel_rfl) rfl ?_
      have hcap1335 := ir.cap
      refine op_slice (d := some 41) (t := 22) (e := 5) (sz := 1) (len := List.length lr) (cap := cr) (lo := List.length lq) (hi := List.length lr) (ao := ar) (lov := (some (.int .i64 ((List.length lq : Nat) : Int)))) (hiv := none) En1334 (by kernel_rfl) (by kernel_rfl) (by kernel_rfl) (by omega) (by omega) (.inr ⟨.i64, rfl⟩) (.inl ⟨rfl, rfl⟩) ?_
      intro ac1336 En1337
      refine any_at 9 (by kernel_rfl) rfl ?_
      have hM1339 : Heap wo1328 [] := Hv1330.heap.pick [] (by kernel_rfl) (by decide)
      refine op_call (d := some 42) (f := 35) (args := #[.slice (cutAt ar cr (List.length lq) 1) ((List.length lr) - (List.length lq)) (cr - (List.length lq))]) En1337 (by kernel_rfl) ((clone_go _ (cutAt ar cr (List.length lq) 1) ((List.length lr) - (List.length lq)) (cr - (List.length lq)) (List.drop (List.length lq) lr) (by first | rfl | (simp; done) | (simp; omega) | omega) (((ir.ev Hv1330).pick [] (by kernel_rfl)).drop (List.length lq) (by omega))).mono ?_)
      rintro _ wo1341 ⟨aoq1338, coq1338, rfl, he1344⟩
      refine ⟨_, rfl, ?_⟩
      intro ac1340 En1342
      have Hv1343 : Ev w [] wo1341 [.vec aoq1338 coq1338 1 (bys (List.drop (List.length lq) lr)) 5, .vec (cutAt aoq496 coq496 (List.length lv) 1) (coq496 - (List.length lv)) 1 (bys (List.drop (List.length lv) (lh ++ lp))) 5, .vec apq45 cpq45 1 (bys lr) 5, .vec aqq45 cqq45 1 (bys lv) 5, .vec apq36 cpq36 1 (bys lp) 5, .vec aqq36 cqq36 1 (bys lq) 5, .vec aoq27 coq27 1 (bys lh) 5, .box bk1 [.slice ah (List.length lh) ch, .slice ap (List.length lp) cp, .slice aq (List.length lq) cq, .bool fc, .bool fe, .slice ar (List.length lr) cr, .slice av (List.length lv) cv, .bool bc, .bool be] 26, .box bk56 [.slice (cutAt aoq496 coq496 (List.length lv) 1) (List.length (List.drop (List.length lv) (lh ++ lp))) (coq496 - (List.length lv)), .bool fc, .slice none 0 0, .bool false, .slice aoq27 (List.length lh) coq27, .slice apq36 (List.length lp) cpq36, .slice aqq36 (List.length lq) cqq36, .bool fc, .bool fe, .slice apq45 (List.length lr) cpq45, .slice aqq45 (List.length lv) cqq45, .bool bc, .bool be] 66] := Hv1330.trans (Ev.call (R := [.vec (cutAt aoq496 coq496 (List.length lv) 1) (coq496 - (List.length lv)) 1 (bys (List.drop (List.length lv) (lh ++ lp))) 5, .vec apq45 cpq45 1 (bys lr) 5, .vec aqq45 cqq45 1 (bys lv) 5, .vec apq36 cpq36 1 (bys lp) 5, .vec aqq36 cqq36 1 (bys lq) 5, .vec aoq27 coq27 1 (bys lh) 5, .box bk1 [.slice ah (List.length lh) ch, .slice ap (List.length lp) cp, .slice aq (List.length lq) cq, .bool fc, .bool fe, .slice ar (List.length lr) cr, .slice av (List.length lv) cv, .bool bc, .bool be] 26, .box bk56 [.slice (cutAt aoq496 coq496 (List.length lv) 1) (List.length (List.drop (List.length lv) (lh ++ lp))) (coq496 - (List.length lv)), .bool fc, .slice none 0 0, .bool false, .slice aoq27 (List.length lh) coq27, .slice apq36 (List.length lp) cpq36, .slice aqq36 (List.length lq) cqq36, .bool fc, .bool fe, .slice apq45 (List.length lr) cpq45, .slice aqq45 (List.length lv) cqq45, .bool bc, .bool be] 66]) Hv1330.heap [0, 1, 2, 3, 4, 5, 6, 7] (by kernel_rfl) (by decide) he1344)
      clear hM1339 he1344
      refine any_pureR (d := some 46) En1342 (v := .agg #[.slice aoq1338 (List.length (List.drop (List.length lq) lr)) coq1338, .bool bc]) 13 (by kernel_rfl) (by kernel_rfl) rfl ?_
      intro ac1345 En1346
      refine any_pureR (d := some 47) En1346 (v := .pointer (some ⟨bk56, 0, none⟩)) 14 (by kernel_rfl) (by kernel_rfl) rfl ?_
      intro ac1347 En1348
      refine any_pureR (d := some 48) En1348 (v := .pointer (some ⟨bk56, 2, none⟩)) 15 (by kernel_rfl) (by kernel_rfl) rfl ?_
      intro ac1349 En1350
      refine any_at 16 (by kernel_rfl) rfl ?_
      refine op_storeaggbox (d := none) (t := 64) (b := bk56) (off := 2) (k := 8) (m := 2) (xs := [.slice aoq1338 (List.length (List.drop (List.length lq) lr)) coq1338, .bool bc]) (v := .agg #[.slice aoq1338 (List.length (List.drop (List.length lq) lr)) coq1338, .bool bc]) (cs' := [.slice (cutAt aoq496 coq496 (List.length lv) 1) (List.length (List.drop (List.length lv) (lh ++ lp))) (coq496 - (List.length lv)), .bool fc, .slice aoq1338 (List.length (List.drop (List.length lq) lr)) coq1338, .bool bc, .slice aoq27 (List.length lh) coq27, .slice apq36 (List.length lp) cpq36, .slice aqq36 (List.length lq) cqq36, .bool fc, .bool fe, .slice apq45 (List.length lr) cpq45, .slice aqq45 (List.length lv) cqq45, .bool bc, .bool be]) En1350 (by kernel_rfl) Hv1343 rfl rfl rfl (by simp) (by kernel_rfl) (one_all (by kernel_rfl)) rfl (L' := [.vec aoq1338 coq1338 1 (bys (List.drop (List.length lq) lr)) 5, .vec (cutAt aoq496 coq496 (List.length lv) 1) (coq496 - (List.length lv)) 1 (bys (List.drop (List.length lv) (lh ++ lp))) 5, .vec apq45 cpq45 1 (bys lr) 5, .vec aqq45 cqq45 1 (bys lv) 5, .vec apq36 cpq36 1 (bys lp) 5, .vec aqq36 cqq36 1 (bys lq) 5, .vec aoq27 coq27 1 (bys lh) 5, .box bk1 [.slice ah (List.length lh) ch, .slice ap (List.length lp) cp, .slice aq (List.length lq) cq, .bool fc, .bool fe, .slice ar (List.length lr) cr, .slice av (List.length lv) cv, .bool bc, .bool be] 26, .box bk56 [.slice (cutAt aoq496 coq496 (List.length lv) 1) (List.length (List.drop (List.length lv) (lh ++ lp))) (coq496 - (List.length lv)), .bool fc, .slice aoq1338 (List.length (List.drop (List.length lq) lr)) coq1338, .bool bc, .slice aoq27 (List.length lh) coq27, .slice apq36 (List.length lp) cpq36, .slice aqq36 (List.length lq) cqq36, .bool fc, .bool fe, .slice apq45 (List.length lr) cpq45, .slice aqq45 (List.length lv) cqq45, .bool bc, .bool be] 66]) rfl ?_
      intro ac1351 wo1352  En1353 Hv1354
      exact any_end (by kernel_rfl) ⟨aoq1338, coq1338, En1353.sub (by kernel_rfl), Hv1354.pick [0, 1, 2, 3, 4, 5, 6, 7, 8] (by kernel_rfl) (by decide)⟩
    have nd1355 : ∀ (ac : Act) (wo : World), Env ac 50 [(1, .pointer (some ⟨bk1, 0, none⟩)), (2, .pointer none), (3, .pointer (some ⟨bk56, 0, none⟩)), (33, .pointer (some ⟨bk56, 0, none⟩)), (35, .pointer (some ⟨bk1, 5, none⟩)), (39, .slice aq (List.length lq) cq), (45, .bool bc)] → Ev w [] wo [.vec (cutAt aoq496 coq496 (List.length lv) 1) (coq496 - (List.length lv)) 1 (bys (List.drop (List.length lv) (lh ++ lp))) 5, .vec apq45 cpq45 1 (bys lr) 5, .vec aqq45 cqq45 1 (bys lv) 5, .vec apq36 cpq36 1 (bys lp) 5, .vec aqq36 cqq36 1 (bys lq) 5, .vec aoq27 coq27 1 (bys lh) 5, .box bk1 [.slice ah (List.length lh) ch, .slice ap (List.length lp) cp, .slice aq (List.length lq) cq, .bool fc, .bool fe, .slice ar (List.length lr) cr, .slice av (List.length lv) cv, .bool bc, .bool be] 26, .box bk56 [.slice (cutAt aoq496 coq496 (List.length lv) 1) (List.length (List.drop (List.length lv) (lh ++ lp))) (coq496 - (List.length lv)), .bool fc, .slice none 0 0, .bool false, .slice aoq27 (List.length lh) coq27, .slice apq36 (List.length lp) cpq36, .slice aqq36 (List.length lq) cqq36, .bool fc, .bool fe, .slice apq45 (List.length lr) cpq45, .slice aqq45 (List.length lv) cqq45, .bool bc, .bool be] 66] → G 8 #[true, true, true, false, true, true, true, false, false, false, true, true, true, false, false, false, false] ac wo := by
      intro ac1356 wo1357 En1358 Hv1359
      refine any_from hG ?_
      refine any_pureR (d := some 40) En1358 (v := .int .i64 ((List.length lq : Nat) : Int)) 7 (by kernel_rfl) (by kernel_rfl) rfl ?_
      intro ac1360 En1361
      refine any_at 3 (by kernel_rfl) rfl ?_
      refine op_loadbox (d := some 36) (t := 22) (b := bk1) (off := 5) (k := 6) (v := .slice ar (List.length lr) cr) En1361 (by kernel_rfl) Hv1359 rfl rfl (by kernel_rfl) ?_
      intro ac1362 En1363
      refine any_at 8 (by kernel_rfl) rfl ?_
      have hcap1364 := ir.cap
      refine op_slice (d := some 41) (t := 22) (e := 5) (sz := 1) (len := List.length lr) (cap := cr) (lo := List.length lq) (hi := List.length lr) (ao := ar) (lov := (some (.int .i64 ((List.length lq : Nat) : Int)))) (hiv := none) En1363 (by kernel_rfl) (by kernel_rfl) (by kernel_rfl) (by omega) (by omega) (.inr ⟨.i64, rfl⟩) (.inl ⟨rfl, rfl⟩) ?_
      intro ac1365 En1366
      refine any_at 9 (by kernel_rfl) rfl ?_
      have hM1368 : Heap wo1357 [] := Hv1359.heap.pick [] (by kernel_rfl) (by decide)
      refine op_call (d := some 42) (f := 35) (args := #[.slice (cutAt ar cr (List.length lq) 1) ((List.length lr) - (List.length lq)) (cr - (List.length lq))]) En1366 (by kernel_rfl) ((clone_go _ (cutAt ar cr (List.length lq) 1) ((List.length lr) - (List.length lq)) (cr - (List.length lq)) (List.drop (List.length lq) lr) (by first | rfl | (simp; done) | (simp; omega) | omega) (((ir.ev Hv1359).pick [] (by kernel_rfl)).drop (List.length lq) (by omega))).mono ?_)
      rintro _ wo1370 ⟨aoq1367, coq1367, rfl, he1373⟩
      refine ⟨_, rfl, ?_⟩
      intro ac1369 En1371
      have Hv1372 : Ev w [] wo1370 [.vec aoq1367 coq1367 1 (bys (List.drop (List.length lq) lr)) 5, .vec (cutAt aoq496 coq496 (List.length lv) 1) (coq496 - (List.length lv)) 1 (bys (List.drop (List.length lv) (lh ++ lp))) 5, .vec apq45 cpq45 1 (bys lr) 5, .vec aqq45 cqq45 1 (bys lv) 5, .vec apq36 cpq36 1 (bys lp) 5, .vec aqq36 cqq36 1 (bys lq) 5, .vec aoq27 coq27 1 (bys lh) 5, .box bk1 [.slice ah (List.length lh) ch, .slice ap (List.length lp) cp, .slice aq (List.length lq) cq, .bool fc, .bool fe, .slice ar (List.length lr) cr, .slice av (List.length lv) cv, .bool bc, .bool be] 26, .box bk56 [.slice (cutAt aoq496 coq496 (List.length lv) 1) (List.length (List.drop (List.length lv) (lh ++ lp))) (coq496 - (List.length lv)), .bool fc, .slice none 0 0, .bool false, .slice aoq27 (List.length lh) coq27, .slice apq36 (List.length lp) cpq36, .slice aqq36 (List.length lq) cqq36, .bool fc, .bool fe, .slice apq45 (List.length lr) cpq45, .slice aqq45 (List.length lv) cqq45, .bool bc, .bool be] 66] := Hv1359.trans (Ev.call (R := [.vec (cutAt aoq496 coq496 (List.length lv) 1) (coq496 - (List.length lv)) 1 (bys (List.drop (List.length lv) (lh ++ lp))) 5, .vec apq45 cpq45 1 (bys lr) 5, .vec aqq45 cqq45 1 (bys lv) 5, .vec apq36 cpq36 1 (bys lp) 5, .vec aqq36 cqq36 1 (bys lq) 5, .vec aoq27 coq27 1 (bys lh) 5, .box bk1 [.slice ah (List.length lh) ch, .slice ap (List.length lp) cp, .slice aq (List.length lq) cq, .bool fc, .bool fe, .slice ar (List.length lr) cr, .slice av (List.length lv) cv, .bool bc, .bool be] 26, .box bk56 [.slice (cutAt aoq496 coq496 (List.length lv) 1) (List.length (List.drop (List.length lv) (lh ++ lp))) (coq496 - (List.length lv)), .bool fc, .slice none 0 0, .bool false, .slice aoq27 (List.length lh) coq27, .slice apq36 (List.length lp) cpq36, .slice aqq36 (List.length lq) cqq36, .bool fc, .bool fe, .slice apq45 (List.length lr) cpq45, .slice aqq45 (List.length lv) cqq45, .bool bc, .bool be] 66]) Hv1359.heap [0, 1, 2, 3, 4, 5, 6, 7] (by kernel_rfl) (by decide) he1373)
      clear hM1368 he1373
      refine any_pureR (d := some 46) En1371 (v := .agg #[.slice aoq1367 (List.length (List.drop (List.length lq) lr)) coq1367, .bool bc]) 13 (by kernel_rfl) (by kernel_rfl) rfl ?_
      intro ac1374 En1375
      refine any_pureR (d := some 47) En1375 (v := .pointer (some ⟨bk56, 0, none⟩)) 14 (by kernel_rfl) (by kernel_rfl) rfl ?_
      intro ac1376 En1377
      refine any_pureR (d := some 48) En1377 (v := .pointer (some ⟨bk56, 2, none⟩)) 15 (by kernel_rfl) (by kernel_rfl) rfl ?_
      intro ac1378 En1379
      refine any_at 16 (by kernel_rfl) rfl ?_
      refine op_storeaggbox (d := none) (t := 64) (b := bk56) (off := 2) (k := 8) (m := 2) (xs := [.slice aoq1367 (List.length (List.drop (List.length lq) lr)) coq1367, .bool bc]) (v := .agg #[.slice aoq1367 (List.length (List.drop (List.length lq) lr)) coq1367, .bool bc]) (cs' := [.slice (cutAt aoq496 coq496 (List.length lv) 1) (List.length (List.drop (List.length lv) (lh ++ lp))) (coq496 - (List.length lv)), .bool fc, .slice aoq1367 (List.length (List.drop (List.length lq) lr)) coq1367, .bool bc, .slice aoq27 (List.length lh) coq27, .slice apq36 (List.length lp) cpq36, .slice aqq36 (List.length lq) cqq36, .bool fc, .bool fe, .slice apq45 (List.length lr) cpq45, .slice aqq45 (List.length lv) cqq45, .bool bc, .bool be]) En1379 (by kernel_rfl) Hv1372 rfl rfl rfl (by simp) (by kernel_rfl) (one_all (by kernel_rfl)) rfl (L' := [.vec aoq1367 coq1367 1 (bys (List.drop (List.length lq) lr)) 5, .vec (cutAt aoq496 coq496 (List.length lv) 1) (coq496 - (List.length lv)) 1 (bys (List.drop (List.length lv) (lh ++ lp))) 5, .vec apq45 cpq45 1 (bys lr) 5, .vec aqq45 cqq45 1 (bys lv) 5, .vec apq36 cpq36 1 (bys lp) 5, .vec aqq36 cqq36 1 (bys lq) 5, .vec aoq27 coq27 1 (bys lh) 5, .box bk1 [.slice ah (List.length lh) ch, .slice ap (List.length lp) cp, .slice aq (List.length lq) cq, .bool fc, .bool fe, .slice ar (List.length lr) cr, .slice av (List.length lv) cv, .bool bc, .bool be] 26, .box bk56 [.slice (cutAt aoq496 coq496 (List.length lv) 1) (List.length (List.drop (List.length lv) (lh ++ lp))) (coq496 - (List.length lv)), .bool fc, .slice aoq1367 (List.length (List.drop (List.length lq) lr)) coq1367, .bool bc, .slice aoq27 (List.length lh) coq27, .slice apq36 (List.length lp) cpq36, .slice aqq36 (List.length lq) cqq36, .bool fc, .bool fe, .slice apq45 (List.length lr) cpq45, .slice aqq45 (List.length lv) cqq45, .bool bc, .bool be] 66]) rfl ?_
      intro ac1380 wo1381  En1382 Hv1383
      exact any_end (by kernel_rfl) ⟨aoq1367, coq1367, En1382.sub (by kernel_rfl), Hv1383.pick [0, 1, 2, 3, 4, 5, 6, 7, 8] (by kernel_rfl) (by decide)⟩
    have nd1384 : ∀ (ac : Act) (wo : World), Env ac 50 [(1, .pointer (some ⟨bk1, 0, none⟩)), (2, .pointer none), (3, .pointer (some ⟨bk56, 0, none⟩)), (33, .pointer (some ⟨bk56, 0, none⟩)), (36, .slice ar (List.length lr) cr), (38, .pointer (some ⟨bk1, 2, none⟩)), (44, .pointer (some ⟨bk1, 7, none⟩))] → Ev w [] wo [.vec (cutAt aoq496 coq496 (List.length lv) 1) (coq496 - (List.length lv)) 1 (bys (List.drop (List.length lv) (lh ++ lp))) 5, .vec apq45 cpq45 1 (bys lr) 5, .vec aqq45 cqq45 1 (bys lv) 5, .vec apq36 cpq36 1 (bys lp) 5, .vec aqq36 cqq36 1 (bys lq) 5, .vec aoq27 coq27 1 (bys lh) 5, .box bk1 [.slice ah (List.length lh) ch, .slice ap (List.length lp) cp, .slice aq (List.length lq) cq, .bool fc, .bool fe, .slice ar (List.length lr) cr, .slice av (List.length lv) cv, .bool bc, .bool be] 26, .box bk56 [.slice (cutAt aoq496 coq496 (List.length lv) 1) (List.length (List.drop (List.length lv) (lh ++ lp))) (coq496 - (List.length lv)), .bool fc, .slice none 0 0, .bool false, .slice aoq27 (List.length lh) coq27, .slice apq36 (List.length lp) cpq36, .slice aqq36 (List.length lq) cqq36, .bool fc, .bool fe, .slice apq45 (List.length lr) cpq45, .slice aqq45 (List.length lv) cqq45, .bool bc, .bool be] 66] → G 9 #[true, true, true, true, true, true, false, false, false, false, true, true, false, false, false, false, false] ac wo := by
      intro ac1385 wo1386 En1387 Hv1388
      refine any_from hG ?_
      refine any_two 6 12 (by kernel_rfl) ?_ ?_
      · rintro _ rfl
        refine op_loadbox (d := some 39) (t := 22) (b := bk1) (off := 2) (k := 6) (v := .slice aq (List.length lq) cq) En1387 (by kernel_rfl) Hv1388 rfl rfl (by kernel_rfl) ?_
        intro ac1389 En1390
        exact any_to hG (by kernel_rfl) (nd1314 _ _ (En1390.sub (by kernel_rfl)) (Hv1388.pick [0, 1, 2, 3, 4, 5, 6, 7] (by kernel_rfl) (by decide)))
      · rintro _ rfl
        refine op_loadbox (d := some 45) (t := 4) (b := bk1) (off := 7) (k := 6) (v := .bool bc) En1387 (by kernel_rfl) Hv1388 rfl rfl (by kernel_rfl) ?_
        intro ac1391 En1392
        exact any_to hG (by kernel_rfl) (nd1326 _ _ (En1392.sub (by kernel_rfl)) (Hv1388.pick [0, 1, 2, 3, 4, 5, 6, 7] (by kernel_rfl) (by decide)))
    have nd1393 : ∀ (ac : Act) (wo : World), Env ac 50 [(1, .pointer (some ⟨bk1, 0, none⟩)), (2, .pointer none), (3, .pointer (some ⟨bk56, 0, none⟩)), (33, .pointer (some ⟨bk56, 0, none⟩)), (35, .pointer (some ⟨bk1, 5, none⟩)), (39, .slice aq (List.length lq) cq), (44, .pointer (some ⟨bk1, 7, none⟩))] → Ev w [] wo [.vec (cutAt aoq496 coq496 (List.length lv) 1) (coq496 - (List.length lv)) 1 (bys (List.drop (List.length lv) (lh ++ lp))) 5, .vec apq45 cpq45 1 (bys lr) 5, .vec aqq45 cqq45 1 (bys lv) 5, .vec apq36 cpq36 1 (bys lp) 5, .vec aqq36 cqq36 1 (bys lq) 5, .vec aoq27 coq27 1 (bys lh) 5, .box bk1 [.slice ah (List.length lh) ch, .slice ap (List.length lp) cp, .slice aq (List.length lq) cq, .bool fc, .bool fe, .slice ar (List.length lr) cr, .slice av (List.length lv) cv, .bool bc, .bool be] 26, .box bk56 [.slice (cutAt aoq496 coq496 (List.length lv) 1) (List.length (List.drop (List.length lv) (lh ++ lp))) (coq496 - (List.length lv)), .bool fc, .slice none 0 0, .bool false, .slice aoq27 (List.length lh) coq27, .slice apq36 (List.length lp) cpq36, .slice aqq36 (List.length lq) cqq36, .bool fc, .bool fe, .slice apq45 (List.length lr) cpq45, .slice aqq45 (List.length lv) cqq45, .bool bc, .bool be] 66] → G 9 #[true, true, true, false, true, true, true, false, false, false, true, true, false, false, false, false, false] ac wo := by
      intro ac1394 wo1395 En1396 Hv1397
      refine any_from hG ?_
      refine any_pureR (d := some 40) En1396 (v := .int .i64 ((List.length lq : Nat) : Int)) 7 (by kernel_rfl) (by kernel_rfl) rfl ?_
      intro ac1398 En1399
      refine any_two 3 12 (by kernel_rfl) ?_ ?_
      · rintro _ rfl
        refine op_loadbox (d := some 36) (t := 22) (b := bk1) (off := 5) (k := 6) (v := .slice ar (List.length lr) cr) En1399 (by kernel_rfl) Hv1397 rfl rfl (by kernel_rfl) ?_
        intro ac1400 En1401
        exact any_to hG (by kernel_rfl) (nd1277 _ _ (En1401.sub (by kernel_rfl)) (Hv1397.pick [0, 1, 2, 3, 4, 5, 6, 7] (by kernel_rfl) (by decide)))
      · rintro _ rfl
        refine op_loadbox (d := some 45) (t := 4) (b := bk1) (off := 7) (k := 6) (v := .bool bc) En1399 (by kernel_rfl) Hv1397 rfl rfl (by kernel_rfl) ?_
        intro ac1402 En1403
        exact any_to hG (by kernel_rfl) (nd1287 _ _ (En1403.sub (by kernel_rfl)) (Hv1397.pick [0, 1, 2, 3, 4, 5, 6, 7] (by kernel_rfl) (by decide)))
    have nd1404 : ∀ (ac : Act) (wo : World), Env ac 50 [(1, .pointer (some ⟨bk1, 0, none⟩)), (2, .pointer none), (3, .pointer (some ⟨bk56, 0, none⟩)), (33, .pointer (some ⟨bk56, 0, none⟩)), (35, .pointer (some ⟨bk1, 5, none⟩)), (38, .pointer (some ⟨bk1, 2, none⟩)), (45, .bool bc)] → Ev w [] wo [.vec (cutAt aoq496 coq496 (List.length lv) 1) (coq496 - (List.length lv)) 1 (bys (List.drop (List.length lv) (lh ++ lp))) 5, .vec apq45 cpq45 1 (bys lr) 5, .vec aqq45 cqq45 1 (bys lv) 5, .vec apq36 cpq36 1 (bys lp) 5, .vec aqq36 cqq36 1 (bys lq) 5, .vec aoq27 coq27 1 (bys lh) 5, .box bk1 [.slice ah (List.length lh) ch, .slice ap (List.length lp) cp, .slice aq (List.length lq) cq, .bool fc, .bool fe, .slice ar (List.length lr) cr, .slice av (List.length lv) cv, .bool bc, .bool be] 26, .box bk56 [.slice (cutAt aoq496 coq496 (List.length lv) 1) (List.length (List.drop (List.length lv) (lh ++ lp))) (coq496 - (List.length lv)), .bool fc, .slice none 0 0, .bool false, .slice aoq27 (List.length lh) coq27, .slice apq36 (List.length lp) cpq36, .slice aqq36 (List.length lq) cqq36, .bool fc, .bool fe, .slice apq45 (List.length lr) cpq45, .slice aqq45 (List.length lv) cqq45, .bool bc, .bool be] 66] → G 9 #[true, true, true, false, true, true, false, false, false, false, true, true, true, false, false, false, false] ac wo := by
      intro ac1405 wo1406 En1407 Hv1408
      refine any_from hG ?_
      refine any_two 3 6 (by kernel_rfl) ?_ ?_
      · rintro _ rfl
        refine op_loadbox (d := some 36) (t := 22) (b := bk1) (off := 5) (k := 6) (v := .slice ar (List.length lr) cr) En1407 (by kernel_rfl) Hv1408 rfl rfl (by kernel_rfl) ?_
        intro ac1409 En1410
        exact any_to hG (by kernel_rfl) (nd1326 _ _ (En1410.sub (by kernel_rfl)) (Hv1408.pick [0, 1, 2, 3, 4, 5, 6, 7] (by kernel_rfl) (by decide)))
      · rintro _ rfl
        refine op_loadbox (d := some 39) (t := 22) (b := bk1) (off := 2) (k := 6) (v := .slice aq (List.length lq) cq) En1407 (by kernel_rfl) Hv1408 rfl rfl (by kernel_rfl) ?_
        intro ac1411 En1412
        exact any_to hG (by kernel_rfl) (nd1355 _ _ (En1412.sub (by kernel_rfl)) (Hv1408.pick [0, 1, 2, 3, 4, 5, 6, 7] (by kernel_rfl) (by decide)))
    refine any_from hG ?_
    refine any_pureR (d := some 33) En1022 (v := .pointer (some ⟨bk56, 0, none⟩)) 0 (by kernel_rfl) (by kernel_rfl) rfl ?_
    intro ac1413 En1414
    refine any_pureR (d := some 34) En1414 (v := .pointer (some ⟨bk1, 5, none⟩)) 1 (by kernel_rfl) (by kernel_rfl) rfl ?_
    intro ac1415 En1416
    refine any_pureR (d := some 35) En1416 (v := .pointer (some ⟨bk1, 5, none⟩)) 2 (by kernel_rfl) (by kernel_rfl) rfl ?_
    intro ac1417 En1418
    refine any_pureR (d := some 37) En1418 (v := .pointer (some ⟨bk1, 1, none⟩)) 4 (by kernel_rfl) (by kernel_rfl) rfl ?_
    intro ac1419 En1420
    refine any_pureR (d := some 38) En1420 (v := .pointer (some ⟨bk1, 2, none⟩)) 5 (by kernel_rfl) (by kernel_rfl) rfl ?_
    intro ac1421 En1422
    refine any_pureR (d := some 43) En1422 (v := .pointer (some ⟨bk1, 5, none⟩)) 10 (by kernel_rfl) (by kernel_rfl) rfl ?_
    intro ac1423 En1424
    refine any_pureR (d := some 44) En1424 (v := .pointer (some ⟨bk1, 7, none⟩)) 11 (by kernel_rfl) (by kernel_rfl) rfl ?_
    intro ac1425 En1426
    refine any_ways [3, 6, 12] (by kernel_rfl) rfl ?_
    refine ⟨?_, ?_, ?_, trivial⟩
    · rintro _ rfl
      refine op_loadbox (d := some 36) (t := 22) (b := bk1) (off := 5) (k := 6) (v := .slice ar (List.length lr) cr) En1426 (by kernel_rfl) wo1024 rfl rfl (by kernel_rfl) ?_
      intro ac1427 En1428
      exact any_to hG (by kernel_rfl) (nd1384 _ _ (En1428.sub (by kernel_rfl)) (wo1024.pick [0, 1, 2, 3, 4, 5, 6, 7] (by kernel_rfl) (by decide)))
    · rintro _ rfl
      refine op_loadbox (d := some 39) (t := 22) (b := bk1) (off := 2) (k := 6) (v := .slice aq (List.length lq) cq) En1426 (by kernel_rfl) wo1024 rfl rfl (by kernel_rfl) ?_
      intro ac1429 En1430
      exact any_to hG (by kernel_rfl) (nd1393 _ _ (En1430.sub (by kernel_rfl)) (wo1024.pick [0, 1, 2, 3, 4, 5, 6, 7] (by kernel_rfl) (by decide)))
    · rintro _ rfl
      refine op_loadbox (d := some 45) (t := 4) (b := bk1) (off := 7) (k := 6) (v := .bool bc) En1426 (by kernel_rfl) wo1024 rfl rfl (by kernel_rfl) ?_
      intro ac1431 En1432
      exact any_to hG (by kernel_rfl) (nd1404 _ _ (En1432.sub (by kernel_rfl)) (wo1024.pick [0, 1, 2, 3, 4, 5, 6, 7] (by kernel_rfl) (by decide)))
  rintro ac1433 wo1434 ⟨aoq1048, coq1048, En1435, Hv1436⟩
  refine then_normal ?_
  refine wp_seq ?_
  refine region_from ?_  -- region 6
  refine d_pures [(1, .pointer (some ⟨bk1, 0, none⟩)), (2, .pointer (some ⟨bk56, 0, none⟩)), (3, .pointer (some ⟨bk56, 0, none⟩))] [.pointer (some ⟨bk56, 0, none⟩), .pointer (some ⟨bk56, 0, none⟩)] 2 En1435 (by kernel_rfl) (by kernel_rfl) rfl ?_
  intro ac1437 En1438
  refine from_end (by kernel_rfl) ?_
  refine then_normal ?_
  refine wp_ret ?_
  refine d_ret1 (t := 2) (v := .pointer (some ⟨bk56, 0, none⟩)) En1438 (by kernel_rfl) (by kernel_rfl) ?_
  exact ⟨bk56, cutAt aoq496 coq496 (List.length lv) 1, aoq1048, aoq27, apq36, aqq36, apq45, aqq45, coq496 - (List.length lv), coq1048, coq27, cpq36, cqq36, cpq45, cqq45, rfl, Hv1436.pick [8, 1, 0, 6, 4, 5, 2, 3] (by kernel_rfl) (by decide)⟩

end Go.Proofs.Ytjecaljhipfbfaa
