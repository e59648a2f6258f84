import Derived.Test.YtofecellbfhnjaaTh7
import Derived.Test.YtofecellbfhnjaaTh11
import Derived.Test.YtofecellbfhnjaaTh10
/- Layer 17: offered tickets are read by the program. -/

namespace Go.Proofs.Ytofecellbfhnjaa
open Go.Dbr
set_option maxRecDepth 100000
set_option maxHeartbeats 2000000
set_option linter.unusedVariables false
set_option linter.unusedSimpArgs false

theorem sv_nz {α : Type} {f : α → List Value} {sz : Nat} {w : World} {L : List Ent} (h : Heap w L) {k : Nat} {a : Option Addr} {cap : Nat} {xs : List α} {T : TypeId} (hk : L[k]? = some (.vec a cap sz (xs.flatMap f) T)) (hf : ∀ x, (f x).length = sz) (h1 : 0 < sz) : a = none → xs.length = 0 := fun ha => by
  have h0 : Ent.holds0 w (.vec a cap sz (xs.flatMap f) T) := h.holds k _ hk
  subst ha
  obtain ⟨_, h2⟩ := h0
  have := sv_len hf xs
  rw [h2] at this
  rcases Nat.eq_zero_or_pos xs.length with e | e
  · exact e
  · have := Nat.mul_pos e h1; simp at *; omega
section
variable {w w0 : World} {L L0 : List Ent}
end
end Go.Proofs.Ytofecellbfhnjaa

/- Layer 17: offered tickets are read by the program: all of a body. -/

namespace Go.Proofs.Ytofecellbfhnjaa
open Go.Dbr
set_option maxRecDepth 100000
set_option maxHeartbeats 2000000
set_option linter.unusedVariables false
set_option linter.unusedSimpArgs false

end Go.Proofs.Ytofecellbfhnjaa

/- Layer 17: offered tickets are read by the document. -/

namespace Go.Proofs.Ytofecellbfhnjaa
open Go.Dbr
set_option maxRecDepth 100000
set_option maxHeartbeats 2000000
set_option linter.unusedVariables false
set_option linter.unusedSimpArgs false

end Go.Proofs.Ytofecellbfhnjaa

/- Layer 17: both readers find the same. -/

namespace Go.Proofs.Ytofecellbfhnjaa
open Go.Dbr
set_option maxRecDepth 100000
set_option maxHeartbeats 2000000
set_option linter.unusedVariables false
set_option linter.unusedSimpArgs false

section
variable {α : Type}
end
end Go.Proofs.Ytofecellbfhnjaa

/- Layer 17: messages with extensions: both read and write the same. -/




namespace Go.Proofs.Ytofecellbfhnjaa
open Go.Dbr
set_option maxRecDepth 100000
set_option maxHeartbeats 2000000
set_option linter.unusedVariables false
set_option linter.unusedSimpArgs false

/-- a list of structs within others, read alone -/
theorem innL {w : World} {L : List Ent} {α : Type} {f : α → List Value} {sz by_ : Nat} {ok : α → Prop} (h : Heap w L) {M : List Ent} {k : Nat} {D : List Inn} {a : Option Addr} {cap : Nat} {xs : List α} {T : TypeId} (hk : L[k]? = some (.grp D)) (hd : (a, cap, sz, xs.flatMap f, T) ∈ D) (hf : ∀ x, (f x).length = sz) (h1 : 0 < sz) (is : List Nat) (hm : M.map some = is.map (fun i => L[i]?)) (hn : is.contains k = false) (hs : xs.length * by_ ≤ 140737488351232) (ho : ∀ x ∈ xs, ok x) : InS f by_ ok w M a cap xs := by
  have h0 : Ent.holds0 w (.vec a cap sz (xs.flatMap f) T) := h.holds k _ hk _ hd
  have one : Heap w [Ent.vec a cap sz (xs.flatMap f) T] := by
    have at0 : ∀ (i : Nat) (f' : Ent), [Ent.vec a cap sz (xs.flatMap f) T][i]? = some f' → i = 0 ∧ f' = .vec a cap sz (xs.flatMap f) T := fun i f' hi => by
      cases i with
      | zero => exact ⟨rfl, by simpa using hi.symm⟩
      | succ i => simp at hi
    exact ⟨fun i j f' g b hi hj _ _ => by rw [(at0 i f' hi).1, (at0 j g hj).1], fun i f' hi => by rw [(at0 i f' hi).2]; exact h0⟩
  have q : InS f by_ ok w [] a cap xs := one.innS (k := 0) rfl hf h1 [] rfl rfl hs ho
  exact ⟨h.innRo hk hd is hm hn, q.nz, q.cap, hs, ho⟩
/-! how much -/
theorem exF_l (p : WS) (x : EX) : (exF p x).1.length ≤ p.1.length + 8 * (x.2.length + 1) := by rw [exF, wput_len, List.length_append, beN_len]; omega
theorem crF_l (p : WS) (x : CE) : (crF p x).1.length ≤ p.1.length + 8 * ((x.1.length + (List.map (fun e : EX => e.2.length + 1) x.2).sum) + 1) := by
  have h := foldl_len exF_l x.2 ([], false)
  rw [List.length_nil] at h
  simp only [crF, wexF, wput_len]
  rw [allM]
  omega

end Go.Proofs.Ytofecellbfhnjaa

/- Layer 17: what was written is read back. -/

namespace Go.Proofs.Ytofecellbfhnjaa
open Go.Dbr
set_option maxRecDepth 100000
set_option maxHeartbeats 2000000
set_option linter.unusedVariables false
set_option linter.unusedSimpArgs false

theorem beN_succ (n v : Nat) : beN (n + 1) v = beN n (v / 256) ++ [UInt8.ofNat v] := by
  rw [beN, beN, List.range_succ, List.map_append]
  congr 1
  · apply List.map_congr_left
    intro j hj
    have hj := List.mem_range.1 hj
    rw [show n + 1 - 1 - j = (n - 1 - j) + 1 by omega, Nat.pow_succ, Nat.mul_comm, ← Nat.div_div_eq_div_mul]
  · simp
theorem beV_beN : ∀ (n v : Nat), v < 256 ^ n → beV (beN n v) = v
  | 0, v, h => by
    have : v = 0 := by simpa using h
    subst this
    rfl
  | n + 1, v, h => by
    have hd : v / 256 < 256 ^ n := Nat.div_lt_of_lt_mul (by rw [Nat.pow_succ, Nat.mul_comm] at h; exact h)
    rw [beN_succ, beV_snoc, beV_beN n _ hd, UInt8.toNat_ofNat']
    omega
theorem tk_back {n : Nat} {b : Bs} (r : Bs) (h : b.length = n) : tkO n (b ++ r) false = b ∧ tkR n (b ++ r) false = r ∧ tkS n (b ++ r) false = false := by
  have hs : tkS n (b ++ r) false = false := by rw [tkS, Bool.false_or]; exact decide_eq_false (by rw [List.length_append]; omega)
  refine ⟨?_, ?_, hs⟩
  · rw [tkO, hs, Bool.cond_false, List.take_left' h]
  · rw [tkR, hs, Bool.cond_false, List.drop_left' h]
theorem nb_back {n v : Nat} (r : Bs) (h : v < 256 ^ n) : nbV n (beN n v ++ r) false = v := by rw [nbV, (tk_back r (beN_len n v)).1, beV_beN n v h]
theorem wput_0 (n : Nat) (l b : Bs) : wput n l b = l ++ wput n [] b := by simp [wput, List.append_assoc]
theorem ls_back {n x y : Nat} {b : Bs} (r : Bs) (h : dbad n x y b.length = false) : lsO n x y (wput n [] b ++ r) false = b ∧ lsR n x y (wput n [] b ++ r) false = r ∧ lsS n x y (wput n [] b ++ r) false = false := by
  rw [dbad, Bool.or_eq_false_iff, Bool.or_eq_false_iff, decide_eq_false_iff_not, decide_eq_false_iff_not, decide_eq_false_iff_not] at h
  have hp : b.length < 256 ^ n := by
    have e : (256 : Nat) ^ n = 2 ^ (8 * n) := by rw [Nat.pow_mul]
    omega
  have e : wput n [] b ++ r = beN n b.length ++ (b ++ r) := by simp [wput, List.append_assoc]
  have hk := tk_back (b ++ r) (beN_len n b.length)
  have hn := nb_back (b ++ r) hp
  have ht : lsT n x y (wput n [] b ++ r) false = false := by rw [lsT, e, hn, hk.2.2, decide_eq_false h.1, decide_eq_false h.2.1]; rfl
  have hb := tk_back (n := b.length) r rfl
  refine ⟨?_, ?_, ?_⟩
  · rw [lsO, ht, e, hn, hk.2.1]; exact hb.1
  · rw [lsR, ht, e, hn, hk.2.1]; exact hb.2.1
  · rw [lsS, ht, e, hn, hk.2.1]; exact hb.2.2
/-- what a step writes; is it bad? -/
def Enc {β : Type} (F : WS → β → WS) (e : β → Bs) (b : β → Bool) : Prop := ∀ p x, F p x = (p.1 ++ e x, p.2 || b x)
def Back {β : Type} (one : Bs → Bool → Bool → β × PS) (e : β → Bs) (b : β → Bool) : Prop := ∀ x r o, b x = false → one (e x ++ r) false o = (x, r, false, o)
theorem enc_all {β : Type} {F : WS → β → WS} {e : β → Bs} {b : β → Bool} (h : Enc F e b) (ps : List β) : allM F ps = (List.flatMap e ps, List.any ps b) := by
  have key : ∀ (ps : List β) (p : WS), List.foldl F p ps = (p.1 ++ List.flatMap e ps, p.2 || List.any ps b) := by
    intro ps
    induction ps with
    | nil => intro p; simp
    | cons x r ih => intro p; rw [List.foldl_cons, ih, h]; simp [Bool.or_assoc]
  rw [allM, key]
  simp
theorem mnf_back {β : Type} {one : Bs → Bool → Bool → β × PS} {e : β → Bs} {b : β → Bool} (h : Back one e b) (hne : ∀ x, e x ≠ []) (o : Bool) : ∀ (ps : List β) (f : Nat), ps.length ≤ f → List.any ps b = false → mnf one f (List.flatMap e ps, false, o) = (ps, [], false, o)
  | [], f, _, _ => mnf_end (.inr rfl) f
  | x :: r, 0, hf, _ => absurd hf (by simp)
  | x :: r, f + 1, hf, hb => by
    rw [List.any_cons, Bool.or_eq_false_iff] at hb
    have hp : ¬ ((List.flatMap e (x :: r), false, o) : PS).2.1 = true ∧ ¬ ((List.flatMap e (x :: r), false, o) : PS).1 = [] := by
      refine ⟨(by simp), fun g => hne x ?_⟩
      have g : e x ++ List.flatMap e r = [] := g
      exact (List.append_eq_nil_iff.1 g).1
    have h1 : one (List.flatMap e (x :: r)) false o = (x, List.flatMap e r, false, o) := by rw [List.flatMap_cons]; exact h x _ o hb.1
    rw [mnf, if_neg (by rintro (g | g); exact hp.1 g; exact hp.2 g)]
    show ((one (List.flatMap e (x :: r)) false o).1 :: _, _) = _
    rw [h1, mnf_back h hne o r f (by simpa using hf) hb.2]
theorem flat_ge {β : Type} {e : β → Bs} (hne : ∀ x, e x ≠ []) : ∀ ps : List β, ps.length ≤ (List.flatMap e ps).length
  | [] => Nat.zero_le _
  | x :: r => by
    have h := flat_ge hne r
    have h2 := List.length_pos_iff.2 (hne x)
    rw [List.flatMap_cons, List.length_append, List.length_cons]; omega
theorem many_back {β : Type} {one : Bs → Bool → Bool → β × PS} {e : β → Bs} {b : β → Bool} (h : Back one e b) (hne : ∀ x, e x ≠ []) {n x : Nat} {ps : List β} (r : Bs) (o : Bool) (hb : List.any ps b = false) (hd : dbad n x 16777215 (List.flatMap e ps).length = false) : manyM one n x (wput n [] (List.flatMap e ps) ++ r) false o = (ps, r, false, o) := by
  have hl := ls_back r hd
  have hm : mn one ((List.flatMap e ps, false, false) : PS) = (ps, [], false, false) := mnf_back h hne false ps _ (flat_ge hne ps) hb
  rw [manyM, hl.1, hl.2.1, hl.2.2, hm]
  simp
theorem doneL_pos {bad : Bool} {l : Bs} (h : 0 < (doneL bad l).length) : bad = false ∧ doneL bad l = l := by
  cases bad with
  | true => exact absurd h (by simp [doneL])
  | false => exact ⟨rfl, rfl⟩
theorem got_back {α : Type} {z : α} {q : α × PS} {x : α} (h : q = (x, [], false, false)) : gotA q = 0 ∧ gotV z q = x := by
  have hA : gotA q = 0 := by rw [h]; rfl
  exact ⟨hA, by rw [gotV_0 hA, h]⟩
/-! extensions -/
def eX (x : EX) : Bs := beN 2 x.1.toNat ++ wput 2 [] x.2
theorem exF_enc : Enc exF eX (fun x => dbad 2 0 65535 x.2.length) := fun p x => by rw [exF, wd_eq, wput_0, eX, List.append_assoc]
theorem u16_256 (v : UInt16) : v.toNat < 256 ^ 2 := v.toNat_lt
theorem ext_back : Back extM eX (fun x => dbad 2 0 65535 x.2.length) := fun x r o h => by
  have e : eX x ++ r = beN 2 x.1.toNat ++ (wput 2 [] x.2 ++ r) := by rw [eX, List.append_assoc]
  have hk := tk_back (wput 2 [] x.2 ++ r) (beN_len 2 x.1.toNat)
  have hl := ls_back (x := 0) (y := 65535) r h
  rw [extM, e, nb_back _ (u16_256 _), hk.2.1, hk.2.2, hl.1, hl.2.1, hl.2.2, UInt16.ofNat_toNat]
theorem eX_ne (x : EX) : eX x ≠ [] := fun g => by
  have := congrArg List.length g
  rw [eX, List.length_append, beN_len] at this
  simp at this
def eXs (ps : List EX) : Bs := wput 2 [] (List.flatMap eX ps)
def bXs (ps : List EX) : Bool := (dupA ps || List.any ps (fun x => dbad 2 0 65535 x.2.length)) || dbad 2 0 16777215 (List.flatMap eX ps).length
theorem wexF_enc : Enc wexF eXs bXs := fun p ps => by rw [wexF, wd_eq, enc_all exF_enc, wput_0, eXs, bXs, Bool.or_assoc, Bool.or_assoc, Bool.or_assoc]
theorem exts_back : Back extsM eXs bXs := fun ps r o h => by
  rw [bXs, Bool.or_eq_false_iff, Bool.or_eq_false_iff] at h
  have hm := many_back (n := 2) (x := 0) ext_back eX_ne r o h.1.2 h.2
  rw [extsM, eXs, hm, h.1.1, Bool.or_false]
theorem ver_back {x : EX} (h : 0 < (verP x).length) : extM (verP x) false false = (x, [], false, false) := by
  have hd := doneL_pos h
  rw [exF_enc] at hd
  have hb : dbad 2 0 65535 x.2.length = false := by simpa using hd.1
  rw [verP, exF_enc, hd.2]
  have := ext_back x [] false hb
  simpa using this
def eCr (x : CE) : Bs := wput 3 [] x.1 ++ eXs x.2
def bCr (x : CE) : Bool := dbad 3 1 16777215 x.1.length || bXs x.2
theorem crF_enc : Enc crF eCr bCr := fun p x => by rw [crF, wexF_enc, wd_eq, wput_0, eCr, bCr, List.append_assoc, Bool.or_assoc]
theorem cr_back : Back entM eCr bCr := fun x r o h => by
  rw [bCr, Bool.or_eq_false_iff] at h
  have e : eCr x ++ r = wput 3 [] x.1 ++ (eXs x.2 ++ r) := by rw [eCr, List.append_assoc]
  have hl := ls_back (eXs x.2 ++ r) h.1
  rw [entM, e, hl.1, hl.2.1, hl.2.2, exts_back x.2 r o h.2]
theorem eCr_ne (x : CE) : eCr x ≠ [] := fun g => by
  have := congrArg List.length g
  rw [eCr, List.length_append, wput_len] at this
  simp at this
def eCm (x : Bs × List CE) : Bs := wput 1 [] x.1 ++ wput 3 [] (List.flatMap eCr x.2)
def bCm (x : Bs × List CE) : Bool := (dbad 1 0 255 x.1.length || List.any x.2 bCr) || dbad 3 0 16777215 (List.flatMap eCr x.2).length
theorem certF_enc : Enc certF eCm bCm := fun p x => by rw [certF, wd_eq, wd_eq, enc_all crF_enc, wput_0, wput_0 1, eCm, bCm, List.append_assoc, Bool.or_assoc, Bool.or_assoc, Bool.or_assoc]
theorem cert_back {x : Bs × List CE} (h : 0 < (certP x).length) : certM (certP x) false false = (x, [], false, false) := by
  have hd := doneL_pos h
  rw [certF_enc] at hd
  have hb : bCm x = false := by simpa using hd.1
  rw [certP, certF_enc, hd.2]
  rw [bCm, Bool.or_eq_false_iff, Bool.or_eq_false_iff] at hb
  have hl := ls_back (wput 3 [] (List.flatMap eCr x.2)) hb.1.1
  have hm := many_back (n := 3) (x := 0) cr_back eCr_ne [] false hb.1.2 hb.2
  rw [List.append_nil] at hm
  show certM ([] ++ eCm x) false false = _
  rw [List.nil_append, certM, eCm, hl.1, hl.2.1, hl.2.2, hm]
abbrev TK := UInt32 × UInt32 × Bs × Bs × List EX
def eTk (x : TK) : Bs := beN 4 x.1.toNat ++ (beN 4 x.2.1.toNat ++ (wput 1 [] x.2.2.1 ++ (wput 2 [] x.2.2.2.1 ++ eXs x.2.2.2.2)))
def bTk (x : TK) : Bool := dbad 1 0 255 x.2.2.1.length || (dbad 2 1 65535 x.2.2.2.1.length || bXs x.2.2.2.2)
theorem ticF_enc : Enc ticF eTk bTk := fun p x => by rw [ticF, wexF_enc, wd_eq, wd_eq, wput_0, wput_0 1, eTk, bTk]; simp [List.append_assoc, Bool.or_assoc]
theorem u32_256 (v : UInt32) : v.toNat < 256 ^ 4 := v.toNat_lt
theorem tic_back {x : TK} (h : 0 < (ticP x).length) : ticM (ticP x) false false = (x, [], false, false) := by
  have hd := doneL_pos h
  rw [ticF_enc] at hd
  have hb : bTk x = false := by simpa using hd.1
  rw [ticP, ticF_enc, hd.2]
  rw [bTk, Bool.or_eq_false_iff, Bool.or_eq_false_iff] at hb
  show ticM ([] ++ eTk x) false false = _
  rw [List.nil_append, eTk]
  have h1 := tk_back (beN 4 x.2.1.toNat ++ (wput 1 [] x.2.2.1 ++ (wput 2 [] x.2.2.2.1 ++ eXs x.2.2.2.2))) (beN_len 4 x.1.toNat)
  have h2 := tk_back (wput 1 [] x.2.2.1 ++ (wput 2 [] x.2.2.2.1 ++ eXs x.2.2.2.2)) (beN_len 4 x.2.1.toNat)
  have h3 := ls_back (wput 2 [] x.2.2.2.1 ++ eXs x.2.2.2.2) hb.1
  have h4 := ls_back (eXs x.2.2.2.2) hb.2.1
  have h5 := exts_back x.2.2.2.2 [] false hb.2.2
  rw [List.append_nil] at h5
  rw [ticM, tq3, tq2, tq1, nb_back _ (u32_256 _), h1.2.1, h1.2.2, nb_back _ (u32_256 _), h2.2.1, h2.2.2, h3.1, h3.2.1, h3.2.2, h4.1, h4.2.1, h4.2.2, h5, UInt32.ofNat_toNat, UInt32.ofNat_toNat]
/-! texts, shares, a name -/
theorem alF_enc : Enc alF (fun t => wput 1 [] t) (fun t => dbad 1 1 255 t.length) := fun p x => by rw [alF, wd_eq, wput_0]
theorem al_back : Back (listM 1 1 255) (fun t => wput 1 [] t) (fun t => dbad 1 1 255 t.length) := fun x r o h => by
  have hl := ls_back r h
  rw [listM, hl.1, hl.2.1, hl.2.2]
theorem al_ne (x : Bs) : wput 1 [] x ≠ [] := fun g => by
  have := congrArg List.length g
  rw [wput_len] at this
  simp at this
def eSh (x : UInt16 × Bs) : Bs := beN 2 x.1.toNat ++ wput 2 [] x.2
theorem shF_enc : Enc shF eSh (fun x => dbad 2 1 65535 x.2.length) := fun p x => by rw [shF, wd_eq, wput_0, eSh, List.append_assoc]
theorem sh_back : Back shareM eSh (fun x => dbad 2 1 65535 x.2.length) := fun x r o h => by
  have e : eSh x ++ r = beN 2 x.1.toNat ++ (wput 2 [] x.2 ++ r) := by rw [eSh, List.append_assoc]
  have hk := tk_back (wput 2 [] x.2 ++ r) (beN_len 2 x.1.toNat)
  have hl := ls_back (x := 1) (y := 65535) r h
  rw [shareM, e, nb_back _ (u16_256 _), hk.2.1, hk.2.2, hl.1, hl.2.1, hl.2.2, UInt16.ofNat_toNat]
theorem put_back {β : Type} {F : WS → β → WS} {e : β → Bs} {b : β → Bool} {one : Bs → Bool → Bool → β × PS} (hF : Enc F e b) (hB : Back one e b) (hne : ∀ x, e x ≠ []) {n x : Nat} {ps : List β} (h : 0 < (putP F n x ps).length) : manyM one n x (putP F n x ps) false false = (ps, [], false, false) := by
  have hd := doneL_pos h
  rw [wd_eq, enc_all hF] at hd
  have h1 := hd.1
  rw [Bool.false_or, Bool.or_eq_false_iff] at h1
  rw [putP, wd_eq, enc_all hF, hd.2]
  have := many_back hB hne [] false h1.1 h1.2
  rw [List.append_nil] at this
  exact this
theorem al_all {ps : List Bs} (h : 0 < (putP alF 2 1 ps).length) : manyM (listM 1 1 255) 2 1 (putP alF 2 1 ps) false false = (ps, [], false, false) := put_back alF_enc al_back al_ne h
theorem sh_all {ps : List (UInt16 × Bs)} (h : 0 < (putP shF 2 0 ps).length) : manyM shareM 2 0 (putP shF 2 0 ps) false false = (ps, [], false, false) := put_back shF_enc sh_back eX_ne h
theorem nm_back {t : Bs} (h : 0 < (nmP t).length) : nmM (nmP t) false false = (t, [], false, false) := by
  have hd := doneL_pos h
  have h1 := hd.1
  rw [wd_eq, wd_eq, Bool.false_or, Bool.or_eq_false_iff, Bool.false_or] at h1
  have e0 : dbad 2 0 65535 (wput 2 [0] t).length = false := by
    have h2 := h1.2
    rw [dbad, Bool.or_eq_false_iff, Bool.or_eq_false_iff, decide_eq_false_iff_not, decide_eq_false_iff_not, decide_eq_false_iff_not] at h2 ⊢
    omega
  have hl := ls_back [] e0
  rw [List.append_nil] at hl
  have e1 : wput 2 [0] t = [0] ++ wput 2 [] t := wput_0 2 [0] t
  have hk := tk_back (n := 1) (b := [0]) (wput 2 [] t) rfl
  have hl2 := ls_back [] h1.1
  rw [List.append_nil] at hl2
  rw [nmP, hd.2]
  have hO : nmO (wput 2 [] (wput 2 [0] t)) false = wput 2 [] t := by rw [nmO, hl.1, hl.2.2, e1, hk.2.1]
  have hT : nmT (wput 2 [] (wput 2 [0] t)) false = false := by rw [nmT, hl.1, hl.2.2, e1, hk.2.2]
  have hN : nbV 1 (lsO 2 0 65535 (wput 2 [] (wput 2 [0] t)) false) (lsS 2 0 65535 (wput 2 [] (wput 2 [0] t)) false) = 0 := by rw [nbV, hl.1, hl.2.2, e1, hk.1]; rfl
  rw [nmM, hO, hT, hN, hl.2.1, hl.2.2, hl2.1, hl2.2.1, hl2.2.2]
  rfl

end Go.Proofs.Ytofecellbfhnjaa

/- Layer 17: tickets, certificates are compared. -/

namespace Go.Proofs.Ytofecellbfhnjaa
open Go.Dbr
set_option maxRecDepth 100000
set_option maxHeartbeats 2000000
set_option linter.unusedVariables false
set_option linter.unusedSimpArgs false

theorem tup5 {α β γ δ ε : Type} [BEq α] [BEq β] [BEq γ] [BEq δ] [BEq ε] [LawfulBEq α] [LawfulBEq β] [LawfulBEq γ] [LawfulBEq δ] [LawfulBEq ε] {a a' : α} {b b' : β} {c c' : γ} {d d' : δ} {x y : ε} (h1 : a = a') (h2 : b = b') (h3 : c = c') (h4 : d = d') : (x == y) = ((a, b, c, d, x) == (a', b', c', d', y)) := by
  subst h1 h2 h3 h4
  rw [Bool.eq_iff_iff, beq_iff_eq, beq_iff_eq]
  exact ⟨fun h => by rw [h], fun h => by simpa using h⟩
theorem tup_no {α : Type} [BEq α] [LawfulBEq α] {a b : α} (h : ¬ a = b) : false = (a == b) := (beq_false_of_ne h).symm
theorem tup_yes {α : Type} [BEq α] [LawfulBEq α] {a b : α} (h : a = b) : true = (a == b) := by rw [h, beq_self_eq_true]
theorem u32_eq {x y : UInt32} (h : ((UInt32.toNat x : Nat) : Int) = ((UInt32.toNat y : Nat) : Int)) : x = y := UInt32.toNat_inj.1 (by omega)

theorem sametic_go (w : World) (pa : UInt32) (pb : UInt32) (a_pc : Option Addr) (c_pc : Nat) (pc : List UInt8) (a_pd : Option Addr) (c_pd : Nat) (pd : List UInt8) (a_pe : Option Addr) (c_pe : Nat) (pe : List ((UInt16) × (Sl UInt8) × Unit)) (qa : UInt32) (qb : UInt32) (a_qc : Option Addr) (c_qc : Nat) (qc : List UInt8) (a_qd : Option Addr) (c_qd : Nat) (qd : List UInt8) (a_qe : Option Addr) (c_qe : Nat) (qe : List ((UInt16) × (Sl UInt8) × Unit)) (i_pc : InB w [] a_pc c_pc pc) (i_pd : InB w [] a_pd c_pd pd) (i_pe : InS (fun p : (UInt16) × (Sl UInt8) × Unit => (fun n : UInt16 => [uv16 n]) p.1 ++ (fun p : (Sl UInt8) × Unit => (fun s : Sl UInt8 => s.f) p.1 ++ (fun _ : Unit => []) p.2) p.2) 32 (fun x : (UInt16) × (Sl UInt8) × Unit => (True ∧ (InB w [] x.2.1.a x.2.1.c x.2.1.l ∧ (True)))) w [] a_pe c_pe pe) (i_qc : InB w [] a_qc c_qc qc) (i_qd : InB w [] a_qd c_qd qd) (i_qe : InS (fun p : (UInt16) × (Sl UInt8) × Unit => (fun n : UInt16 => [uv16 n]) p.1 ++ (fun p : (Sl UInt8) × Unit => (fun s : Sl UInt8 => s.f) p.1 ++ (fun _ : Unit => []) p.2) p.2) 32 (fun x : (UInt16) × (Sl UInt8) × Unit => (True ∧ (InB w [] x.2.1.a x.2.1.c x.2.1.l ∧ (True)))) w [] a_qe c_qe qe) : Calls Try.prog 88 #[.agg #[uv32 pa, uv32 pb, .slice a_pc (List.length pc) c_pc, .slice a_pd (List.length pd) c_pd, .slice a_pe (List.length pe) c_pe], .agg #[uv32 qa, uv32 qb, .slice a_qc (List.length qc) c_qc, .slice a_qd (List.length qd) c_qd, .slice a_qe (List.length qe) c_qe]] w fun e w' => e = .returned (.bool ((pa, pb, pc, pd, List.map (fun y : RExt => (y.1, y.2.1.l)) pe) == (qa, qb, qc, qd, List.map (fun y : RExt => (y.1, y.2.1.l)) qe))) ∧ Ev w [] w' [] := by
 refine d_0 [(0, .agg #[uv32 pa, uv32 pb, .slice a_pc (List.length pc) c_pc, .slice a_pd (List.length pd) c_pd, .slice a_pe (List.length pe) c_pe]), (1, .agg #[uv32 qa, uv32 qb, .slice a_qc (List.length qc) c_qc, .slice a_qd (List.length qd) c_qd, .slice a_qe (List.length qe) c_qe])] 42 Go.Proofs.Try.func88 Go.Proofs.Try.ntmps88 (Heap.nil _) fun act0 En0 Hv0 => ?_
 refine wp_seq ?_
 refine region_from ?_
 refine f_o ?_
 refine m_m 86 [uv32 pa, uv32 pb, .slice a_pc (List.length pc) c_pc, .slice a_pd (List.length pd) c_pd, .slice a_pe (List.length pe) c_pe] En0 Hv0 fun ac2 wo3 bk1 En4 Hv5 => ?_
 refine f_o ?_
 refine m_m 86 [uv32 qa, uv32 qb, .slice a_qc (List.length qc) c_qc, .slice a_qd (List.length qd) c_qd, .slice a_qe (List.length qe) c_qe] En4 Hv5 fun ac7 wo8 bk6 En9 Hv10 => ?_
 refine d_e [2,3,4] [] En9 fun ac11 En12 => ?_
 refine then_normal ?_
 refine wp_seq ?_
 refine region_from ?_
 refine d_k [2,3,4,5] [] 1 En12 fun ac13 En14 => ?_
 refine f_o ?_
 refine m_l 0 En14 Hv10 fun ac15 En16 => ?_
 refine d_k [2,3,4,6,7] [] 3 En16 fun ac17 En18 => ?_
 refine f_o ?_
 refine m_l 1 En18 Hv10 fun ac19 En20 => ?_
 refine d_k [2,3,4,10] [] 6 En20 fun ac21 En22 => ?_
 rcases Bool.eq_false_or_eq_true (((UInt32.toNat pa : Nat) : Int) == ((UInt32.toNat qa : Nat) : Int)) with hb23 | hb23
 ·
  have En24 := En22.fx (t := 10) (congrArg Value.bool hb23)
  have hp25 : ((UInt32.toNat pa : Nat) : Int) = ((UInt32.toNat qa : Nat) : Int) := eq_of_beq hb23
  refine d_k [2,3,4,10,11] [] 7 En24 fun ac26 En27 => ?_
  refine f_o ?_
  refine m_l 0 En27 Hv10 fun ac28 En29 => ?_
  refine d_k [2,3,4,10,12,13] [] 9 En29 fun ac30 En31 => ?_
  refine f_o ?_
  refine m_l 1 En31 Hv10 fun ac32 En33 => ?_
  refine d_k [2,3,4,17] [] 13 En33 fun ac34 En35 => ?_
  rcases Bool.eq_false_or_eq_true (((UInt32.toNat pb : Nat) : Int) == ((UInt32.toNat qb : Nat) : Int)) with hb36 | hb36
  ·
   have En37 := En35.fx (t := 17) (congrArg Value.bool hb36)
   have hp38 : ((UInt32.toNat pb : Nat) : Int) = ((UInt32.toNat qb : Nat) : Int) := eq_of_beq hb36
   refine d_k [2,3,4,17,18] [] 14 En37 fun ac39 En40 => ?_
   refine f_o ?_
   refine m_l 0 En40 Hv10 fun ac41 En42 => ?_
   refine f_o ?_
   refine op_str (d := some 20) (src := 23) (dst := 9) (e := 5) (ao := a_pc) (cap := c_pc) (p := List.length pc) (bs := pc) En42 (by kernel_rfl) rfl (by kernel_rfl) (by kernel_rfl) (by kernel_rfl) (i_pc.ev Hv10).reads i_pc.nz ?_
   intro ac43 En44
   refine d_k [2,3,4,17,20,21] [] 17 En44 fun ac45 En46 => ?_
   refine f_o ?_
   refine m_l 1 En46 Hv10 fun ac47 En48 => ?_
   refine f_o ?_
   refine op_str (d := some 23) (src := 23) (dst := 9) (e := 5) (ao := a_qc) (cap := c_qc) (p := List.length qc) (bs := qc) En48 (by kernel_rfl) rfl (by kernel_rfl) (by kernel_rfl) (by kernel_rfl) (i_qc.ev Hv10).reads i_qc.nz ?_
   intro ac49 En50
   refine d_k [2,3,4,26] [(19, g_v (show (.bool (ByteArray.toList (bstr pc) == ByteArray.toList (bstr qc)) : Value) = .bool (pc == qc) by rw [Go.Dbr.bstr_eq pc qc] <;> rfl))] 22 En50 fun ac51 En52 => ?_
   rcases Bool.eq_false_or_eq_true (pc == qc) with hb53 | hb53
   ·
    have En54 := En52.fx (t := 26) (congrArg Value.bool hb53)
    have hp55 : pc = qc := eq_of_beq hb53
    refine d_k [2,3,4,26,27] [] 23 En54 fun ac56 En57 => ?_
    refine f_o ?_
    refine m_l 0 En57 Hv10 fun ac58 En59 => ?_
    refine f_o ?_
    refine op_str (d := some 29) (src := 23) (dst := 9) (e := 5) (ao := a_pd) (cap := c_pd) (p := List.length pd) (bs := pd) En59 (by kernel_rfl) rfl (by kernel_rfl) (by kernel_rfl) (by kernel_rfl) (i_pd.ev Hv10).reads i_pd.nz ?_
    intro ac60 En61
    refine d_k [2,3,4,26,29,30] [] 26 En61 fun ac62 En63 => ?_
    refine f_o ?_
    refine m_l 1 En63 Hv10 fun ac64 En65 => ?_
    refine f_o ?_
    refine op_str (d := some 32) (src := 23) (dst := 9) (e := 5) (ao := a_qd) (cap := c_qd) (p := List.length qd) (bs := qd) En65 (by kernel_rfl) rfl (by kernel_rfl) (by kernel_rfl) (by kernel_rfl) (i_qd.ev Hv10).reads i_qd.nz ?_
    intro ac66 En67
    refine d_k [2,3,4,35] [(28, g_v (show (.bool (ByteArray.toList (bstr pd) == ByteArray.toList (bstr qd)) : Value) = .bool (pd == qd) by rw [Go.Dbr.bstr_eq pd qd] <;> rfl))] 31 En67 fun ac68 En69 => ?_
    rcases Bool.eq_false_or_eq_true (pd == qd) with hb70 | hb70
    ·
     have En71 := En69.fx (t := 35) (congrArg Value.bool hb70)
     have hp72 : pd = qd := eq_of_beq hb70
     refine d_k [3,4,35,36] [] 32 En71 fun ac73 En74 => ?_
     refine f_o ?_
     refine m_l 0 En74 Hv10 fun ac75 En76 => ?_
     refine d_k [4,35,37,38] [] 34 En76 fun ac77 En78 => ?_
     refine f_o ?_
     refine m_l 1 En78 Hv10 fun ac79 En80 => ?_
     refine f_o ?_
     refine c_p En80 Hv10 (sameext_go _ a_pe c_pe pe (i_pe.go Hv10 [] (by kernel_rfl) (fun _ h => ⟨h.1, (InB.ev h.2.1 Hv10).pick [] (by kernel_rfl), h.2.2⟩)) a_qe c_qe qe (i_qe.go Hv10 [] (by kernel_rfl) (fun _ h => ⟨h.1, (InB.ev h.2.1 Hv10).pick [] (by kernel_rfl), h.2.2⟩))) fun ac85 wo82 En86 Hv87 => ?_
     refine d_e [4] [] En86 fun ac88 En89 => ?_
     refine then_normal ?_
     refine wp_ret ?_
     refine d_ret1 (t := 4) (v := .bool (List.map (fun y : RExt => (y.1, y.2.1.l)) pe == List.map (fun y : RExt => (y.1, y.2.1.l)) qe)) En89 (by kernel_rfl) (by kernel_rfl) ?_
     exact ⟨congrArg (fun b => Ending.returned (Value.bool b)) (tup5 (u32_eq (by assumption)) (u32_eq (by assumption)) (by assumption) (by assumption)), Hv87.pk []⟩
    ·
     have En90 := En69.fx (t := 35) (congrArg Value.bool hb70)
     have hp91 : ¬ (pd = qd) := ne_of_beq_false hb70
     refine d_e [4] [] En90 fun ac92 En93 => ?_
     refine then_normal ?_
     refine wp_ret ?_
     refine d_ret1 (t := 4) (v := .bool false) En93 (by kernel_rfl) (by kernel_rfl) ?_
     refine ⟨congrArg (fun b => Ending.returned (Value.bool b)) (tup_no fun g => ?_), Hv10.pk []⟩
     simp only [Prod.mk.injEq] at g
     obtain ⟨g1, g2, g3, g4, g5⟩ := g
     first | exact absurd (congrArg (fun z : UInt32 => ((UInt32.toNat z : Nat) : Int)) g1) (by assumption) | exact absurd (congrArg (fun z : UInt32 => ((UInt32.toNat z : Nat) : Int)) g2) (by assumption) | exact absurd g3 (by assumption) | exact absurd g4 (by assumption)
   ·
    have En94 := En52.fx (t := 26) (congrArg Value.bool hb53)
    have hp95 : ¬ (pc = qc) := ne_of_beq_false hb53
    refine d_e [4] [] En94 fun ac96 En97 => ?_
    refine then_normal ?_
    refine wp_ret ?_
    refine d_ret1 (t := 4) (v := .bool false) En97 (by kernel_rfl) (by kernel_rfl) ?_
    refine ⟨congrArg (fun b => Ending.returned (Value.bool b)) (tup_no fun g => ?_), Hv10.pk []⟩
    simp only [Prod.mk.injEq] at g
    obtain ⟨g1, g2, g3, g4, g5⟩ := g
    first | exact absurd (congrArg (fun z : UInt32 => ((UInt32.toNat z : Nat) : Int)) g1) (by assumption) | exact absurd (congrArg (fun z : UInt32 => ((UInt32.toNat z : Nat) : Int)) g2) (by assumption) | exact absurd g3 (by assumption) | exact absurd g4 (by assumption)
  ·
   have En98 := En35.fx (t := 17) (congrArg Value.bool hb36)
   have hp99 : ¬ (((UInt32.toNat pb : Nat) : Int) = ((UInt32.toNat qb : Nat) : Int)) := ne_of_beq_false hb36
   refine d_e [4] [] En98 fun ac100 En101 => ?_
   refine then_normal ?_
   refine wp_ret ?_
   refine d_ret1 (t := 4) (v := .bool false) En101 (by kernel_rfl) (by kernel_rfl) ?_
   refine ⟨congrArg (fun b => Ending.returned (Value.bool b)) (tup_no fun g => ?_), Hv10.pk []⟩
   simp only [Prod.mk.injEq] at g
   obtain ⟨g1, g2, g3, g4, g5⟩ := g
   first | exact absurd (congrArg (fun z : UInt32 => ((UInt32.toNat z : Nat) : Int)) g1) (by assumption) | exact absurd (congrArg (fun z : UInt32 => ((UInt32.toNat z : Nat) : Int)) g2) (by assumption) | exact absurd g3 (by assumption) | exact absurd g4 (by assumption)
 ·
  have En102 := En22.fx (t := 10) (congrArg Value.bool hb23)
  have hp103 : ¬ (((UInt32.toNat pa : Nat) : Int) = ((UInt32.toNat qa : Nat) : Int)) := ne_of_beq_false hb23
  refine d_e [4] [] En102 fun ac104 En105 => ?_
  refine then_normal ?_
  refine wp_ret ?_
  refine d_ret1 (t := 4) (v := .bool false) En105 (by kernel_rfl) (by kernel_rfl) ?_
  refine ⟨congrArg (fun b => Ending.returned (Value.bool b)) (tup_no fun g => ?_), Hv10.pk []⟩
  simp only [Prod.mk.injEq] at g
  obtain ⟨g1, g2, g3, g4, g5⟩ := g
  first | exact absurd (congrArg (fun z : UInt32 => ((UInt32.toNat z : Nat) : Int)) g1) (by assumption) | exact absurd (congrArg (fun z : UInt32 => ((UInt32.toNat z : Nat) : Int)) g2) (by assumption) | exact absurd g3 (by assumption) | exact absurd g4 (by assumption)

theorem samecert_go (w : World) (a_pa : Option Addr) (c_pa : Nat) (pa : List UInt8) (a_pb : Option Addr) (c_pb : Nat) (pb : List RCer) (a_qa : Option Addr) (c_qa : Nat) (qa : List UInt8) (a_qb : Option Addr) (c_qb : Nat) (qb : List RCer) (i_pa : InB w [] a_pa c_pa pa) (i_pb : InS fCer 48 (fun x : RCer => (InB w [] x.1.a x.1.c x.1.l ∧ (InS (fun p : (UInt16) × (Sl UInt8) × Unit => (fun n : UInt16 => [uv16 n]) p.1 ++ (fun p : (Sl UInt8) × Unit => (fun s : Sl UInt8 => s.f) p.1 ++ (fun _ : Unit => []) p.2) p.2) 32 (fun x : (UInt16) × (Sl UInt8) × Unit => (True ∧ (InB w [] x.2.1.a x.2.1.c x.2.1.l ∧ (True)))) w [] x.2.1.a x.2.1.c x.2.1.l ∧ (True)))) w [] a_pb c_pb pb) (i_qa : InB w [] a_qa c_qa qa) (i_qb : InS fCer 48 (fun x : RCer => (InB w [] x.1.a x.1.c x.1.l ∧ (InS (fun p : (UInt16) × (Sl UInt8) × Unit => (fun n : UInt16 => [uv16 n]) p.1 ++ (fun p : (Sl UInt8) × Unit => (fun s : Sl UInt8 => s.f) p.1 ++ (fun _ : Unit => []) p.2) p.2) 32 (fun x : (UInt16) × (Sl UInt8) × Unit => (True ∧ (InB w [] x.2.1.a x.2.1.c x.2.1.l ∧ (True)))) w [] x.2.1.a x.2.1.c x.2.1.l ∧ (True)))) w [] a_qb c_qb qb) : Calls Try.prog 81 #[.agg #[.slice a_pa (List.length pa) c_pa, .slice a_pb (List.length pb) c_pb], .agg #[.slice a_qa (List.length qa) c_qa, .slice a_qb (List.length qb) c_qb]] w fun e w' => e = .returned (.bool ((pa, List.map (fun y : RCer => (y.1.l, List.map (fun y : RExt => (y.1, y.2.1.l)) y.2.1.l)) pb) == (qa, List.map (fun y : RCer => (y.1.l, List.map (fun y : RExt => (y.1, y.2.1.l)) y.2.1.l)) qb))) ∧ Ev w [] w' [] := by
 have hsp := i_pb.small
 refine d_0 [(0, .agg #[.slice a_pa (List.length pa) c_pa, .slice a_pb (List.length pb) c_pb]), (1, .agg #[.slice a_qa (List.length qa) c_qa, .slice a_qb (List.length qb) c_qb])] 62 Go.Proofs.Try.func81 Go.Proofs.Try.ntmps81 (Heap.nil _) fun act0 En0 Hv0 => ?_
 refine wp_seq ?_
 refine region_from ?_
 refine f_o ?_
 refine m_m 83 [.slice a_pa (List.length pa) c_pa, .slice a_pb (List.length pb) c_pb] En0 Hv0 fun ac2 wo3 bk1 En4 Hv5 => ?_
 refine f_o ?_
 refine m_m 83 [.slice a_qa (List.length qa) c_qa, .slice a_qb (List.length qb) c_qb] En4 Hv5 fun ac7 wo8 bk6 En9 Hv10 => ?_
 refine d_e [2,3,4] [] En9 fun ac11 En12 => ?_
 refine then_normal ?_
 refine wp_seq ?_
 refine wp_seq ?_
 refine region_from ?_
 refine d_k [2,3,4,7] [] 1 En12 fun ac13 En14 => ?_
 refine f_o ?_
 refine m_l 0 En14 Hv10 fun ac15 En16 => ?_
 refine f_o ?_
 refine op_str (d := some 9) (src := 23) (dst := 9) (e := 5) (ao := a_pa) (cap := c_pa) (p := List.length pa) (bs := pa) En16 (by kernel_rfl) rfl (by kernel_rfl) (by kernel_rfl) (by kernel_rfl) (i_pa.ev Hv10).reads i_pa.nz ?_
 intro ac17 En18
 refine d_k [2,3,4,9,10] [] 4 En18 fun ac19 En20 => ?_
 refine f_o ?_
 refine m_l 1 En20 Hv10 fun ac21 En22 => ?_
 refine f_o ?_
 refine op_str (d := some 12) (src := 23) (dst := 9) (e := 5) (ao := a_qa) (cap := c_qa) (p := List.length qa) (bs := qa) En22 (by kernel_rfl) rfl (by kernel_rfl) (by kernel_rfl) (by kernel_rfl) (i_qa.ev Hv10).reads i_qa.nz ?_
 intro ac23 En24
 refine d_k [2,3,4,14] [(6, g_v (show (.bool (!(ByteArray.toList (bstr pa) == ByteArray.toList (bstr qa))) : Value) = .bool (!(pa == qa)) by rw [Go.Dbr.bstr_eq pa qa] <;> rfl))] 8 En24 fun ac25 En26 => ?_
 rcases Bool.eq_false_or_eq_true (!(pa == qa)) with hb27 | hb27
 ·
  have En28 := En26.fx (t := 14) (congrArg Value.bool hb27)
  have hp29 : pa ≠ qa := by simpa using hb27
  refine d_e [2,3,4,22] [] En28 fun ac30 En31 => ?_
  refine then_normal ?_
  refine c_t En31 ?_
  refine d_s [2,3,4] [] En31 fun ac32 En33 => ?_
  refine wp_ret ?_
  refine then_ret ?_
  refine d_ret1 (t := 4) (v := .bool false) En33 (by kernel_rfl) (by kernel_rfl) ?_
  refine ⟨congrArg (fun b => Ending.returned (Value.bool b)) (tup_no fun g => ?_), Hv10.pk []⟩
  simp only [Prod.mk.injEq] at g
  first | exact absurd g.1 (by assumption) | exact absurd (congrArg List.length g.2) (by rw [List.length_map, List.length_map]; omega)
 ·
  have En34 := En26.fx (t := 14) (congrArg Value.bool hb27)
  have hp35 : ¬ (pa ≠ qa) := by simpa using hb27
  refine d_k [2,3,4,14,15] [] 9 En34 fun ac36 En37 => ?_
  refine f_o ?_
  refine m_l 0 En37 Hv10 fun ac38 En39 => ?_
  refine d_k [2,3,4,14,17,18] [] 12 En39 fun ac40 En41 => ?_
  refine f_o ?_
  refine m_l 1 En41 Hv10 fun ac42 En43 => ?_
  refine d_e [2,3,4,22] [] En43 fun ac44 En45 => ?_
  refine then_normal ?_
  refine c_n ((List.length pb : Nat) : Int) ((List.length qb : Nat) : Int) En45 (fun hc46 => ?_) (fun hc46 => ?_)
  ·
   refine d_s [2,3,4] [] En45 fun ac47 En48 => ?_
   refine wp_ret ?_
   refine then_ret ?_
   refine d_ret1 (t := 4) (v := .bool false) En48 (by kernel_rfl) (by kernel_rfl) ?_
   refine ⟨congrArg (fun b => Ending.returned (Value.bool b)) (tup_no fun g => ?_), Hv10.pk []⟩
   simp only [Prod.mk.injEq] at g
   first | exact absurd g.1 (by assumption) | exact absurd (congrArg List.length g.2) (by rw [List.length_map, List.length_map]; omega)
  ·
   refine wp_skip ?_
   refine then_normal ?_
   refine wp_seq ?_
   refine d_s [2,3,4,5] [] En45 fun ac49 En50 => ?_
   refine wp_block ?_
   refine loop_m (fun ms51 ac wo => ∃ (i : Nat), ms51 = (List.length pb + 1 - i : Nat) ∧ Env ac 62 [(2, pt bk1), (3, pt bk6), (5, ni i)] ∧ Ev w [] wo [.box bk1 [.slice a_pa (List.length pa) c_pa, .slice a_pb (List.length pb) c_pb] 83, .box bk6 [.slice a_qa (List.length qa) c_qa, .slice a_qb (List.length qb) c_qb] 83] ∧ (List.take i (List.map (fun y : RCer => (y.1.l, List.map (fun y : RExt => (y.1, y.2.1.l)) y.2.1.l)) pb) = List.take i (List.map (fun y : RCer => (y.1.l, List.map (fun y : RExt => (y.1, y.2.1.l)) y.2.1.l)) qb))) ⟨_, 0, rfl, En50.sb, Hv10.pk [0, 1], rfl⟩ ?_
   rintro mm57 ac53 wo54 ⟨i, rfl, En55, Hv56, hp⟩
   refine wp_seq ?_
   refine wp_seq ?_
   refine region_from ?_
   refine d_k [2,3,5,23,24] [] 2 En55 fun ac58 En59 => ?_
   refine f_o ?_
   refine m_l 0 En59 Hv56 fun ac60 En61 => ?_
   refine d_e [2,3,5,27] [] En61 fun ac62 En63 => ?_
   refine then_normal ?_
   refine c_d (((i : Nat) : Int) < ((List.length pb : Nat) : Int)) En63 (fun hc64 => ?_) (fun hc64 => ?_)
   ·
    refine wp_skip ?_
    refine then_normal ?_
    refine wp_seq ?_
    refine wp_block ?_
    refine wp_seq ?_
    have hb65 : i < List.length pb := by omega
    obtain ⟨⟨⟨a_x67a, c_x67a, x67a⟩, ⟨a_x67b, c_x67b, x67b⟩, _⟩, hx66⟩ : ∃ x, (pb)[i]? = some x := ⟨_, List.getElem?_eq_getElem hb65⟩
    obtain ⟨i_x67a, i_x67b, _⟩ := i_pb.each _ (List.mem_of_getElem? hx66)
    replace i_x67a : InB w [] a_x67a c_x67a x67a := i_x67a
    replace i_x67b : InS (fun p : (UInt16) × (Sl UInt8) × Unit => (fun n : UInt16 => [uv16 n]) p.1 ++ (fun p : (Sl UInt8) × Unit => (fun s : Sl UInt8 => s.f) p.1 ++ (fun _ : Unit => []) p.2) p.2) 32 (fun x : (UInt16) × (Sl UInt8) × Unit => (True ∧ (InB w [] x.2.1.a x.2.1.c x.2.1.l ∧ (True)))) w [] a_x67b c_x67b x67b := i_x67b
    obtain ⟨adp, hadp⟩ := some_of i_pb.nz (show i < List.length pb by omega)
    have hb68 : i < List.length qb := by omega
    obtain ⟨⟨⟨a_x70a, c_x70a, x70a⟩, ⟨a_x70b, c_x70b, x70b⟩, _⟩, hx69⟩ : ∃ x, (qb)[i]? = some x := ⟨_, List.getElem?_eq_getElem hb68⟩
    obtain ⟨i_x70a, i_x70b, _⟩ := i_qb.each _ (List.mem_of_getElem? hx69)
    replace i_x70a : InB w [] a_x70a c_x70a x70a := i_x70a
    replace i_x70b : InS (fun p : (UInt16) × (Sl UInt8) × Unit => (fun n : UInt16 => [uv16 n]) p.1 ++ (fun p : (Sl UInt8) × Unit => (fun s : Sl UInt8 => s.f) p.1 ++ (fun _ : Unit => []) p.2) p.2) 32 (fun x : (UInt16) × (Sl UInt8) × Unit => (True ∧ (InB w [] x.2.1.a x.2.1.c x.2.1.l ∧ (True)))) w [] a_x70b c_x70b x70b := i_x70b
    obtain ⟨adq, hadq⟩ := some_of i_qb.nz (show i < List.length qb by omega)
    refine r_c (fun ac wo => Env ac 62 [(2, pt bk1), (3, pt bk6), (5, ni i), (6, .bool (List.map (fun y : RExt => (y.1, y.2.1.l)) x67b == List.map (fun y : RExt => (y.1, y.2.1.l)) x70b))] ∧ Ev w [] wo [.box bk1 [.slice a_pa (List.length pa) c_pa, .slice a_pb (List.length pb) c_pb] 83, .box bk6 [.slice a_qa (List.length qa) c_qa, .slice a_qb (List.length qb) c_qb] 83]) ?_ ?_
    ·
     refine s_g0 [(2, pt bk1), (3, pt bk6), (5, ni i)] [0,1,2,3,4,5,6,7,8,9,10,11,12,13] [(6, .bool (List.map (fun y : RExt => (y.1, y.2.1.l)) x67b == List.map (fun y : RExt => (y.1, y.2.1.l)) x70b)), (30, .pointer (some ⟨bk1, 1, none⟩)), (31, .slice a_pb (List.length pb) c_pb), (32, ni i), (33, .pointer (some (Addr.add adp (i * 2)))), (34, .pointer (some (Addr.add (Addr.add adp (i * 2)) 1))), (35, .slice a_x67b (List.length x67b) c_x67b), (36, .pointer (some ⟨bk6, 1, none⟩)), (37, .slice a_qb (List.length qb) c_qb), (38, ni i), (39, .pointer (some (Addr.add adq (i * 2)))), (40, .pointer (some (Addr.add (Addr.add adq (i * 2)) 1))), (41, .slice a_x70b (List.length x70b) c_x70b), (42, .bool (List.map (fun y : RExt => (y.1, y.2.1.l)) x67b == List.map (fun y : RExt => (y.1, y.2.1.l)) x70b))] 0 [(2, pt bk1), (3, pt bk6), (5, ni i), (6, .bool (List.map (fun y : RExt => (y.1, y.2.1.l)) x67b == List.map (fun y : RExt => (y.1, y.2.1.l)) x70b))] (En63.sb) (Hv56.trans (Ev.drew Hv56.heap)) ?_ fun ac128 wo129 En130 Hv131 => ?_
     ·
      refine s_p [] ?_
      refine s_l 0 ?_
      refine s_p [] ?_
      have hb78 : i < List.length pb := (by omega)
      refine s_c (fun Mx79 ac80 wo81 En82 Hv83 => ?_) ?_
      ·
       refine q_v (x := Instr.indexAt 81 (.slice a_pb (List.length pb) c_pb) (ni i)) (v := .pointer (some (Addr.add adp (i * 2)))) En82 (Go.Dbr.run_indexsl (e := 196) (sz := 2) (j := i) (jo := i * 2) hadp (by kernel_rfl) (by kernel_rfl) (by omega) hb78 rfl _) fun ac84 En85 => ?_
       exact s_e En85 Hv83
      refine s_p [] ?_
      refine s_c (fun Mx86 ac87 wo88 En89 Hv90 => ?_) ?_
      ·
       refine op_loadf (d := some 35) (t := 36) (ad := adp) (ao := a_pb) (ys := List.flatMap fCer pb) (o := i * 2 + 1) (v := .slice a_x67b (List.length x67b) c_x67b) En89 (by kernel_rfl) (Deep.add_add _ _ _) (i_pb.ro.ev Hv90).reads hadp ((flat_get (sz := 2) (j := 1) (fun _ _ => rfl) hx66 (by decide)).trans rfl) (by kernel_rfl) ?_
       intro ac91 En92
       exact s_e En92 Hv90
      refine s_p [] ?_
      refine s_l 1 ?_
      refine s_p [] ?_
      have hb100 : i < List.length qb := (by omega)
      refine s_c (fun Mx101 ac102 wo103 En104 Hv105 => ?_) ?_
      ·
       refine q_v (x := Instr.indexAt 81 (.slice a_qb (List.length qb) c_qb) (ni i)) (v := .pointer (some (Addr.add adq (i * 2)))) En104 (Go.Dbr.run_indexsl (e := 196) (sz := 2) (j := i) (jo := i * 2) hadq (by kernel_rfl) (by kernel_rfl) (by omega) hb100 rfl _) fun ac106 En107 => ?_
       exact s_e En107 Hv105
      refine s_p [] ?_
      refine s_c (fun Mx108 ac109 wo110 En111 Hv112 => ?_) ?_
      ·
       refine op_loadf (d := some 41) (t := 36) (ad := adq) (ao := a_qb) (ys := List.flatMap fCer qb) (o := i * 2 + 1) (v := .slice a_x70b (List.length x70b) c_x70b) En111 (by kernel_rfl) (Deep.add_add _ _ _) (i_qb.ro.ev Hv112).reads hadq ((flat_get (sz := 2) (j := 1) (fun _ _ => rfl) hx69 (by decide)).trans rfl) (by kernel_rfl) ?_
       intro ac113 En114
       exact s_e En114 Hv112
      refine s_c (fun Mx115 ac116 wo117 En118 Hv119 => ?_) ?_
      ·
       refine c_p En118 Hv119 (sameext_go _ a_x67b c_x67b x67b (i_x67b.go Hv119 [] (by kernel_rfl) (fun _ h => ⟨h.1, (InB.ev h.2.1 Hv119).pick [] (by kernel_rfl), h.2.2⟩)) a_x70b c_x70b x70b (i_x70b.go Hv119 [] (by kernel_rfl) (fun _ h => ⟨h.1, (InB.ev h.2.1 Hv119).pick [] (by kernel_rfl), h.2.2⟩))) fun ac124 wo125 En126 Hv127 => ?_
       exact s_e En126 Hv127
      refine s_p [] ?_
      exact s_n
     exact a_e ⟨En130.sb, Hv131.pk [0, 1]⟩
    rintro ac132 wo133 ⟨En134, Hv135⟩
    refine then_normal ?_
    refine wp_seq ?_
    rcases Bool.eq_false_or_eq_true (!(List.map (fun y : RExt => (y.1, y.2.1.l)) x67b == List.map (fun y : RExt => (y.1, y.2.1.l)) x70b)) with hb136 | hb136
    ·
     have hb136p : ¬ (List.map (fun y : RExt => (y.1, y.2.1.l)) x67b = List.map (fun y : RExt => (y.1, y.2.1.l)) x70b) := by simpa using hb136
     refine r_c (fun ac wo => Env ac 62 [(2, pt bk1), (3, pt bk6), (5, ni i), (61, .bool true)] ∧ Ev w [] wo [.box bk1 [.slice a_pa (List.length pa) c_pa, .slice a_pb (List.length pb) c_pb] 83, .box bk6 [.slice a_qa (List.length qa) c_qa, .slice a_qb (List.length qb) c_qb] 83]) ?_ ?_
     ·
      refine draw_any (by kernel_rfl) 19 (by kernel_rfl) ?_
      have wo137 := Hv135.trans (Ev.drew Hv135.heap)
      refine q_a [0,1,2] [] 16 En134 fun ac144 En145 => ?_
      have En146 := En145.fx (t := 44) (congrArg Value.bool hb136)
      have En147 := En146.fx (t := 45) (congrArg Value.bool hb136)
      refine q_a [3,4,5,6,7,8,9,10,11,12,13,14,15,16,17,18] [] 0 En147 fun ac148 En149 => ?_
      exact a_e ⟨En149.sb, wo137.pk [0, 1]⟩
     rintro ac150 wo151 ⟨En152, Hv153⟩
     refine then_normal ?_
     refine c_t En152 ?_
     refine d_s [2,3,4,5] [] En152 fun ac154 En155 => ?_
     refine wp_ret ?_
     refine block_ret ?_
     refine then_ret ?_
     refine then_ret ?_
     refine block_ret ?_
     refine then_ret ?_
     refine d_ret1 (t := 4) (v := .bool false) En155 (by kernel_rfl) (by kernel_rfl) ?_
     refine ⟨congrArg (fun b => Ending.returned (Value.bool b)) (tup_no fun g => ?_), Hv153.pk []⟩
     simp only [Prod.mk.injEq] at g
     have g2 := congrArg (fun l => l[i]?) g.2
     simp only [List.getElem?_map, hx66, hx69, Option.map_some, Option.some.injEq, Prod.mk.injEq] at g2
     first | exact absurd g2.1 (by assumption) | exact absurd g2.2 (by assumption)
    ·
     have hb136p : List.map (fun y : RExt => (y.1, y.2.1.l)) x67b = List.map (fun y : RExt => (y.1, y.2.1.l)) x70b := by simpa using hb136
     refine r_c (fun ac wo => Env ac 62 [(2, pt bk1), (3, pt bk6), (5, ni i), (61, .bool (!(x67a == x70a)))] ∧ Ev w [] wo [.box bk1 [.slice a_pa (List.length pa) c_pa, .slice a_pb (List.length pb) c_pb] 83, .box bk6 [.slice a_qa (List.length qa) c_qa, .slice a_qb (List.length qb) c_qb] 83]) ?_ ?_
     ·
      refine h_s (fun wv => Ev w [] wv [.box bk1 [.slice a_pa (List.length pa) c_pa, .slice a_pb (List.length pb) c_pb] 83, .box bk6 [.slice a_qa (List.length qa) c_qa, .slice a_qb (List.length qb) c_qb] 83]) [] 19 ?_
      have wo156 := Hv135.trans (Ev.drew Hv135.heap)
      refine q_s [0,1,2] [] 16 En134 (wo156.pk [0, 1]) fun ac343 En344 => ?_
      have En345 := En344.fx (t := 44) (congrArg Value.bool hb136)
      have En346 := En345.fx (t := 45) (congrArg Value.bool hb136)
      refine q_s [3] [] 15 En346 (wo156.pk [0, 1]) fun ac347 En348 => ?_
      refine q_l 0 4 En348 (wo156.pk [0, 1]) fun ac349 En350 => ?_
      have hb353 : i < List.length pb := (by omega)
      refine q_s [5] [] 13 En350 (wo156.pk [0, 1]) fun ac354 En355 => ?_
      refine q_f 6 (s := Instr.indexAt 81 (.slice a_pb (List.length pb) c_pb) (ni i)) (v := .pointer (some (Addr.add adp (i * 2)))) En355 (fun _ => Go.Dbr.run_indexsl (e := 196) (sz := 2) (j := i) (jo := i * 2) hadp (by kernel_rfl) (by kernel_rfl) (by omega) hb353 rfl _) (fun _ => wo156.pk [0, 1]) fun ac356 En357 => ?_
      refine q_s [7] [] 11 En357 (wo156.pk [0, 1]) fun ac358 En359 => ?_
      refine q_r 8 (s := Instr.loadAt 23 (.pointer (some (Addr.add adp (i * 2))))) (v := .slice a_x67a (List.length x67a) c_x67a) En359 (fun w hS => run_loadel (ad := adp) (o := i * 2) rfl (i_pb.ro.ev hS).reads hadp ((flat_get (sz := 2) (j := 0) (fun _ _ => rfl) hx66 (by decide)).trans rfl) (by kernel_rfl)) (wo156.pk [0, 1]) fun ac360 En361 => ?_
      refine q_r 9 (s := convert 23 9 (.slice a_x67a (List.length x67a) c_x67a)) (v := .string (bstr x67a)) En361 (fun w hS => run_str2 (e := 5) (bs := x67a) rfl (by kernel_rfl) (by kernel_rfl) (by kernel_rfl) (i_x67a.ev hS).reads i_x67a.nz) (wo156.pk [0, 1]) fun ac362 En363 => ?_
      refine q_s [10] [] 8 En363 (wo156.pk [0, 1]) fun ac364 En365 => ?_
      refine q_l 1 11 En365 (wo156.pk [0, 1]) fun ac366 En367 => ?_
      have hb370 : i < List.length qb := (by omega)
      refine q_s [12] [] 6 En367 (wo156.pk [0, 1]) fun ac371 En372 => ?_
      refine q_f 13 (s := Instr.indexAt 81 (.slice a_qb (List.length qb) c_qb) (ni i)) (v := .pointer (some (Addr.add adq (i * 2)))) En372 (fun _ => Go.Dbr.run_indexsl (e := 196) (sz := 2) (j := i) (jo := i * 2) hadq (by kernel_rfl) (by kernel_rfl) (by omega) hb370 rfl _) (fun _ => wo156.pk [0, 1]) fun ac373 En374 => ?_
      refine q_s [14] [] 4 En374 (wo156.pk [0, 1]) fun ac375 En376 => ?_
      refine q_r 15 (s := Instr.loadAt 23 (.pointer (some (Addr.add adq (i * 2))))) (v := .slice a_x70a (List.length x70a) c_x70a) En376 (fun w hS => run_loadel (ad := adq) (o := i * 2) rfl (i_qb.ro.ev hS).reads hadq ((flat_get (sz := 2) (j := 0) (fun _ _ => rfl) hx69 (by decide)).trans rfl) (by kernel_rfl)) (wo156.pk [0, 1]) fun ac377 En378 => ?_
      refine q_r 16 (s := convert 23 9 (.slice a_x70a (List.length x70a) c_x70a)) (v := .string (bstr x70a)) En378 (fun w hS => run_str2 (e := 5) (bs := x70a) rfl (by kernel_rfl) (by kernel_rfl) (by kernel_rfl) (i_x70a.ev hS).reads i_x70a.nz) (wo156.pk [0, 1]) fun ac379 En380 => ?_
      refine q_s [17,18] [(17, g_v (show (.bool (!(ByteArray.toList (bstr x67a) == ByteArray.toList (bstr x70a))) : Value) = .bool (!(x67a == x70a)) by rw [Go.Dbr.bstr_eq x67a x70a] <;> rfl))] 0 En380 (wo156.pk [0, 1]) fun ac381 En382 => ?_
      exact h_e ⟨En382.sb, wo156.pk [0, 1]⟩
     rintro ac383 wo384 ⟨En385, Hv386⟩
     refine then_normal ?_
     refine cond_at En385 (t := !(x67a == x70a)) (by kernel_rfl) (fun hc387 => ?_) (fun hc387 => ?_)
     ·
      replace hc387 : x67a ≠ x70a := by simpa using hc387
      refine d_s [2,3,4,5] [] En385 fun ac388 En389 => ?_
      refine wp_ret ?_
      refine block_ret ?_
      refine then_ret ?_
      refine then_ret ?_
      refine block_ret ?_
      refine then_ret ?_
      refine d_ret1 (t := 4) (v := .bool false) En389 (by kernel_rfl) (by kernel_rfl) ?_
      refine ⟨congrArg (fun b => Ending.returned (Value.bool b)) (tup_no fun g => ?_), Hv386.pk []⟩
      simp only [Prod.mk.injEq] at g
      have g2 := congrArg (fun l => l[i]?) g.2
      simp only [List.getElem?_map, hx66, hx69, Option.map_some, Option.some.injEq, Prod.mk.injEq] at g2
      first | exact absurd g2.1 (by assumption) | exact absurd g2.2 (by assumption)
     ·
      replace hc387 : ¬ (x67a ≠ x70a) := by simpa using hc387
      refine wp_skip ?_
      refine block_normal ?_
      refine then_normal ?_
      refine d_r [2,3,5] [(1, g_n (w_a i 1))] En385 fun ac390 En391 => ?_
      refine then_normal ?_
      refine ⟨_, ⟨i + 1, rfl, En391.sb, Hv386.pk [0, 1], (same_step hx66 hx69 (pair_eq (by first | assumption | exact Classical.not_not.1 (by assumption)) (by first | assumption | exact Classical.not_not.1 (by assumption))) hp)⟩, ?_⟩
      omega
   ·
    refine wp_exit ?_
    refine then_exit ?_
    refine then_exit ?_
    refine block_exit ?_
    refine then_normal ?_
    refine d_s [2,3,4,5] [] En63 fun ac392 En393 => ?_
    refine wp_ret ?_
    refine d_ret1 (t := 4) (v := .bool true) En393 (by kernel_rfl) (by kernel_rfl) ?_
    have hall := same_all (f := (fun y : RCer => (y.1.l, List.map (fun y : RExt => (y.1, y.2.1.l)) y.2.1.l))) (by omega) (by omega) hp
    exact ⟨congrArg (fun b => Ending.returned (Value.bool b)) (tup_yes (pair_eq (by first | assumption | exact Classical.not_not.1 (by assumption)) (eq_of_beq hall.symm))), Hv56.pk []⟩

end Go.Proofs.Ytofecellbfhnjaa

/- Layer 17: WireExtensions, walked. -/

namespace Go.Proofs.Ytofecellbfhnjaa
open Go.Dbr
set_option maxRecDepth 100000
set_option maxHeartbeats 2000000
set_option linter.unusedVariables false
set_option linter.unusedSimpArgs false

end Go.Proofs.Ytofecellbfhnjaa
