import Derived.Test.YtofecellbfhnjaaBk13
/- Layer 17: the rest of what is read back. -/

namespace Go.Proofs.Ytofecellbfhnjaa
open Go.Dbr
set_option maxRecDepth 100000
set_option maxHeartbeats 2000000
set_option linter.unusedVariables false
set_option linter.unusedSimpArgs false

theorem srv_rev {l : Bs} (h : gotA (srvM l false false) = 0) : srvP (srvM l false false).1 = l := by
  obtain ⟨h1, h3, h2⟩ := end_0 h
  have h1 : (sxM l false false).2.2.1 = false := h1
  have h2 : (sxM l false false).2.2.2 = false := h2
  have h3 : (sxM l false false).2.1 = [] := h3
  have f1 : tkS 1 (s1M l false false).1 (s1M l false false).2 = false := exts_s2 h1
  have f2 : (s1M l false false).2 = false := ss_f f1
  have f3 : tkS 2 (begM l false false).2.1 (begM l false false).2.2.1 = false := f2
  have fb : (begM l false false).2.2.1 = false := ss_f f3
  rw [fb] at f3
  have ex : sxM l false false = extsM (tkR 1 (s1M l false false).1 false) false (sz (nbV 1 (s1M l false false).1 false) || false) := by rw [sxM, f1, f2]; rfl
  rw [f2] at f1
  rw [ex] at h1 h2 h3
  have rx := exts_rev _ _ h1 h2
  rw [h3, List.append_nil] at rx
  have hz := (Bool.or_eq_false_iff.1 rx.2.2).1
  have hn0 : nbV 1 (s1M l false false).1 false = 0 := by rw [sz, decide_eq_false_iff_not] at hz; omega
  have r1 := tk_rev f1
  have n1 := nb_rev f1
  have e0 : tkO 1 (s1M l false false).1 false = [0] := by rw [← n1, hn0]; rfl
  have es1 : (s1M l false false).1 = tkR 2 (begM l false false).2.1 false := by rw [s1M, fb]
  have r2 := tk_rev f3
  have n2 := nb_rev f3
  have hlt : nbV 2 (begM l false false).2.1 false < 65536 := beV_lt 2 _ r2.2
  have en : (UInt16.ofNat (nbV 2 (begM l false false).2.1 false)).toNat = nbV 2 (begM l false false).2.1 false := by rw [UInt16.toNat_ofNat']; exact Nat.mod_eq_of_lt hlt
  have rb := beg_rev fb
  have e1 : (srvM l false false).1 = ((begM l false false).1.1, (begM l false false).1.2.1, (begM l false false).1.2.2, [UInt16.ofNat (nbV 2 (begM l false false).2.1 false)], (sxM l false false).1) := by rw [srvM, fb]
  rw [e1, srvP]
  show doneL (wexF ((((begF _ _ _).1 ++ beN 2 (UInt16.ofNat (nbV 2 (begM l false false).2.1 false)).toNat) ++ [0], (begF _ _ _).2) : WS) (sxM l false false).1).2 (wexF ((((begF (begM l false false).1.1 (begM l false false).1.2.1 (begM l false false).1.2.2).1 ++ beN 2 (UInt16.ofNat (nbV 2 (begM l false false).2.1 false)).toNat) ++ [0], (begF (begM l false false).1.1 (begM l false false).1.2.1 (begM l false false).1.2.2).2) : WS) (sxM l false false).1).1 = l
  rw [wexF_enc, begF_enc, rb.2, ex, rx.2.1]
  show ((eBg (begM l false false).1.1 (begM l false false).1.2.1 (begM l false false).1.2.2 ++ beN 2 (UInt16.ofNat (nbV 2 (begM l false false).2.1 false)).toNat) ++ [0]) ++ eXs _ = l
  rw [en, n2, ← rx.1, ← e0, List.append_assoc, ← r1.1, es1, List.append_assoc, ← r2.1]
  exact rb.1.symm
/-! tickets' parts -/
def eK1 (x : PK) : Bs := wput 2 [] x.1 ++ beN 4 x.2.1.toNat
def eK2 (x : PK) : Bs := wput 1 [] x.2.2
def bK1 (x : PK) : Bool := dbad 2 1 65535 x.1.length
def bK2 (x : PK) : Bool := dbad 1 32 255 x.2.2.length
theorem k1F_enc : Enc k1F eK1 bK1 := fun p x => by rw [k1F, wd_eq, wput_0, eK1, bK1, List.append_assoc]
theorem k2F_enc : Enc k2F eK2 bK2 := fun p x => by rw [k2F, wd_eq, wput_0, eK2, bK2]
theorem psk1_back : Back psk1M eK1 (fun x => bK1 x || !x.2.2.isEmpty) := fun x r o h => by
  rw [Bool.or_eq_false_iff] at h
  obtain ⟨t, g, b⟩ := x
  have hb : b = [] := by
    have h2 : (!b.isEmpty) = false := h.2
    simpa using h2
  subst hb
  have e : eK1 (t, g, []) ++ r = wput 2 [] t ++ (beN 4 g.toNat ++ r) := by rw [eK1, List.append_assoc]
  have hl := ls_back (x := 1) (y := 65535) (beN 4 g.toNat ++ r) h.1
  have hk := tk_back r (beN_len 4 g.toNat)
  have hl1 : lsO 2 1 65535 (wput 2 [] t ++ (beN 4 g.toNat ++ r)) false = t := hl.1
  have hl2 : lsR 2 1 65535 (wput 2 [] t ++ (beN 4 g.toNat ++ r)) false = beN 4 g.toNat ++ r := hl.2.1
  have hl3 : lsS 2 1 65535 (wput 2 [] t ++ (beN 4 g.toNat ++ r)) false = false := hl.2.2
  rw [psk1M, e, hl1, hl2, hl3, nb_back _ (u32_256 _), hk.2.1, hk.2.2, UInt32.ofNat_toNat]
theorem k1_ne (x : PK) : eK1 x ≠ [] := fun g => by
  have := congrArg List.length g
  rw [eK1, List.length_append, beN_len] at this
  simp at this
theorem l32_back : Back (listM 1 32 255) (fun t => wput 1 [] t) (fun t => dbad 1 32 255 t.length) := fun x r o h => by
  have hl := ls_back r h
  rw [listM, hl.1, hl.2.1, hl.2.2]
def u0 (x : PK) : PK := (x.1, x.2.1, [])
theorem flat_u0 (ps : List PK) : List.flatMap eK1 (List.map u0 ps) = List.flatMap eK1 ps := by
  induction ps with
  | nil => rfl
  | cons x r ih => rw [List.map_cons, List.flatMap_cons, List.flatMap_cons, ih]; rfl
theorem flat_b (ps : List PK) : List.flatMap (fun t => wput 1 [] t) (List.map (fun x : PK => x.2.2) ps) = List.flatMap eK2 ps := by
  induction ps with
  | nil => rfl
  | cons x r ih => rw [List.map_cons, List.flatMap_cons, List.flatMap_cons, ih]; rfl
theorem any_u0 (ps : List PK) : List.any (List.map u0 ps) (fun x => bK1 x || !x.2.2.isEmpty) = List.any ps bK1 := by
  induction ps with
  | nil => rfl
  | cons x r ih =>
    rw [List.map_cons, List.any_cons, List.any_cons, ih]
    show ((bK1 (u0 x) || !([] : Bs).isEmpty) || _) = _
    rw [show (!([] : Bs).isEmpty) = false from rfl, Bool.or_false]
    rfl
theorem any_b (ps : List PK) : List.any (List.map (fun x : PK => x.2.2) ps) (fun t => dbad 1 32 255 t.length) = List.any ps bK2 := by
  induction ps with
  | nil => rfl
  | cons x r ih => rw [List.map_cons, List.any_cons, List.any_cons, ih]; rfl
theorem bnd_back : ∀ ps : List PK, bnd upP ps.length (List.map u0 ps) (List.map (fun x : PK => x.2.2) ps) = ps
  | [] => rfl
  | (t, g, b) :: r => by
    show upP (u0 (t, g, b)) b :: bnd upP r.length (List.map u0 r) (List.map (fun x : PK => x.2.2) r) = _
    rw [bnd_back r]
    rfl
theorem psk_back {ps : List PK} (h : 0 < (pskP ps).length) : pskM (pskP ps) false false = (ps, [], false, false) ∧ 35 ≤ (pskO (pskP ps) false false).2.1.length ∧ (pskO (pskP ps) false false).2.1.length ≤ (pskP ps).length := by
  have hd := doneL_pos h
  rw [wd_eq, wd_eq, enc_all k1F_enc, enc_all k2F_enc] at hd
  have h1 := hd.1
  rw [Bool.false_or, Bool.or_eq_false_iff, Bool.or_eq_false_iff, Bool.or_eq_false_iff] at h1
  obtain ⟨⟨⟨ha1, hd1⟩, ha2⟩, hd2⟩ := h1
  have el : pskP ps = wput 2 [] (List.flatMap eK1 ps) ++ wput 2 [] (List.flatMap eK2 ps) := by
    rw [pskP, wd_eq, wd_eq, enc_all k1F_enc, enc_all k2F_enc, hd.2]
    exact wput_0 2 _ _
  have hO : pskO (pskP ps) false false = (List.map u0 ps, wput 2 [] (List.flatMap eK2 ps), false, false) := by
    rw [pskO, el, ← flat_u0]
    exact many_back psk1_back k1_ne _ false (by rw [any_u0]; exact ha1) (by rw [flat_u0]; exact hd1)
  have hB : pskB (pskP ps) false false = (List.map (fun x : PK => x.2.2) ps, [], false, false) := by
    rw [pskB, hO, ← flat_b]
    have := many_back (n := 2) (x := 1) l32_back al_ne (ps := List.map (fun x : PK => x.2.2) ps) [] false (by rw [any_b]; exact ha2) (by rw [flat_b]; exact hd2)
    rw [List.append_nil] at this
    exact this
  refine ⟨?_, ?_, ?_⟩
  · rw [pskM, hB, hO]
    show (bnd upP (List.map (fun x : PK => x.2.2) ps).length (List.map u0 ps) _, [], (false || (((List.map (fun x : PK => x.2.2) ps).length : Int) != ((List.map u0 ps).length : Int))), false) = _
    rw [List.length_map, List.length_map, bnd_back, bne_self_eq_false]
    rfl
  · rw [hO]
    show 35 ≤ (wput 2 [] (List.flatMap eK2 ps)).length
    rw [wput_len, List.length_nil]
    rw [dbad, Bool.or_eq_false_iff, decide_eq_false_iff_not] at hd2
    match ps, hd2, ha2 with
    | [], hd2, _ => exact absurd hd2.1 (by simp)
    | x :: r, _, ha2 =>
      rw [List.any_cons, Bool.or_eq_false_iff, bK2, dbad, Bool.or_eq_false_iff, decide_eq_false_iff_not] at ha2
      rw [List.flatMap_cons, List.length_append, eK2, wput_len, List.length_nil]
      omega
  · rw [hO, el]
    show (wput 2 [] (List.flatMap eK2 ps)).length ≤ _
    rw [List.length_append]
    omega
theorem cli_sz {l : Bs} (h : gotA (cliM l false false) = 0) : (allM exF (cliM l false false).1.2.2.2.2).1.length ≤ l.length ∧ (allM u16F (cliM l false false).1.2.2.2.1).1.length ≤ l.length ∧ (cliM l false false).1.2.2.1.length ≤ l.length := by
  have hr := cli_rev h
  have hne : 0 < l.length := by
    cases l with
    | nil => exact absurd h (by decide)
    | cons x r => simp
  generalize (cliM l false false).1 = x at hr
  have hd := doneL_pos (bad := (cliF x).2) (l := (cliF x).1) (by show 0 < (cliP x).length; rw [hr]; exact hne)
  have e : eCl x = l := by rw [← hr, cliP, hd.2, cliF_enc]
  have hl := congrArg List.length e
  rw [eCl, eBg, eNs, eXs] at hl
  simp only [List.length_append, wput_len, beN_len, List.length_nil] at hl
  rw [enc_all exF_enc, enc_all u16_enc]
  refine ⟨?_, ?_, ?_⟩ <;> first | omega | (dsimp only; omega)
theorem srv_sz {l : Bs} (h : gotA (srvM l false false) = 0) : (allM exF (srvM l false false).1.2.2.2.2).1.length ≤ l.length ∧ (allM u16F (srvM l false false).1.2.2.2.1).1.length ≤ 2 ∧ (srvM l false false).1.2.2.1.length ≤ l.length := by
  have hr := srv_rev h
  have hne : 0 < l.length := by
    cases l with
    | nil => exact absurd h (by decide)
    | cons x r => simp
  have e1 : (srvM l false false).1.2.2.2.1 = [UInt16.ofNat (nbV 2 (begM l false false).2.1 (begM l false false).2.2.1)] := rfl
  refine ⟨?_, ?_, ?_⟩
  · generalize (srvM l false false).1 = x at hr e1 ⊢
    obtain ⟨v, ar, b, ns, es⟩ := x
    obtain ⟨n, e1⟩ : ∃ n, ns = [n] := ⟨_, e1⟩
    subst e1
    have hd := doneL_pos (bad := (srvF (v, ar, b, [n], es) n).2) (l := (srvF (v, ar, b, [n], es) n).1) (by show 0 < (srvP (v, ar, b, [n], es)).length; rw [hr]; exact hne)
    have e : (srvF (v, ar, b, [n], es) n).1 = l := by rw [← hr]; exact hd.2.symm
    rw [srvF, wexF_enc, begF_enc, eXs] at e
    have hl := congrArg List.length e
    simp only [List.length_append, wput_len, List.length_nil] at hl
    rw [enc_all exF_enc]
    dsimp only
    omega
  · rw [e1]; show (u16F ([], false) _).1.length ≤ 2; rw [u16F, List.length_append, beN_len]; simp
  · generalize (srvM l false false).1 = x at hr e1 ⊢
    obtain ⟨v, ar, b, ns, es⟩ := x
    obtain ⟨n, e1⟩ : ∃ n, ns = [n] := ⟨_, e1⟩
    subst e1
    have hd := doneL_pos (bad := (srvF (v, ar, b, [n], es) n).2) (l := (srvF (v, ar, b, [n], es) n).1) (by show 0 < (srvP (v, ar, b, [n], es)).length; rw [hr]; exact hne)
    have e : (srvF (v, ar, b, [n], es) n).1 = l := by rw [← hr]; exact hd.2.symm
    rw [srvF, wexF_enc, begF_enc, eBg] at e
    have hl := congrArg List.length e
    simp only [List.length_append, wput_len, List.length_nil] at hl
    dsimp only
    omega
theorem cert_sz {l : Bs} (h : gotA (certM l false false) = 0) : (allM crF (certM l false false).1.2).1.length ≤ l.length := by
  have hr := cert_rev h
  rw [gotV_0 h] at hr
  have hne : 0 < l.length := by
    cases l with
    | nil => exact absurd h (by decide)
    | cons x r => simp
  generalize (certM l false false).1 = x at hr
  have hd := doneL_pos (bad := (certF ([], false) x).2) (l := (certF ([], false) x).1) (by show 0 < (certP x).length; rw [hr]; exact hne)
  have e : (certF ([], false) x).1 = l := by rw [← hr]; exact hd.2.symm
  rw [certF_enc, eCm] at e
  have hl := congrArg List.length e
  simp only [List.length_append, wput_len, List.length_nil] at hl
  rw [enc_all crF_enc]
  dsimp only
  omega
theorem u16_mono (p : WS) (x : UInt16) : p.1.length ≤ (u16F p x).1.length := by rw [u16F, List.length_append]; omega
theorem cr_mono (p : WS) (x : CE) : p.1.length ≤ (crF p x).1.length := by simp only [crF, wexF, wput_len]; omega
theorem allB_m {β : Type} {F : WS → β → WS} (hm : ∀ p x, p.1.length ≤ (F p x).1.length) {ps : List β} (h : (allM F ps).1.length ≤ 16777216) : allB F ps := fun i => Nat.le_trans (allM_mono hm ps i) h

end Go.Proofs.Ytofecellbfhnjaa

/- Layer 17: WireHellos, walked. -/

namespace Go.Proofs.Ytofecellbfhnjaa
open Go.Dbr
set_option maxRecDepth 100000
set_option maxHeartbeats 2000000
set_option linter.unusedVariables false
set_option linter.unusedSimpArgs false

end Go.Proofs.Ytofecellbfhnjaa
