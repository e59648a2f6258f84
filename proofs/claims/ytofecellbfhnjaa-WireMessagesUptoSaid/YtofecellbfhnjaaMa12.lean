import Derived.Test.YtofecellbfhnjaaMa10
import Derived.Test.YtofecellbfhnjaaMa11
import Derived.Test.YtofecellbfhnjaaMa6
import Derived.Test.YtofecellbfhnjaaMa9
/- Layer 17: messages with extensions: both read and write the same. -/




namespace Go.Proofs.Ytofecellbfhnjaa
open Go.Dbr
set_option maxRecDepth 100000
set_option maxHeartbeats 2000000
set_option linter.unusedVariables false
set_option linter.unusedSimpArgs false

/-- a list of structs within others, read alone -/
theorem innL {w : World} {L : List Ent} {α : Type} {f : α → List Value} {sz by_ : Nat} {ok : α → Prop} (h : Heap w L) {M : List Ent} {k : Nat} {D : List Inn} {a : Option Addr} {cap : Nat} {xs : List α} {T : TypeId} (hk : L[k]? = some (.grp D)) (hd : (a, cap, sz, xs.flatMap f, T) ∈ D) (hf : ∀ x, (f x).length = sz) (h1 : 0 < sz) (is : List Nat) (hm : M.map some = is.map (fun i => L[i]?)) (hn : is.contains k = false) (hs : xs.length * by_ ≤ 140737488351232) (ho : ∀ x ∈ xs, ok x) : InS f by_ ok w M a cap xs := by
  have h0 : Ent.holds0 w (.vec a cap sz (xs.flatMap f) T) := h.holds k _ hk _ hd
  have one : Heap w [Ent.vec a cap sz (xs.flatMap f) T] := by
    have at0 : ∀ (i : Nat) (f' : Ent), [Ent.vec a cap sz (xs.flatMap f) T][i]? = some f' → i = 0 ∧ f' = .vec a cap sz (xs.flatMap f) T := fun i f' hi => by
      cases i with
      | zero => exact ⟨rfl, by simpa using hi.symm⟩
      | succ i => simp at hi
    exact ⟨fun i j f' g b hi hj _ _ => by rw [(at0 i f' hi).1, (at0 j g hj).1], fun i f' hi => by rw [(at0 i f' hi).2]; exact h0⟩
  have q : InS f by_ ok w [] a cap xs := one.innS (k := 0) rfl hf h1 [] rfl rfl hs ho
  exact ⟨h.innRo hk hd is hm hn, q.nz, q.cap, hs, ho⟩
/-! readers -/
theorem extv_like (l : Bs) (s o : Bool) : Like (extM l s o) (dextM l s o) := by
  cases h : tkS 2 l s with
  | true => exact like_t (by show lsS 2 0 65535 (tkR 2 l s) (tkS 2 l s) = true; rw [h, lsS_t]) (by show ldS 2 0 65535 (dkR 2 l s) (tkS 2 l s) = true; rw [h, ldS_t])
  | false =>
    refine ⟨by show lsS 2 0 65535 (tkR 2 l s) (tkS 2 l s) = ldS 2 0 65535 (dkR 2 l s) (tkS 2 l s); rw [tk_dk h, ls_ld], fun g => ?_⟩
    have g : lsS 2 0 65535 (tkR 2 l s) (tkS 2 l s) = false := g
    have e := ls_ld2 g
    rw [extM, dextM, e.1, e.2, ls_ld, tk_dk h]
theorem mnf_o {α : Type} {one : Bs → Bool → Bool → α × PS} (h : ∀ l s o, (one l s o).2.2.2 = o) : ∀ (f : Nat) (p : PS), (mnf one f p).2.2.2 = p.2.2
  | 0, p => rfl
  | f + 1, p => by
    by_cases hp : p.2.1 = true ∨ p.1 = []
    · rw [mnf_end hp]
    · rw [mnf, if_neg hp]
      exact (mnf_o h f _).trans (h _ _ _)
theorem mn_o {α : Type} {one : Bs → Bool → Bool → α × PS} (h : ∀ l s o, (one l s o).2.2.2 = o) (p : PS) : (mn one p).2.2.2 = p.2.2 := mnf_o h _ p
theorem exts_like (l : Bs) (s o : Bool) : Like (extsM l s o) (dextsM l s o) := by
  have h := many_like extv_like (n := 2) (by decide) 0 l s o
  refine ⟨h.1, fun g => ?_⟩
  have e := h.2 g
  have ho : (dmanyM dextM 2 0 65535 l s o).2.2.2 = o := by
    show (o || (mn dextM (ldO 2 0 65535 l s, ldS 2 0 65535 l s, false)).2.2.2) = o
    rw [mn_o (fun _ _ _ => rfl)]
    exact Bool.or_false _
  rw [extsM, dextsM, e, ho]
theorem bor_t {a : Bool} (b : Bool) (h : a = true) : (a || b) = true := by rw [h, Bool.true_or]
theorem exts_t (l : Bs) (o : Bool) : (extsM l true o).2.2.1 = true := bor_t (a := lsS 2 0 16777215 l true) (mn extM (lsO 2 0 16777215 l true, lsS 2 0 16777215 l true, false)).2.2.1 (lsS_t _ _ _ _)
theorem dexts_t (l : Bs) (o : Bool) : (dextsM l true o).2.2.1 = true := bor_t (a := ldS 2 0 65535 l true) (mn dextM (ldO 2 0 65535 l true, ldS 2 0 65535 l true, false)).2.2.1 (ldS_t _ _ _ _)
theorem pair_like (n x y : Nat) (l : Bs) (s o : Bool) : Like ((lsO n x y l s, (extsM (lsR n x y l s) (lsS n x y l s) o).1), (extsM (lsR n x y l s) (lsS n x y l s) o).2) ((ldO n x y l s, (dextsM (ldR n x y l s) (ldS n x y l s) o).1), (dextsM (ldR n x y l s) (ldS n x y l s) o).2) := by
  cases h : lsS n x y l s with
  | true => exact like_t (exts_t _ _) (by rw [← ls_ld, h]; exact dexts_t _ _)
  | false =>
    have e := ls_ld2 h
    have hx := exts_like (ldR n x y l s) false o
    rw [← ls_ld, h, e.1, e.2]
    exact ⟨hx.1, fun g => by have := hx.2 g; rw [this]⟩
theorem req_like (l : Bs) (s o : Bool) : Like (reqM l s o) (dreqM l s o) := pair_like 1 0 255 l s o
theorem ent_like (l : Bs) (s o : Bool) : Like (entM l s o) (dentM l s o) := pair_like 3 1 16777215 l s o
theorem many3_like {α : Type} {one two : Bs → Bool → Bool → α × PS} (h : ∀ l s o, Like (one l s o) (two l s o)) (n x : Nat) (l : Bs) (s o : Bool) : Like (manyM one n x l s o) (dmanyM two n x 16777215 l s o) := by
  cases e : lsS n x 16777215 l s with
  | true =>
    refine like_t ?_ ?_
    · show (lsS n x 16777215 l s || _) = true
      rw [e, Bool.true_or]
    · show (ldS n x 16777215 l s || _) = true
      rw [← ls_ld, e, Bool.true_or]
  | false =>
    have e2 := ls_ld2 e
    have hm := mn_like h (ldO n x 16777215 l s, ldS n x 16777215 l s, false)
    refine ⟨?_, fun g => ?_⟩
    · show (lsS n x 16777215 l s || (mn one (lsO n x 16777215 l s, lsS n x 16777215 l s, false)).2.2.1) = (ldS n x 16777215 l s || (mn two (ldO n x 16777215 l s, ldS n x 16777215 l s, false)).2.2.1)
      rw [e2.1, ls_ld, hm.1]
    · have g : (lsS n x 16777215 l s || (mn one (lsO n x 16777215 l s, lsS n x 16777215 l s, false)).2.2.1) = false := g
      rw [e2.1, ls_ld, Bool.or_eq_false_iff] at g
      have := hm.2 g.2
      rw [manyM, dmanyM, e2.1, e2.2, ls_ld, this]
theorem many_t {α : Type} (one : Bs → Bool → Bool → α × PS) (n x : Nat) (l : Bs) (o : Bool) : (manyM one n x l true o).2.2.1 = true := bor_t (a := lsS n x 16777215 l true) (mn one (lsO n x 16777215 l true, lsS n x 16777215 l true, false)).2.2.1 (lsS_t _ _ _ _)
theorem dmany_t {α : Type} (one : Bs → Bool → Bool → α × PS) (n x y : Nat) (l : Bs) (o : Bool) : (dmanyM one n x y l true o).2.2.1 = true := bor_t (a := ldS n x y l true) (mn one (ldO n x y l true, ldS n x y l true, false)).2.2.1 (ldS_t _ _ _ _)
theorem cert_like (l : Bs) (s o : Bool) : Like (certM l s o) (dcertM l s o) := by
  rw [certM, dcertM]
  cases h : lsS 1 0 255 l s with
  | true => exact like_t (many_t _ _ _ _ _) (by rw [← ls_ld, h]; exact dmany_t _ _ _ _ _ _)
  | false =>
    have e := ls_ld2 h
    have hx := many3_like ent_like 3 0 (ldR 1 0 255 l s) false o
    rw [← ls_ld, h, e.1, e.2]
    exact ⟨hx.1, fun g => by have := hx.2 g; rw [this]⟩
def SS (a b : Bs × Bool) : Prop := a.2 = b.2 ∧ (a.2 = false → a = b)
theorem ss_tk {n : Nat} {a b : Bs × Bool} (h : SS a b) : SS (tkR n a.1 a.2, tkS n a.1 a.2) (dkR n b.1 b.2, tkS n b.1 b.2) := by
  cases e : a.2 with
  | true => have e2 := h.1.symm.trans e; exact ⟨by rw [e2]; rfl, fun g => by cases g⟩
  | false =>
    have e2 := h.2 e
    rw [← e2, ← e]
    exact ⟨rfl, fun g => by rw [tk_dk g]⟩
theorem ss_ls {n x y : Nat} {a b : Bs × Bool} (h : SS a b) : SS (lsR n x y a.1 a.2, lsS n x y a.1 a.2) (ldR n x y b.1 b.2, ldS n x y b.1 b.2) := by
  cases e : a.2 with
  | true => have e2 := h.1.symm.trans e; rw [e2]; exact ⟨by rw [lsS_t, ldS_t], fun g => by rw [lsS_t] at g; cases g⟩
  | false =>
    have e2 := h.2 e
    rw [← e2, ← e]
    exact ⟨ls_ld _ _ _ _ _, fun g => by rw [(ls_ld2 g).2, ls_ld]⟩
theorem ss_f {n : Nat} {l : Bs} {s : Bool} (h : tkS n l s = false) : s = false := by rw [tkS, Bool.or_eq_false_iff] at h; exact h.1
theorem tic_like (l : Bs) (s o : Bool) : Like (ticM l s o) (dticM l s o) := by
  have h0 : SS (l, s) (l, s) := ⟨rfl, fun _ => rfl⟩
  have ha : SS (tkR 4 l s, tkS 4 l s) (dkR 4 l s, tkS 4 l s) := ss_tk (n := 4) h0
  have h1 : SS (tq1 l s) (dq1 l s) := by
    have h := ss_tk (n := 4) ha
    refine ⟨?_, fun g => ?_⟩
    · show tkS 4 (tkR 4 l s) (tkS 4 l s) = tkS 4 (dkR 4 l s) (tkS 4 l s)
      exact h.1
    · exact h.2 g
  have h2 : SS (tq2 l s) (dq2 l s) := ss_ls h1
  have h3 : SS (tq3 l s) (dq3 l s) := ss_ls h2
  cases e : (tq3 l s).2 with
  | true => exact like_t (by show (extsM (tq3 l s).1 (tq3 l s).2 o).2.2.1 = true; rw [e]; exact exts_t _ _) (by show (dextsM (dq3 l s).1 (dq3 l s).2 o).2.2.1 = true; rw [← h3.1, e]; exact dexts_t _ _)
  | false =>
    have e3 := h3.2 e
    have g3 : lsS 2 1 65535 (tq2 l s).1 (tq2 l s).2 = false := e
    have f2 : (tq2 l s).2 = false := (lsS_f g3).2
    have e2 := h2.2 f2
    have g2 : lsS 1 0 255 (tq1 l s).1 (tq1 l s).2 = false := f2
    have f1 : (tq1 l s).2 = false := (lsS_f g2).2
    have e1 := h1.2 f1
    have g1 : tkS 4 (tkR 4 l s) (tkS 4 l s) = false := f1
    have ea := tk_dk (ss_f g1)
    have hx := exts_like (tq3 l s).1 (tq3 l s).2 o
    rw [ticM, dticM, ← e3, ← e2, ← e1, ← ea, (ls_ld2 g3).1, (ls_ld2 g2).1]
    exact ⟨hx.1, fun g => by have := hx.2 g; rw [this]⟩
/-! writers -/
theorem ex_like (p d : WS) (t : EX) (h : LikeW p d) : LikeW (exF p t) (dexF d t) := likeW_one h (fun l => l ++ beN 2 t.1.toNat)
theorem part_like {n x : Nat} {p d a b : WS} (h : LikeW p d) (g : LikeW a b) : LikeW (wput n p.1 a.1, wbad n x 16777215 a.1.length (p.2 || a.2)) (dput n x 16777215 d.1 b.1, (d.2 || b.2) || dbad n x 16777215 b.1.length) := by
  have key : wbad n x 16777215 a.1.length (p.2 || a.2) = ((d.2 || b.2) || dbad n x 16777215 b.1.length) := by
    rw [wd_eq, ← h.1, ← g.1]
    cases e : a.2 with
    | true => rw [Bool.or_true, Bool.true_or, Bool.true_or]
    | false => rw [g.2 e]
  refine ⟨key, fun q => ?_⟩
  have q : wbad n x 16777215 a.1.length (p.2 || a.2) = false := q
  rw [wd_eq, Bool.or_eq_false_iff, Bool.or_eq_false_iff] at q
  show wput n p.1 a.1 = dput n x 16777215 d.1 b.1
  rw [← g.2 q.1.2, dput_f q.2, h.2 q.1.1]
theorem wex_like {p d : WS} (h : LikeW p d) (ps : List EX) : LikeW (wexF p ps) (wdexF d ps) := by
  have hA := allM_like ex_like ps
  have := part_like (n := 2) (x := 0) (a := ((allM exF ps).1, dupA ps || (allM exF ps).2)) (b := ((allM dexF ps).1, (allM dexF ps).2 || dupA ps)) h ⟨by show (dupA ps || (allM exF ps).2) = ((allM dexF ps).2 || dupA ps); rw [hA.1, Bool.or_comm], fun g => hA.2 (Bool.or_eq_false_iff.1 g).2⟩
  rw [wexF, wdexF, Bool.or_assoc]
  exact this
theorem reqF_like {p d : WS} (h : LikeW p d) (x : Bs × List EX) : LikeW (reqF p x) (dreqF d x) := wex_like (likeW_one h (fun l => l)) _
theorem crF_like (p d : WS) (x : CE) (h : LikeW p d) : LikeW (crF p x) (dcrF d x) := wex_like (likeW_one h (fun l => l)) _
theorem ticF_like {p d : WS} (h : LikeW p d) (x : UInt32 × UInt32 × Bs × Bs × List EX) : LikeW (ticF p x) (dticF d x) := wex_like (likeW_one (likeW_one h (fun l => (l ++ beN 4 x.1.toNat) ++ beN 4 x.2.1.toNat)) (fun l => l)) _
theorem certF_like {p d : WS} (h : LikeW p d) (x : Bs × List CE) : LikeW (certF p x) (dcertF d x) := part_like (likeW_one h (fun l => l)) (allM_like crF_like x.2)
theorem done_eq {p d : WS} (h : LikeW p d) : doneL p.2 p.1 = doneL d.2 d.1 := by
  rw [← h.1]
  cases e : p.2 with
  | true => rfl
  | false => rw [h.2 e]
theorem like_0 : LikeW ([], false) ([], false) := ⟨rfl, fun _ => rfl⟩
theorem exs_eq (ps : List EX) : exsP ps = dexsP ps := done_eq (wex_like like_0 ps)
theorem req_eq (x : Bs × List EX) : reqP x = dreqP x := done_eq (reqF_like like_0 x)
theorem ver_eq (x : EX) : verP x = dverP x := done_eq (ex_like _ _ x like_0)
theorem tic_eq (x : UInt32 × UInt32 × Bs × Bs × List EX) : ticP x = dticP x := done_eq (ticF_like like_0 x)
theorem cert_eq (x : Bs × List CE) : certP x = dcertP x := done_eq (certF_like like_0 x)
/-! how much -/
theorem exF_l (p : WS) (x : EX) : (exF p x).1.length ≤ p.1.length + 8 * (x.2.length + 1) := by rw [exF, wput_len, List.length_append, beN_len]; omega
theorem crF_l (p : WS) (x : CE) : (crF p x).1.length ≤ p.1.length + 8 * ((x.1.length + (List.map (fun e : EX => e.2.length + 1) x.2).sum) + 1) := by
  have h := foldl_len exF_l x.2 ([], false)
  rw [List.length_nil] at h
  simp only [crF, wexF, wput_len]
  rw [allM]
  omega

end Go.Proofs.Ytofecellbfhnjaa

/- Layer 17: messages with extensions are written by the document, whole. -/


namespace Go.Proofs.Ytofecellbfhnjaa
open Go.Dbr
set_option maxRecDepth 100000
set_option maxHeartbeats 2000000
set_option linter.unusedVariables false
set_option linter.unusedSimpArgs false

theorem dpexts_go (w : World) (al : Option Addr) (cl : Nat) (xs : List RExt) (il : InS fExt 32 (fun y : RExt => (True ∧ (InB w [] y.2.1.a y.2.1.c y.2.1.l ∧ (True)))) w [] al cl xs) (hq0 : List.length (allM exF (List.map (fun y : RExt => (y.1, y.2.1.l)) xs)).1 ≤ 16777216) : Calls Try.prog 98 #[.slice al (List.length xs) cl] w fun e w' => ∃ a' c', e = .returned (.slice a' (List.length (dexsP (List.map (fun y : RExt => (y.1, y.2.1.l)) xs))) c') ∧ Ev w [] w' [.vec a' c' 1 (bys (dexsP (List.map (fun y : RExt => (y.1, y.2.1.l)) xs))) 5] := by
 refine d_0 [(0, .slice al (List.length xs) cl)] 11 Go.Proofs.Try.func98 Go.Proofs.Try.ntmps98 (Heap.nil _) fun act0 En0 Hv0 => ?_
 refine d_s [0,2] [] En0 fun ac1 En2 => ?_
 refine wp_seq ?_
 refine region_from ?_
 refine d_k [0,2,4] [] 1 En2 fun ac3 En4 => ?_
 refine f_o ?_
 refine m_m 126 [.slice none 0 0, .bool false] En4 Hv0 fun ac6 wo7 bk5 En8 Hv9 => ?_
 refine d_e [0,2,3] [] En8 fun ac10 En11 => ?_
 refine then_normal ?_
 refine wp_seq ?_
 refine region_from ?_
 refine d_k [2,3,6,7] [] 2 En11 fun ac12 En13 => ?_
 refine f_o ?_
 have Hv14 : Ev w [] wo7 [.box bk5 [.slice none 0 0, .bool false] 126, .vec none 0 1 (bys []) 5] := Ev.nil (sz := 1) (T := 5) Hv9
 refine c_l [0,1] (M := [.box bk5 [.slice none 0 0, .bool false] 126, .vec none 0 1 (bys []) 5]) En13 Hv14 (fun hM17 => dwexts_go _ bk5 none 0 [] false al cl xs (il.go Hv14 [0, 1] (by kernel_rfl) (fun _ h => ⟨h.1, (InB.ev h.2.1 Hv14).pick [0, 1] (by kernel_rfl), h.2.2⟩)) (by first | omega | (simp only [List.length_nil, List.length_append, beN_len]; omega) | (simp only [u16F, beN_len, List.length_nil, List.length_append]; omega) | (simp only [wput_len, beN_len, List.length_nil, List.length_append]; omega) | (simp [wput_len, beN_len]; done) | (simp [wput_len, beN_len]; omega)) hM17) ?_
 rintro _ wo18 ⟨wa15, wc16, rfl, he19⟩
 refine ⟨_, _, [.box bk5 [.slice wa15 (List.length ((wdexF ([], false) (List.map (fun y : RExt => (y.1, y.2.1.l)) xs)).1)) wc16, .bool ((wdexF ([], false) (List.map (fun y : RExt => (y.1, y.2.1.l)) xs)).2)] 126, .vec wa15 wc16 1 (bys ((wdexF ([], false) (List.map (fun y : RExt => (y.1, y.2.1.l)) xs)).1)) 5], rfl, he19, by kernel_rfl, fun ac21 En22 Hv23 => ?_⟩
 refine f_e ?_
 refine then_normal ?_
 refine wp_seq ?_
 refine region_from ?_
 refine d_k [2,3,9] [] 1 En22 fun ac24 En25 => ?_
 refine f_o ?_
 refine c_l [0,1] (M := [.box bk5 [.slice wa15 (List.length ((wdexF ([], false) (List.map (fun y : RExt => (y.1, y.2.1.l)) xs)).1)) wc16, .bool ((wdexF ([], false) (List.map (fun y : RExt => (y.1, y.2.1.l)) xs)).2)] 126, .vec wa15 wc16 1 (bys ((wdexF ([], false) (List.map (fun y : RExt => (y.1, y.2.1.l)) xs)).1)) 5]) En25 Hv23 (fun hM28 => ddone_go _ bk5 wa15 wc16 ((wdexF ([], false) (List.map (fun y : RExt => (y.1, y.2.1.l)) xs)).1) ((wdexF ([], false) (List.map (fun y : RExt => (y.1, y.2.1.l)) xs)).2) hM28) ?_
 rintro _ wo29 ⟨da26, dc27, rfl, he30⟩
 refine ⟨_, _, [.vec da26 dc27 1 (bys (doneL ((wdexF ([], false) (List.map (fun y : RExt => (y.1, y.2.1.l)) xs)).2) ((wdexF ([], false) (List.map (fun y : RExt => (y.1, y.2.1.l)) xs)).1))) 5], rfl, he30, by kernel_rfl, fun ac32 En33 Hv34 => ?_⟩
 refine d_e [2,3] [] En33 fun ac35 En36 => ?_
 refine then_normal ?_
 refine wp_ret ?_
 refine d_ret1 (t := 2) (v := .slice da26 (List.length (doneL ((wdexF ([], false) (List.map (fun y : RExt => (y.1, y.2.1.l)) xs)).2) ((wdexF ([], false) (List.map (fun y : RExt => (y.1, y.2.1.l)) xs)).1))) dc27) En36 (by kernel_rfl) (by kernel_rfl) ?_
 exact ⟨da26, dc27, rfl, Hv34.pk [0]⟩

theorem dprequest_go (w : World) (ab : Option Addr) (cb : Nat) (b : Bs) (al : Option Addr) (cl : Nat) (xs : List RExt) (ib : InB w [] ab cb b) (il : InS fExt 32 (fun y : RExt => (True ∧ (InB w [] y.2.1.a y.2.1.c y.2.1.l ∧ (True)))) w [] al cl xs) (hq0 : List.length (allM exF (List.map (fun y : RExt => (y.1, y.2.1.l)) xs)).1 ≤ 16777216) (hbt : List.length b ≤ 16777216) : Calls Try.prog 96 #[.agg #[.slice ab (List.length b) cb, .slice al (List.length xs) cl]] w fun e w' => ∃ a' c', e = .returned (.slice a' (List.length (dreqP (b, (List.map (fun y : RExt => (y.1, y.2.1.l)) xs)))) c') ∧ Ev w [] w' [.vec a' c' 1 (bys (dreqP (b, (List.map (fun y : RExt => (y.1, y.2.1.l)) xs)))) 5] := by
 have hbs := ib.small
 have hd1 := dput_len 1 0 255 [] b
 rw [List.length_nil] at hd1
 refine d_0 [(0, .agg #[.slice ab (List.length b) cb, .slice al (List.length xs) cl])] 16 Go.Proofs.Try.func96 Go.Proofs.Try.ntmps96 (Heap.nil _) fun act0 En0 Hv0 => ?_
 refine wp_seq ?_
 refine region_from ?_
 refine f_o ?_
 refine m_m 96 [.slice ab (List.length b) cb, .slice al (List.length xs) cl] En0 Hv0 fun ac2 wo3 bk1 En4 Hv5 => ?_
 refine d_e [1,2] [] En4 fun ac6 En7 => ?_
 refine then_normal ?_
 refine wp_seq ?_
 refine region_from ?_
 refine d_k [1,2,4] [] 1 En7 fun ac8 En9 => ?_
 refine f_o ?_
 refine m_m 126 [.slice none 0 0, .bool false] En9 Hv5 fun ac11 wo12 bk10 En13 Hv14 => ?_
 refine d_e [1,2,3] [] En13 fun ac15 En16 => ?_
 refine then_normal ?_
 refine wp_seq ?_
 refine region_from ?_
 refine d_k [1,2,3,6,7] [] 2 En16 fun ac17 En18 => ?_
 refine f_o ?_
 refine m_l 0 En18 Hv14 fun ac19 En20 => ?_
 refine f_o ?_
 have Hv21 : Ev w [] wo12 [.box bk1 [.slice ab (List.length b) cb, .slice al (List.length xs) cl] 96, .box bk10 [.slice none 0 0, .bool false] 126, .vec none 0 1 (bys []) 5] := Ev.nil (sz := 1) (T := 5) Hv14
 refine c_l [1,2] (M := [.box bk10 [.slice none 0 0, .bool false] 126, .vec none 0 1 (bys []) 5]) En20 Hv21 (fun hM24 => dwlist_go _ bk10 none 0 [] false 1 (by omega) 0 255 (by omega) (by omega) ab cb b ((ib.ev Hv21).pick [1, 2] (by kernel_rfl)) (by first | omega | (simp only [List.length_nil, List.length_append, beN_len]; omega) | (simp only [u16F, beN_len, List.length_nil, List.length_append]; omega) | (simp only [wput_len, beN_len, List.length_nil, List.length_append]; omega) | (simp [wput_len, beN_len]; done) | (simp [wput_len, beN_len]; omega)) hM24) ?_
 rintro _ wo25 ⟨wa22, wc23, rfl, he26⟩
 refine ⟨_, _, [.box bk10 [.slice wa22 (List.length (dput 1 0 255 [] b)) wc23, .bool (false || dbad 1 0 255 (List.length b))] 126, .vec wa22 wc23 1 (bys (dput 1 0 255 [] b)) 5, .box bk1 [.slice ab (List.length b) cb, .slice al (List.length xs) cl] 96], rfl, he26, by kernel_rfl, fun ac28 En29 Hv30 => ?_⟩
 refine f_e ?_
 refine then_normal ?_
 refine wp_seq ?_
 refine region_from ?_
 refine d_k [1,2,3,10,11] [] 2 En29 fun ac31 En32 => ?_
 refine f_o ?_
 refine m_l 2 En32 Hv30 fun ac33 En34 => ?_
 refine f_o ?_
 refine c_l [0,1] (M := [.box bk10 [.slice wa22 (List.length (dput 1 0 255 [] b)) wc23, .bool (false || dbad 1 0 255 (List.length b))] 126, .vec wa22 wc23 1 (bys (dput 1 0 255 [] b)) 5]) En34 Hv30 (fun hM37 => dwexts_go _ bk10 wa22 wc23 (dput 1 0 255 [] b) (false || dbad 1 0 255 (List.length b)) al cl xs (il.go Hv30 [0, 1] (by kernel_rfl) (fun _ h => ⟨h.1, (InB.ev h.2.1 Hv30).pick [0, 1] (by kernel_rfl), h.2.2⟩)) (by first | omega | (simp only [List.length_nil, List.length_append, beN_len]; omega) | (simp only [u16F, beN_len, List.length_nil, List.length_append]; omega) | (simp only [wput_len, beN_len, List.length_nil, List.length_append]; omega) | (simp [wput_len, beN_len]; done) | (simp [wput_len, beN_len]; omega)) hM37) ?_
 rintro _ wo38 ⟨wa35, wc36, rfl, he39⟩
 refine ⟨_, _, [.box bk10 [.slice wa35 (List.length ((wdexF (dput 1 0 255 [] b, false || dbad 1 0 255 (List.length b)) (List.map (fun y : RExt => (y.1, y.2.1.l)) xs)).1)) wc36, .bool ((wdexF (dput 1 0 255 [] b, false || dbad 1 0 255 (List.length b)) (List.map (fun y : RExt => (y.1, y.2.1.l)) xs)).2)] 126, .vec wa35 wc36 1 (bys ((wdexF (dput 1 0 255 [] b, false || dbad 1 0 255 (List.length b)) (List.map (fun y : RExt => (y.1, y.2.1.l)) xs)).1)) 5, .box bk1 [.slice ab (List.length b) cb, .slice al (List.length xs) cl] 96], rfl, he39, by kernel_rfl, fun ac41 En42 Hv43 => ?_⟩
 refine f_e ?_
 refine then_normal ?_
 refine wp_seq ?_
 refine region_from ?_
 refine d_k [1,2,3,14] [] 1 En42 fun ac44 En45 => ?_
 refine f_o ?_
 refine c_l [0,1] (M := [.box bk10 [.slice wa35 (List.length ((wdexF (dput 1 0 255 [] b, false || dbad 1 0 255 (List.length b)) (List.map (fun y : RExt => (y.1, y.2.1.l)) xs)).1)) wc36, .bool ((wdexF (dput 1 0 255 [] b, false || dbad 1 0 255 (List.length b)) (List.map (fun y : RExt => (y.1, y.2.1.l)) xs)).2)] 126, .vec wa35 wc36 1 (bys ((wdexF (dput 1 0 255 [] b, false || dbad 1 0 255 (List.length b)) (List.map (fun y : RExt => (y.1, y.2.1.l)) xs)).1)) 5]) En45 Hv43 (fun hM48 => ddone_go _ bk10 wa35 wc36 ((wdexF (dput 1 0 255 [] b, false || dbad 1 0 255 (List.length b)) (List.map (fun y : RExt => (y.1, y.2.1.l)) xs)).1) ((wdexF (dput 1 0 255 [] b, false || dbad 1 0 255 (List.length b)) (List.map (fun y : RExt => (y.1, y.2.1.l)) xs)).2) hM48) ?_
 rintro _ wo49 ⟨da46, dc47, rfl, he50⟩
 refine ⟨_, _, [.vec da46 dc47 1 (bys (doneL ((wdexF (dput 1 0 255 [] b, false || dbad 1 0 255 (List.length b)) (List.map (fun y : RExt => (y.1, y.2.1.l)) xs)).2) ((wdexF (dput 1 0 255 [] b, false || dbad 1 0 255 (List.length b)) (List.map (fun y : RExt => (y.1, y.2.1.l)) xs)).1))) 5, .box bk1 [.slice ab (List.length b) cb, .slice al (List.length xs) cl] 96], rfl, he50, by kernel_rfl, fun ac52 En53 Hv54 => ?_⟩
 refine d_e [1,2,3] [] En53 fun ac55 En56 => ?_
 refine then_normal ?_
 refine wp_ret ?_
 refine d_ret1 (t := 2) (v := .slice da46 (List.length (doneL ((wdexF (dput 1 0 255 [] b, false || dbad 1 0 255 (List.length b)) (List.map (fun y : RExt => (y.1, y.2.1.l)) xs)).2) ((wdexF (dput 1 0 255 [] b, false || dbad 1 0 255 (List.length b)) (List.map (fun y : RExt => (y.1, y.2.1.l)) xs)).1))) dc47) En56 (by kernel_rfl) (by kernel_rfl) ?_
 exact ⟨da46, dc47, rfl, Hv54.pk [0]⟩

theorem dpverify_go (w : World) (g : UInt16) (ab : Option Addr) (cb : Nat) (b : Bs) (ib : InB w [] ab cb b) : Calls Try.prog 94 #[.agg #[uv16 g, .slice ab (List.length b) cb]] w fun e w' => ∃ a' c', e = .returned (.slice a' (List.length (dverP (g, b))) c') ∧ Ev w [] w' [.vec a' c' 1 (bys (dverP (g, b))) 5] := by
 have hbs := ib.small
 have hgl := UInt16.toNat_lt g
 refine d_0 [(0, .agg #[uv16 g, .slice ab (List.length b) cb])] 17 Go.Proofs.Try.func94 Go.Proofs.Try.ntmps94 (Heap.nil _) fun act0 En0 Hv0 => ?_
 refine wp_seq ?_
 refine region_from ?_
 refine f_o ?_
 refine m_m 88 [uv16 g, .slice ab (List.length b) cb] En0 Hv0 fun ac2 wo3 bk1 En4 Hv5 => ?_
 refine d_e [1,2] [] En4 fun ac6 En7 => ?_
 refine then_normal ?_
 refine wp_seq ?_
 refine region_from ?_
 refine d_k [1,2,4] [] 1 En7 fun ac8 En9 => ?_
 refine f_o ?_
 refine m_m 126 [.slice none 0 0, .bool false] En9 Hv5 fun ac11 wo12 bk10 En13 Hv14 => ?_
 refine d_e [1,2,3] [] En13 fun ac15 En16 => ?_
 refine then_normal ?_
 refine wp_seq ?_
 refine region_from ?_
 refine d_k [1,2,3,6,7] [] 2 En16 fun ac17 En18 => ?_
 refine f_o ?_
 refine m_l 0 En18 Hv14 fun ac19 En20 => ?_
 refine d_k [1,2,3,6,9] [(3, g_i .i64 (Go.Dbr.u16_to_i64 (x := g) rfl))] 4 En20 fun ac21 En22 => ?_
 refine f_o ?_
 have Hv23 : Ev w [] wo12 [.box bk1 [uv16 g, .slice ab (List.length b) cb] 88, .box bk10 [.slice none 0 0, .bool false] 126, .vec none 0 1 (bys []) 5] := Ev.nil (sz := 1) (T := 5) Hv14
 refine c_l [1,2] (M := [.box bk10 [.slice none 0 0, .bool false] 126, .vec none 0 1 (bys []) 5]) En22 Hv23 (fun hM26 => dwnum_go _ bk10 none 0 [] false 2 (by omega) (UInt16.toNat g) (by omega) (by first | omega | (simp only [List.length_nil, List.length_append, beN_len]; omega) | (simp only [u16F, beN_len, List.length_nil, List.length_append]; omega) | (simp only [wput_len, beN_len, List.length_nil, List.length_append]; omega) | (simp [wput_len, beN_len]; done) | (simp [wput_len, beN_len]; omega)) hM26) ?_
 rintro _ wo27 ⟨wa24, wc25, rfl, he28⟩
 refine ⟨_, _, [.box bk10 [.slice wa24 (List.length ([] ++ beN 2 (UInt16.toNat g))) wc25, .bool false] 126, .vec wa24 wc25 1 (bys ([] ++ beN 2 (UInt16.toNat g))) 5, .box bk1 [uv16 g, .slice ab (List.length b) cb] 88], rfl, he28, by kernel_rfl, fun ac30 En31 Hv32 => ?_⟩
 refine f_e ?_
 refine then_normal ?_
 refine wp_seq ?_
 refine region_from ?_
 refine d_k [1,2,3,11,12] [] 2 En31 fun ac33 En34 => ?_
 refine f_o ?_
 refine m_l 2 En34 Hv32 fun ac35 En36 => ?_
 refine f_o ?_
 refine c_l [0,1] (M := [.box bk10 [.slice wa24 (List.length ([] ++ beN 2 (UInt16.toNat g))) wc25, .bool false] 126, .vec wa24 wc25 1 (bys ([] ++ beN 2 (UInt16.toNat g))) 5]) En36 Hv32 (fun hM39 => dwlist_go _ bk10 wa24 wc25 ([] ++ beN 2 (UInt16.toNat g)) false 2 (by omega) 0 65535 (by omega) (by omega) ab cb b ((ib.ev Hv32).pick [0, 1] (by kernel_rfl)) (by first | omega | (simp only [List.length_nil, List.length_append, beN_len]; omega) | (simp only [u16F, beN_len, List.length_nil, List.length_append]; omega) | (simp only [wput_len, beN_len, List.length_nil, List.length_append]; omega) | (simp [wput_len, beN_len]; done) | (simp [wput_len, beN_len]; omega)) hM39) ?_
 rintro _ wo40 ⟨wa37, wc38, rfl, he41⟩
 refine ⟨_, _, [.box bk10 [.slice wa37 (List.length (dput 2 0 65535 ([] ++ beN 2 (UInt16.toNat g)) b)) wc38, .bool (false || dbad 2 0 65535 (List.length b))] 126, .vec wa37 wc38 1 (bys (dput 2 0 65535 ([] ++ beN 2 (UInt16.toNat g)) b)) 5, .box bk1 [uv16 g, .slice ab (List.length b) cb] 88], rfl, he41, by kernel_rfl, fun ac43 En44 Hv45 => ?_⟩
 refine f_e ?_
 refine then_normal ?_
 refine wp_seq ?_
 refine region_from ?_
 refine d_k [1,2,3,15] [] 1 En44 fun ac46 En47 => ?_
 refine f_o ?_
 refine c_l [0,1] (M := [.box bk10 [.slice wa37 (List.length (dput 2 0 65535 ([] ++ beN 2 (UInt16.toNat g)) b)) wc38, .bool (false || dbad 2 0 65535 (List.length b))] 126, .vec wa37 wc38 1 (bys (dput 2 0 65535 ([] ++ beN 2 (UInt16.toNat g)) b)) 5]) En47 Hv45 (fun hM50 => ddone_go _ bk10 wa37 wc38 (dput 2 0 65535 ([] ++ beN 2 (UInt16.toNat g)) b) (false || dbad 2 0 65535 (List.length b)) hM50) ?_
 rintro _ wo51 ⟨da48, dc49, rfl, he52⟩
 refine ⟨_, _, [.vec da48 dc49 1 (bys (doneL (false || dbad 2 0 65535 (List.length b)) (dput 2 0 65535 ([] ++ beN 2 (UInt16.toNat g)) b))) 5, .box bk1 [uv16 g, .slice ab (List.length b) cb] 88], rfl, he52, by kernel_rfl, fun ac54 En55 Hv56 => ?_⟩
 refine d_e [1,2,3] [] En55 fun ac57 En58 => ?_
 refine then_normal ?_
 refine wp_ret ?_
 refine d_ret1 (t := 2) (v := .slice da48 (List.length (doneL (false || dbad 2 0 65535 (List.length b)) (dput 2 0 65535 ([] ++ beN 2 (UInt16.toNat g)) b))) dc49) En58 (by kernel_rfl) (by kernel_rfl) ?_
 exact ⟨da48, dc49, rfl, Hv56.pk [0]⟩

theorem dpticket_go (w : World) (g g2 : UInt32) (at1 : Option Addr) (ct : Nat) (t : Bs) (ab : Option Addr) (cb : Nat) (b : Bs) (al : Option Addr) (cl : Nat) (xs : List RExt) (it : InB w [] at1 ct t) (ib : InB w [] ab cb b) (il : InS fExt 32 (fun y : RExt => (True ∧ (InB w [] y.2.1.a y.2.1.c y.2.1.l ∧ (True)))) w [] al cl xs) (hq0 : List.length (allM exF (List.map (fun y : RExt => (y.1, y.2.1.l)) xs)).1 ≤ 16777216) (hbt : List.length t + List.length b ≤ 16777216) : Calls Try.prog 92 #[.agg #[uv32 g, uv32 g2, .slice at1 (List.length t) ct, .slice ab (List.length b) cb, .slice al (List.length xs) cl]] w fun e w' => ∃ a' c', e = .returned (.slice a' (List.length (dticP (g, g2, t, b, (List.map (fun y : RExt => (y.1, y.2.1.l)) xs)))) c') ∧ Ev w [] w' [.vec a' c' 1 (bys (dticP (g, g2, t, b, (List.map (fun y : RExt => (y.1, y.2.1.l)) xs)))) 5] := by
 have hbs := ib.small
 have hts := it.small
 have hgl := UInt32.toNat_lt g
 have hg2 := UInt32.toNat_lt g2
 have hd1 := dput_len 1 0 255 (([] ++ beN 4 (UInt32.toNat g)) ++ beN 4 (UInt32.toNat g2)) t
 have hd2 := dput_len 2 1 65535 (dput 1 0 255 (([] ++ beN 4 (UInt32.toNat g)) ++ beN 4 (UInt32.toNat g2)) t) b
 simp only [List.length_nil, List.length_append, beN_len] at hd1
 refine d_0 [(0, .agg #[uv32 g, uv32 g2, .slice at1 (List.length t) ct, .slice ab (List.length b) cb, .slice al (List.length xs) cl])] 30 Go.Proofs.Try.func92 Go.Proofs.Try.ntmps92 (Heap.nil _) fun act0 En0 Hv0 => ?_
 refine wp_seq ?_
 refine region_from ?_
 refine f_o ?_
 refine m_m 86 [uv32 g, uv32 g2, .slice at1 (List.length t) ct, .slice ab (List.length b) cb, .slice al (List.length xs) cl] En0 Hv0 fun ac2 wo3 bk1 En4 Hv5 => ?_
 refine d_e [1,2] [] En4 fun ac6 En7 => ?_
 refine then_normal ?_
 refine wp_seq ?_
 refine region_from ?_
 refine d_k [1,2,4] [] 1 En7 fun ac8 En9 => ?_
 refine f_o ?_
 refine m_m 126 [.slice none 0 0, .bool false] En9 Hv5 fun ac11 wo12 bk10 En13 Hv14 => ?_
 refine d_e [1,2,3] [] En13 fun ac15 En16 => ?_
 refine then_normal ?_
 refine wp_seq ?_
 refine region_from ?_
 refine d_k [1,2,3,6,7] [] 2 En16 fun ac17 En18 => ?_
 refine f_o ?_
 refine m_l 0 En18 Hv14 fun ac19 En20 => ?_
 refine d_k [1,2,3,6,9] [(3, g_i .i64 (Go.Dbr.u32_to_i64 (x := g) rfl))] 4 En20 fun ac21 En22 => ?_
 refine f_o ?_
 have Hv23 : Ev w [] wo12 [.box bk1 [uv32 g, uv32 g2, .slice at1 (List.length t) ct, .slice ab (List.length b) cb, .slice al (List.length xs) cl] 86, .box bk10 [.slice none 0 0, .bool false] 126, .vec none 0 1 (bys []) 5] := Ev.nil (sz := 1) (T := 5) Hv14
 refine c_l [1,2] (M := [.box bk10 [.slice none 0 0, .bool false] 126, .vec none 0 1 (bys []) 5]) En22 Hv23 (fun hM26 => dwnum_go _ bk10 none 0 [] false 4 (by omega) (UInt32.toNat g) (by omega) (by first | omega | (simp only [List.length_nil, List.length_append, beN_len]; omega) | (simp only [u16F, beN_len, List.length_nil, List.length_append]; omega) | (simp only [wput_len, beN_len, List.length_nil, List.length_append]; omega) | (simp [wput_len, beN_len]; done) | (simp [wput_len, beN_len]; omega)) hM26) ?_
 rintro _ wo27 ⟨wa24, wc25, rfl, he28⟩
 refine ⟨_, _, [.box bk10 [.slice wa24 (List.length ([] ++ beN 4 (UInt32.toNat g))) wc25, .bool false] 126, .vec wa24 wc25 1 (bys ([] ++ beN 4 (UInt32.toNat g))) 5, .box bk1 [uv32 g, uv32 g2, .slice at1 (List.length t) ct, .slice ab (List.length b) cb, .slice al (List.length xs) cl] 86], rfl, he28, by kernel_rfl, fun ac30 En31 Hv32 => ?_⟩
 refine f_e ?_
 refine then_normal ?_
 refine wp_seq ?_
 refine region_from ?_
 refine d_k [1,2,3,11,12] [] 2 En31 fun ac33 En34 => ?_
 refine f_o ?_
 refine m_l 2 En34 Hv32 fun ac35 En36 => ?_
 refine d_k [1,2,3,11,14] [(3, g_i .i64 (Go.Dbr.u32_to_i64 (x := g2) rfl))] 4 En36 fun ac37 En38 => ?_
 refine f_o ?_
 refine c_l [0,1] (M := [.box bk10 [.slice wa24 (List.length ([] ++ beN 4 (UInt32.toNat g))) wc25, .bool false] 126, .vec wa24 wc25 1 (bys ([] ++ beN 4 (UInt32.toNat g))) 5]) En38 Hv32 (fun hM41 => dwnum_go _ bk10 wa24 wc25 ([] ++ beN 4 (UInt32.toNat g)) false 4 (by omega) (UInt32.toNat g2) (by omega) (by first | omega | (simp only [List.length_nil, List.length_append, beN_len]; omega) | (simp only [u16F, beN_len, List.length_nil, List.length_append]; omega) | (simp only [wput_len, beN_len, List.length_nil, List.length_append]; omega) | (simp [wput_len, beN_len]; done) | (simp [wput_len, beN_len]; omega)) hM41) ?_
 rintro _ wo42 ⟨wa39, wc40, rfl, he43⟩
 refine ⟨_, _, [.box bk10 [.slice wa39 (List.length (([] ++ beN 4 (UInt32.toNat g)) ++ beN 4 (UInt32.toNat g2))) wc40, .bool false] 126, .vec wa39 wc40 1 (bys (([] ++ beN 4 (UInt32.toNat g)) ++ beN 4 (UInt32.toNat g2))) 5, .box bk1 [uv32 g, uv32 g2, .slice at1 (List.length t) ct, .slice ab (List.length b) cb, .slice al (List.length xs) cl] 86], rfl, he43, by kernel_rfl, fun ac45 En46 Hv47 => ?_⟩
 refine f_e ?_
 refine then_normal ?_
 refine wp_seq ?_
 refine region_from ?_
 refine d_k [1,2,3,16,17] [] 2 En46 fun ac48 En49 => ?_
 refine f_o ?_
 refine m_l 2 En49 Hv47 fun ac50 En51 => ?_
 refine f_o ?_
 refine c_l [0,1] (M := [.box bk10 [.slice wa39 (List.length (([] ++ beN 4 (UInt32.toNat g)) ++ beN 4 (UInt32.toNat g2))) wc40, .bool false] 126, .vec wa39 wc40 1 (bys (([] ++ beN 4 (UInt32.toNat g)) ++ beN 4 (UInt32.toNat g2))) 5]) En51 Hv47 (fun hM54 => dwlist_go _ bk10 wa39 wc40 (([] ++ beN 4 (UInt32.toNat g)) ++ beN 4 (UInt32.toNat g2)) false 1 (by omega) 0 255 (by omega) (by omega) at1 ct t ((it.ev Hv47).pick [0, 1] (by kernel_rfl)) (by first | omega | (simp only [List.length_nil, List.length_append, beN_len]; omega) | (simp only [u16F, beN_len, List.length_nil, List.length_append]; omega) | (simp only [wput_len, beN_len, List.length_nil, List.length_append]; omega) | (simp [wput_len, beN_len]; done) | (simp [wput_len, beN_len]; omega)) hM54) ?_
 rintro _ wo55 ⟨wa52, wc53, rfl, he56⟩
 refine ⟨_, _, [.box bk10 [.slice wa52 (List.length (dput 1 0 255 (([] ++ beN 4 (UInt32.toNat g)) ++ beN 4 (UInt32.toNat g2)) t)) wc53, .bool (false || dbad 1 0 255 (List.length t))] 126, .vec wa52 wc53 1 (bys (dput 1 0 255 (([] ++ beN 4 (UInt32.toNat g)) ++ beN 4 (UInt32.toNat g2)) t)) 5, .box bk1 [uv32 g, uv32 g2, .slice at1 (List.length t) ct, .slice ab (List.length b) cb, .slice al (List.length xs) cl] 86], rfl, he56, by kernel_rfl, fun ac58 En59 Hv60 => ?_⟩
 refine f_e ?_
 refine then_normal ?_
 refine wp_seq ?_
 refine region_from ?_
 refine d_k [1,2,3,20,21] [] 2 En59 fun ac61 En62 => ?_
 refine f_o ?_
 refine m_l 2 En62 Hv60 fun ac63 En64 => ?_
 refine f_o ?_
 refine c_l [0,1] (M := [.box bk10 [.slice wa52 (List.length (dput 1 0 255 (([] ++ beN 4 (UInt32.toNat g)) ++ beN 4 (UInt32.toNat g2)) t)) wc53, .bool (false || dbad 1 0 255 (List.length t))] 126, .vec wa52 wc53 1 (bys (dput 1 0 255 (([] ++ beN 4 (UInt32.toNat g)) ++ beN 4 (UInt32.toNat g2)) t)) 5]) En64 Hv60 (fun hM67 => dwlist_go _ bk10 wa52 wc53 (dput 1 0 255 (([] ++ beN 4 (UInt32.toNat g)) ++ beN 4 (UInt32.toNat g2)) t) (false || dbad 1 0 255 (List.length t)) 2 (by omega) 1 65535 (by omega) (by omega) ab cb b ((ib.ev Hv60).pick [0, 1] (by kernel_rfl)) (by first | omega | (simp only [List.length_nil, List.length_append, beN_len]; omega) | (simp only [u16F, beN_len, List.length_nil, List.length_append]; omega) | (simp only [wput_len, beN_len, List.length_nil, List.length_append]; omega) | (simp [wput_len, beN_len]; done) | (simp [wput_len, beN_len]; omega)) hM67) ?_
 rintro _ wo68 ⟨wa65, wc66, rfl, he69⟩
 refine ⟨_, _, [.box bk10 [.slice wa65 (List.length (dput 2 1 65535 (dput 1 0 255 (([] ++ beN 4 (UInt32.toNat g)) ++ beN 4 (UInt32.toNat g2)) t) b)) wc66, .bool ((false || dbad 1 0 255 (List.length t)) || dbad 2 1 65535 (List.length b))] 126, .vec wa65 wc66 1 (bys (dput 2 1 65535 (dput 1 0 255 (([] ++ beN 4 (UInt32.toNat g)) ++ beN 4 (UInt32.toNat g2)) t) b)) 5, .box bk1 [uv32 g, uv32 g2, .slice at1 (List.length t) ct, .slice ab (List.length b) cb, .slice al (List.length xs) cl] 86], rfl, he69, by kernel_rfl, fun ac71 En72 Hv73 => ?_⟩
 refine f_e ?_
 refine then_normal ?_
 refine wp_seq ?_
 refine region_from ?_
 refine d_k [1,2,3,24,25] [] 2 En72 fun ac74 En75 => ?_
 refine f_o ?_
 refine m_l 2 En75 Hv73 fun ac76 En77 => ?_
 refine f_o ?_
 refine c_l [0,1] (M := [.box bk10 [.slice wa65 (List.length (dput 2 1 65535 (dput 1 0 255 (([] ++ beN 4 (UInt32.toNat g)) ++ beN 4 (UInt32.toNat g2)) t) b)) wc66, .bool ((false || dbad 1 0 255 (List.length t)) || dbad 2 1 65535 (List.length b))] 126, .vec wa65 wc66 1 (bys (dput 2 1 65535 (dput 1 0 255 (([] ++ beN 4 (UInt32.toNat g)) ++ beN 4 (UInt32.toNat g2)) t) b)) 5]) En77 Hv73 (fun hM80 => dwexts_go _ bk10 wa65 wc66 (dput 2 1 65535 (dput 1 0 255 (([] ++ beN 4 (UInt32.toNat g)) ++ beN 4 (UInt32.toNat g2)) t) b) ((false || dbad 1 0 255 (List.length t)) || dbad 2 1 65535 (List.length b)) al cl xs (il.go Hv73 [0, 1] (by kernel_rfl) (fun _ h => ⟨h.1, (InB.ev h.2.1 Hv73).pick [0, 1] (by kernel_rfl), h.2.2⟩)) (by first | omega | (simp only [List.length_nil, List.length_append, beN_len]; omega) | (simp only [u16F, beN_len, List.length_nil, List.length_append]; omega) | (simp only [wput_len, beN_len, List.length_nil, List.length_append]; omega) | (simp [wput_len, beN_len]; done) | (simp [wput_len, beN_len]; omega)) hM80) ?_
 rintro _ wo81 ⟨wa78, wc79, rfl, he82⟩
 refine ⟨_, _, [.box bk10 [.slice wa78 (List.length ((wdexF (dput 2 1 65535 (dput 1 0 255 (([] ++ beN 4 (UInt32.toNat g)) ++ beN 4 (UInt32.toNat g2)) t) b, (false || dbad 1 0 255 (List.length t)) || dbad 2 1 65535 (List.length b)) (List.map (fun y : RExt => (y.1, y.2.1.l)) xs)).1)) wc79, .bool ((wdexF (dput 2 1 65535 (dput 1 0 255 (([] ++ beN 4 (UInt32.toNat g)) ++ beN 4 (UInt32.toNat g2)) t) b, (false || dbad 1 0 255 (List.length t)) || dbad 2 1 65535 (List.length b)) (List.map (fun y : RExt => (y.1, y.2.1.l)) xs)).2)] 126, .vec wa78 wc79 1 (bys ((wdexF (dput 2 1 65535 (dput 1 0 255 (([] ++ beN 4 (UInt32.toNat g)) ++ beN 4 (UInt32.toNat g2)) t) b, (false || dbad 1 0 255 (List.length t)) || dbad 2 1 65535 (List.length b)) (List.map (fun y : RExt => (y.1, y.2.1.l)) xs)).1)) 5, .box bk1 [uv32 g, uv32 g2, .slice at1 (List.length t) ct, .slice ab (List.length b) cb, .slice al (List.length xs) cl] 86], rfl, he82, by kernel_rfl, fun ac84 En85 Hv86 => ?_⟩
 refine f_e ?_
 refine then_normal ?_
 refine wp_seq ?_
 refine region_from ?_
 refine d_k [1,2,3,28] [] 1 En85 fun ac87 En88 => ?_
 refine f_o ?_
 refine c_l [0,1] (M := [.box bk10 [.slice wa78 (List.length ((wdexF (dput 2 1 65535 (dput 1 0 255 (([] ++ beN 4 (UInt32.toNat g)) ++ beN 4 (UInt32.toNat g2)) t) b, (false || dbad 1 0 255 (List.length t)) || dbad 2 1 65535 (List.length b)) (List.map (fun y : RExt => (y.1, y.2.1.l)) xs)).1)) wc79, .bool ((wdexF (dput 2 1 65535 (dput 1 0 255 (([] ++ beN 4 (UInt32.toNat g)) ++ beN 4 (UInt32.toNat g2)) t) b, (false || dbad 1 0 255 (List.length t)) || dbad 2 1 65535 (List.length b)) (List.map (fun y : RExt => (y.1, y.2.1.l)) xs)).2)] 126, .vec wa78 wc79 1 (bys ((wdexF (dput 2 1 65535 (dput 1 0 255 (([] ++ beN 4 (UInt32.toNat g)) ++ beN 4 (UInt32.toNat g2)) t) b, (false || dbad 1 0 255 (List.length t)) || dbad 2 1 65535 (List.length b)) (List.map (fun y : RExt => (y.1, y.2.1.l)) xs)).1)) 5]) En88 Hv86 (fun hM91 => ddone_go _ bk10 wa78 wc79 ((wdexF (dput 2 1 65535 (dput 1 0 255 (([] ++ beN 4 (UInt32.toNat g)) ++ beN 4 (UInt32.toNat g2)) t) b, (false || dbad 1 0 255 (List.length t)) || dbad 2 1 65535 (List.length b)) (List.map (fun y : RExt => (y.1, y.2.1.l)) xs)).1) ((wdexF (dput 2 1 65535 (dput 1 0 255 (([] ++ beN 4 (UInt32.toNat g)) ++ beN 4 (UInt32.toNat g2)) t) b, (false || dbad 1 0 255 (List.length t)) || dbad 2 1 65535 (List.length b)) (List.map (fun y : RExt => (y.1, y.2.1.l)) xs)).2) hM91) ?_
 rintro _ wo92 ⟨da89, dc90, rfl, he93⟩
 refine ⟨_, _, [.vec da89 dc90 1 (bys (doneL ((wdexF (dput 2 1 65535 (dput 1 0 255 (([] ++ beN 4 (UInt32.toNat g)) ++ beN 4 (UInt32.toNat g2)) t) b, (false || dbad 1 0 255 (List.length t)) || dbad 2 1 65535 (List.length b)) (List.map (fun y : RExt => (y.1, y.2.1.l)) xs)).2) ((wdexF (dput 2 1 65535 (dput 1 0 255 (([] ++ beN 4 (UInt32.toNat g)) ++ beN 4 (UInt32.toNat g2)) t) b, (false || dbad 1 0 255 (List.length t)) || dbad 2 1 65535 (List.length b)) (List.map (fun y : RExt => (y.1, y.2.1.l)) xs)).1))) 5, .box bk1 [uv32 g, uv32 g2, .slice at1 (List.length t) ct, .slice ab (List.length b) cb, .slice al (List.length xs) cl] 86], rfl, he93, by kernel_rfl, fun ac95 En96 Hv97 => ?_⟩
 refine d_e [1,2,3] [] En96 fun ac98 En99 => ?_
 refine then_normal ?_
 refine wp_ret ?_
 refine d_ret1 (t := 2) (v := .slice da89 (List.length (doneL ((wdexF (dput 2 1 65535 (dput 1 0 255 (([] ++ beN 4 (UInt32.toNat g)) ++ beN 4 (UInt32.toNat g2)) t) b, (false || dbad 1 0 255 (List.length t)) || dbad 2 1 65535 (List.length b)) (List.map (fun y : RExt => (y.1, y.2.1.l)) xs)).2) ((wdexF (dput 2 1 65535 (dput 1 0 255 (([] ++ beN 4 (UInt32.toNat g)) ++ beN 4 (UInt32.toNat g2)) t) b, (false || dbad 1 0 255 (List.length t)) || dbad 2 1 65535 (List.length b)) (List.map (fun y : RExt => (y.1, y.2.1.l)) xs)).1))) dc90) En99 (by kernel_rfl) (by kernel_rfl) ?_
 exact ⟨da89, dc90, rfl, Hv97.pk [0]⟩

theorem dpcert_go (w : World) (ab : Option Addr) (cb : Nat) (b : Bs) (al : Option Addr) (cl : Nat) (xs : List RCer) (ib : InB w [] ab cb b) (il : InS fCer 48 (fun y : RCer => (InB w [] y.1.a y.1.c y.1.l ∧ (InS (fun p : (UInt16) × (Sl UInt8) × Unit => (fun n : UInt16 => [uv16 n]) p.1 ++ (fun p : (Sl UInt8) × Unit => (fun s : Sl UInt8 => s.f) p.1 ++ (fun _ : Unit => []) p.2) p.2) 32 (fun x : (UInt16) × (Sl UInt8) × Unit => (True ∧ (InB w [] x.2.1.a x.2.1.c x.2.1.l ∧ (True)))) w [] y.2.1.a y.2.1.c y.2.1.l ∧ (True)))) w [] al cl xs) (hq0 : allB crF (List.map (fun y : RCer => (y.1.l, List.map (fun y : RExt => (y.1, y.2.1.l)) y.2.1.l)) xs)) (hbt : List.length b ≤ 16777216) : Calls Try.prog 90 #[.agg #[.slice ab (List.length b) cb, .slice al (List.length xs) cl]] w fun e w' => ∃ a' c', e = .returned (.slice a' (List.length (dcertP (b, (List.map (fun y : RCer => (y.1.l, List.map (fun y : RExt => (y.1, y.2.1.l)) y.2.1.l)) xs)))) c') ∧ Ev w [] w' [.vec a' c' 1 (bys (dcertP (b, (List.map (fun y : RCer => (y.1.l, List.map (fun y : RExt => (y.1, y.2.1.l)) y.2.1.l)) xs)))) 5] := by
 have hbs := ib.small
 have hd1 := dput_len 1 0 255 [] b
 rw [List.length_nil] at hd1
 refine d_0 [(0, .agg #[.slice ab (List.length b) cb, .slice al (List.length xs) cl])] 42 Go.Proofs.Try.func90 Go.Proofs.Try.ntmps90 (Heap.nil _) fun act0 En0 Hv0 => ?_
 refine wp_seq ?_
 refine region_from ?_
 refine f_o ?_
 refine m_m 83 [.slice ab (List.length b) cb, .slice al (List.length xs) cl] En0 Hv0 fun ac2 wo3 bk1 En4 Hv5 => ?_
 refine d_e [1,2] [] En4 fun ac6 En7 => ?_
 refine then_normal ?_
 refine wp_seq ?_
 refine region_from ?_
 refine d_k [1,2,6] [] 1 En7 fun ac8 En9 => ?_
 refine f_o ?_
 refine m_m 126 [.slice none 0 0, .bool false] En9 Hv5 fun ac11 wo12 bk10 En13 Hv14 => ?_
 refine d_e [1,2,3] [] En13 fun ac15 En16 => ?_
 refine then_normal ?_
 refine wp_seq ?_
 refine region_from ?_
 refine d_k [1,2,3,8,9] [] 2 En16 fun ac17 En18 => ?_
 refine f_o ?_
 refine m_l 0 En18 Hv14 fun ac19 En20 => ?_
 refine f_o ?_
 have Hv21 : Ev w [] wo12 [.box bk1 [.slice ab (List.length b) cb, .slice al (List.length xs) cl] 83, .box bk10 [.slice none 0 0, .bool false] 126, .vec none 0 1 (bys []) 5] := Ev.nil (sz := 1) (T := 5) Hv14
 refine c_l [1,2] (M := [.box bk10 [.slice none 0 0, .bool false] 126, .vec none 0 1 (bys []) 5]) En20 Hv21 (fun hM24 => dwlist_go _ bk10 none 0 [] false 1 (by omega) 0 255 (by omega) (by omega) ab cb b ((ib.ev Hv21).pick [1, 2] (by kernel_rfl)) (by first | omega | (simp only [List.length_nil, List.length_append, beN_len]; omega) | (simp only [u16F, beN_len, List.length_nil, List.length_append]; omega) | (simp only [wput_len, beN_len, List.length_nil, List.length_append]; omega) | (simp [wput_len, beN_len]; done) | (simp [wput_len, beN_len]; omega)) hM24) ?_
 rintro _ wo25 ⟨wa22, wc23, rfl, he26⟩
 refine ⟨_, _, [.box bk10 [.slice wa22 (List.length (dput 1 0 255 [] b)) wc23, .bool (false || dbad 1 0 255 (List.length b))] 126, .vec wa22 wc23 1 (bys (dput 1 0 255 [] b)) 5, .box bk1 [.slice ab (List.length b) cb, .slice al (List.length xs) cl] 83], rfl, he26, by kernel_rfl, fun ac28 En29 Hv30 => ?_⟩
 refine f_e ?_
 refine then_normal ?_
 refine wp_seq ?_
 refine region_from ?_
 refine d_k [1,2,3,12] [] 1 En29 fun ac31 En32 => ?_
 refine f_o ?_
 refine m_m 126 [.slice none 0 0, .bool false] En32 Hv30 fun ac34 wo35 bk33 En36 Hv37 => ?_
 refine d_e [1,2,3,4] [] En36 fun ac38 En39 => ?_
 refine then_normal ?_
 refine wp_seq ?_
 refine wp_seq ?_
 refine d_r [1,2,3,4,5] [] En39 fun ac40 En41 => ?_
 refine then_normal ?_
 refine wp_block ?_
 have Hv42 : Ev w [] wo35 [.box bk10 [.slice wa22 (List.length (dput 1 0 255 [] b)) wc23, .bool (false || dbad 1 0 255 (List.length b))] 126, .vec wa22 wc23 1 (bys (dput 1 0 255 [] b)) 5, .box bk1 [.slice ab (List.length b) cb, .slice al (List.length xs) cl] 83, .box bk33 [.slice none 0 0, .bool false] 126, .vec none 0 1 (bys []) 5] := Ev.nil (sz := 1) (T := 5) Hv37
 refine loop_m (fun ms43 ac wo => ∃ (i : Nat) (wa0 : Option Addr) (wc0 : Nat) (m0 : Bs) (bd0 : Bool), ms43 = (List.length xs + 1 - i : Nat) ∧ Env ac 42 [(1, pt bk1), (2, .slice none 0 0), (3, pt bk10), (4, pt bk33), (5, ni i)] ∧ Ev w [] wo [.box bk33 [.slice wa0 (List.length m0) wc0, .bool bd0] 126, .vec wa0 wc0 1 (bys m0) 5, .box bk10 [.slice wa22 (List.length (dput 1 0 255 [] b)) wc23, .bool (false || dbad 1 0 255 (List.length b))] 126, .vec wa22 wc23 1 (bys (dput 1 0 255 [] b)) 5, .box bk1 [.slice ab (List.length b) cb, .slice al (List.length xs) cl] 83] ∧ ((m0, bd0) = allM dcrF (List.take i (List.map (fun y : RCer => (y.1.l, List.map (fun y : RExt => (y.1, y.2.1.l)) y.2.1.l)) xs)))) ⟨_, 0, none, 0, [], false, rfl, En41.sb, Hv42.pk [3, 4, 0, 1, 2], rfl⟩ ?_
 rintro mm49 ac45 wo46 ⟨i, wa0, wc0, m0, bd0, rfl, En47, Hv48, hfo⟩
 refine wp_seq ?_
 refine wp_seq ?_
 have hzl := il.small
 refine region_from ?_
 refine d_k [1,2,3,4,5,14,15] [] 2 En47 fun ac50 En51 => ?_
 refine f_o ?_
 refine m_l 4 En51 Hv48 fun ac52 En53 => ?_
 refine d_e [1,2,3,4,5,18] [] En53 fun ac54 En55 => ?_
 refine then_normal ?_
 refine c_d (((i : Nat) : Int) < ((List.length xs : Nat) : Int)) En55 (fun hc56 => ?_) (fun hc56 => ?_)
 ·
  refine wp_skip ?_
  refine then_normal ?_
  refine wp_seq ?_
  refine wp_block ?_
  refine wp_seq ?_
  have hb57 : i < List.length xs := by omega
  obtain ⟨⟨⟨a_x59a, c_x59a, x59a⟩, ⟨a_x59b, c_x59b, x59b⟩, _⟩, hx58⟩ : ∃ x, (xs)[i]? = some x := ⟨_, List.getElem?_eq_getElem hb57⟩
  obtain ⟨i_x59a, i_x59b, _⟩ := il.each _ (List.mem_of_getElem? hx58)
  replace i_x59a : InB w [] a_x59a c_x59a x59a := i_x59a
  replace i_x59b : InS (fun p : (UInt16) × (Sl UInt8) × Unit => (fun n : UInt16 => [uv16 n]) p.1 ++ (fun p : (Sl UInt8) × Unit => (fun s : Sl UInt8 => s.f) p.1 ++ (fun _ : Unit => []) p.2) p.2) 32 (fun x : (UInt16) × (Sl UInt8) × Unit => (True ∧ (InB w [] x.2.1.a x.2.1.c x.2.1.l ∧ (True)))) w [] a_x59b c_x59b x59b := i_x59b
  have hn0 := hq0 (i + 1)
  rw [allM_take hx58] at hn0
  simp only [crF, wexF, wput_len] at hn0
  have hml : List.length m0 ≤ List.length (allM crF (List.take i (List.map (fun y : RCer => (y.1.l, List.map (fun y : RExt => (y.1, y.2.1.l)) y.2.1.l)) xs))).1 := by have h := allM_le dcrF_le (List.take i (List.map (fun y : RCer => (y.1.l, List.map (fun y : RExt => (y.1, y.2.1.l)) y.2.1.l)) xs)); rw [← hfo] at h; exact h
  have hd3 := dput_len 3 1 16777215 m0 x59a
  refine region_from ?_
  refine d_k [1,2,3,4,5,21,22] [] 2 En55 fun ac60 En61 => ?_
  refine f_o ?_
  refine m_l 4 En61 Hv48 fun ac62 En63 => ?_
  have hb66 : i < List.length xs := (by omega)
  obtain ⟨adr64, had65⟩ := some_of il.nz hb66
  refine d_k [1,2,3,4,5,21,23,24] [] 4 En63 fun ac67 En68 => ?_
  refine f_o ?_
  refine q_v (x := Instr.indexAt 81 (.slice al (List.length xs) cl) (ni i)) (v := .pointer (some (Addr.add adr64 (i * 2)))) En68 (Go.Dbr.run_indexsl (e := 196) (sz := 2) (j := i) (jo := i * 2) had65 (by kernel_rfl) (by kernel_rfl) (by omega) hb66 rfl _) fun ac69 En70 => ?_
  refine d_k [1,2,3,4,5,21,26] [] 6 En70 fun ac71 En72 => ?_
  refine f_o ?_
  refine op_loadf (d := some 27) (t := 23) (ad := adr64) (ao := al) (ys := List.flatMap fCer xs) (o := i * 2) (v := .slice a_x59a (List.length x59a) c_x59a) En72 (by kernel_rfl) rfl (il.ro.ev Hv48).reads had65 ((flat_get (sz := 2) (j := 0) (fun _ _ => rfl) hx58 (by decide)).trans rfl) (by kernel_rfl) ?_
  intro ac73 En74
  refine f_o ?_
  refine c_l [0,1] (M := [.box bk33 [.slice wa0 (List.length m0) wc0, .bool bd0] 126, .vec wa0 wc0 1 (bys m0) 5]) En74 Hv48 (fun hM77 => dwlist_go _ bk33 wa0 wc0 m0 bd0 3 (by omega) 1 16777215 (by omega) (by omega) a_x59a c_x59a x59a ((i_x59a.ev Hv48).pick [0, 1] (by kernel_rfl)) (by first | omega | (simp only [List.length_nil, List.length_append, beN_len]; omega) | (simp only [u16F, beN_len, List.length_nil, List.length_append]; omega) | (simp only [wput_len, beN_len, List.length_nil, List.length_append]; omega) | (simp [wput_len, beN_len]; done) | (simp [wput_len, beN_len]; omega)) hM77) ?_
  rintro _ wo78 ⟨wa75, wc76, rfl, he79⟩
  refine ⟨_, _, [.box bk33 [.slice wa75 (List.length (dput 3 1 16777215 m0 x59a)) wc76, .bool (bd0 || dbad 3 1 16777215 (List.length x59a))] 126, .vec wa75 wc76 1 (bys (dput 3 1 16777215 m0 x59a)) 5, .box bk10 [.slice wa22 (List.length (dput 1 0 255 [] b)) wc23, .bool (false || dbad 1 0 255 (List.length b))] 126, .vec wa22 wc23 1 (bys (dput 1 0 255 [] b)) 5, .box bk1 [.slice ab (List.length b) cb, .slice al (List.length xs) cl] 83], rfl, he79, by kernel_rfl, fun ac81 En82 Hv83 => ?_⟩
  refine f_e ?_
  refine then_normal ?_
  refine region_from ?_
  refine d_k [1,2,3,4,5,29,30] [] 2 En82 fun ac84 En85 => ?_
  refine f_o ?_
  refine m_l 4 En85 Hv83 fun ac86 En87 => ?_
  have hb90 : i < List.length xs := (by omega)
  obtain ⟨adr88, had89⟩ := some_of il.nz hb90
  refine d_k [1,2,3,4,5,29,31,32] [] 4 En87 fun ac91 En92 => ?_
  refine f_o ?_
  refine q_v (x := Instr.indexAt 81 (.slice al (List.length xs) cl) (ni i)) (v := .pointer (some (Addr.add adr88 (i * 2)))) En92 (Go.Dbr.run_indexsl (e := 196) (sz := 2) (j := i) (jo := i * 2) had89 (by kernel_rfl) (by kernel_rfl) (by omega) hb90 rfl _) fun ac93 En94 => ?_
  refine d_k [1,2,3,4,5,29,34] [] 6 En94 fun ac95 En96 => ?_
  refine f_o ?_
  refine op_loadf (d := some 35) (t := 36) (ad := adr88) (ao := al) (ys := List.flatMap fCer xs) (o := i * 2 + 1) (v := .slice a_x59b (List.length x59b) c_x59b) En96 (by kernel_rfl) (Deep.add_add _ _ _) (il.ro.ev Hv83).reads had89 ((flat_get (sz := 2) (j := 1) (fun _ _ => rfl) hx58 (by decide)).trans rfl) (by kernel_rfl) ?_
  intro ac97 En98
  refine f_o ?_
  refine c_l [0,1] (M := [.box bk33 [.slice wa75 (List.length (dput 3 1 16777215 m0 x59a)) wc76, .bool (bd0 || dbad 3 1 16777215 (List.length x59a))] 126, .vec wa75 wc76 1 (bys (dput 3 1 16777215 m0 x59a)) 5]) En98 Hv83 (fun hM101 => dwexts_go _ bk33 wa75 wc76 (dput 3 1 16777215 m0 x59a) (bd0 || dbad 3 1 16777215 (List.length x59a)) a_x59b c_x59b x59b (i_x59b.go Hv83 [0, 1] (by kernel_rfl) (fun _ h => ⟨h.1, (InB.ev h.2.1 Hv83).pick [0, 1] (by kernel_rfl), h.2.2⟩)) (by first | omega | (simp only [List.length_nil, List.length_append, beN_len]; omega) | (simp only [u16F, beN_len, List.length_nil, List.length_append]; omega) | (simp only [wput_len, beN_len, List.length_nil, List.length_append]; omega) | (simp [wput_len, beN_len]; done) | (simp [wput_len, beN_len]; omega)) hM101) ?_
  rintro _ wo102 ⟨wa99, wc100, rfl, he103⟩
  refine ⟨_, _, [.box bk33 [.slice wa99 (List.length ((wdexF (dput 3 1 16777215 m0 x59a, bd0 || dbad 3 1 16777215 (List.length x59a)) (List.map (fun y : RExt => (y.1, y.2.1.l)) x59b)).1)) wc100, .bool ((wdexF (dput 3 1 16777215 m0 x59a, bd0 || dbad 3 1 16777215 (List.length x59a)) (List.map (fun y : RExt => (y.1, y.2.1.l)) x59b)).2)] 126, .vec wa99 wc100 1 (bys ((wdexF (dput 3 1 16777215 m0 x59a, bd0 || dbad 3 1 16777215 (List.length x59a)) (List.map (fun y : RExt => (y.1, y.2.1.l)) x59b)).1)) 5, .box bk10 [.slice wa22 (List.length (dput 1 0 255 [] b)) wc23, .bool (false || dbad 1 0 255 (List.length b))] 126, .vec wa22 wc23 1 (bys (dput 1 0 255 [] b)) 5, .box bk1 [.slice ab (List.length b) cb, .slice al (List.length xs) cl] 83], rfl, he103, by kernel_rfl, fun ac105 En106 Hv107 => ?_⟩
  refine f_e ?_
  refine block_normal ?_
  refine then_normal ?_
  refine d_r [1,2,3,4,5] [(1, g_n (w_a i 1))] En106 fun ac108 En109 => ?_
  refine then_normal ?_
  refine ⟨_, ⟨i + 1, wa99, wc100, ((wdexF (dput 3 1 16777215 m0 x59a, bd0 || dbad 3 1 16777215 (List.length x59a)) (List.map (fun y : RExt => (y.1, y.2.1.l)) x59b)).1), ((wdexF (dput 3 1 16777215 m0 x59a, bd0 || dbad 3 1 16777215 (List.length x59a)) (List.map (fun y : RExt => (y.1, y.2.1.l)) x59b)).2), rfl, En109.sb, Hv107.pk [0, 1, 2, 3, 4], (by rw [allM_take hx58, ← hfo] <;> rfl)⟩, ?_⟩
  omega
 ·
  refine wp_exit ?_
  refine then_exit ?_
  refine then_exit ?_
  refine block_exit ?_
  refine then_normal ?_
  refine wp_seq ?_
  have hfe := allM_all (F := dcrF) (f := (fun y : RCer => (y.1.l, List.map (fun y : RExt => (y.1, y.2.1.l)) y.2.1.l))) (xs := xs) (i := i) (by omega)
  rw [← hfo] at hfe
  have ha := Nat.le_trans (allM_le dcrF_le (List.map (fun y : RCer => (y.1.l, List.map (fun y : RExt => (y.1, y.2.1.l)) y.2.1.l)) xs)) (allB_all hq0)
  rw [← hfe] at ha
  dsimp only at ha
  refine region_from ?_
  refine d_k [1,2,3,4,5,37,38] [] 2 En55 fun ac110 En111 => ?_
  refine f_o ?_
  refine c_l [2,3,0,1] (M := [.box bk10 [.slice wa22 (List.length (dput 1 0 255 [] b)) wc23, .bool (false || dbad 1 0 255 (List.length b))] 126, .vec wa22 wc23 1 (bys (dput 1 0 255 [] b)) 5, .box bk33 [.slice wa0 (List.length m0) wc0, .bool bd0] 126, .vec wa0 wc0 1 (bys m0) 5]) En111 Hv48 (fun hM114 => dpartw_go _ bk10 wa22 wc23 (dput 1 0 255 [] b) (false || dbad 1 0 255 (List.length b)) bk33 wa0 wc0 m0 bd0 3 (by omega) 0 (by omega) (by first | omega | (simp only [List.length_nil, List.length_append, beN_len]; omega) | (simp only [u16F, beN_len, List.length_nil, List.length_append]; omega) | (simp only [wput_len, beN_len, List.length_nil, List.length_append]; omega) | (simp [wput_len, beN_len]; done) | (simp [wput_len, beN_len]; omega)) hM114) ?_
  rintro _ wo115 ⟨wa112, wc113, rfl, he116⟩
  refine ⟨_, _, [.box bk10 [.slice wa112 (List.length (dput 3 0 16777215 (dput 1 0 255 [] b) m0)) wc113, .bool (((false || dbad 1 0 255 (List.length b)) || bd0) || dbad 3 0 16777215 (List.length m0))] 126, .vec wa112 wc113 1 (bys (dput 3 0 16777215 (dput 1 0 255 [] b) m0)) 5, .box bk33 [.slice wa0 (List.length m0) wc0, .bool bd0] 126, .vec wa0 wc0 1 (bys m0) 5, .box bk1 [.slice ab (List.length b) cb, .slice al (List.length xs) cl] 83], rfl, he116, by kernel_rfl, fun ac118 En119 Hv120 => ?_⟩
  refine f_e ?_
  refine then_normal ?_
  refine wp_seq ?_
  refine region_from ?_
  refine d_k [1,2,3,4,5,40] [] 1 En119 fun ac121 En122 => ?_
  refine f_o ?_
  refine c_l [0,1] (M := [.box bk10 [.slice wa112 (List.length (dput 3 0 16777215 (dput 1 0 255 [] b) m0)) wc113, .bool (((false || dbad 1 0 255 (List.length b)) || bd0) || dbad 3 0 16777215 (List.length m0))] 126, .vec wa112 wc113 1 (bys (dput 3 0 16777215 (dput 1 0 255 [] b) m0)) 5]) En122 Hv120 (fun hM125 => ddone_go _ bk10 wa112 wc113 (dput 3 0 16777215 (dput 1 0 255 [] b) m0) (((false || dbad 1 0 255 (List.length b)) || bd0) || dbad 3 0 16777215 (List.length m0)) hM125) ?_
  rintro _ wo126 ⟨da123, dc124, rfl, he127⟩
  refine ⟨_, _, [.vec da123 dc124 1 (bys (doneL (((false || dbad 1 0 255 (List.length b)) || bd0) || dbad 3 0 16777215 (List.length m0)) (dput 3 0 16777215 (dput 1 0 255 [] b) m0))) 5, .box bk33 [.slice wa0 (List.length m0) wc0, .bool bd0] 126, .vec wa0 wc0 1 (bys m0) 5, .box bk1 [.slice ab (List.length b) cb, .slice al (List.length xs) cl] 83], rfl, he127, by kernel_rfl, fun ac129 En130 Hv131 => ?_⟩
  refine d_e [1,2,3,4,5] [] En130 fun ac132 En133 => ?_
  refine then_normal ?_
  refine wp_ret ?_
  refine d_ret1 (t := 2) (v := .slice da123 (List.length (doneL (((false || dbad 1 0 255 (List.length b)) || bd0) || dbad 3 0 16777215 (List.length m0)) (dput 3 0 16777215 (dput 1 0 255 [] b) m0))) dc124) En133 (by kernel_rfl) (by kernel_rfl) ?_
  unfold dcertP dcertF
  rw [← hfe]
  exact ⟨da123, dc124, rfl, Hv131.pk [0]⟩

end Go.Proofs.Ytofecellbfhnjaa

/- Layer 17: tickets, certificates are compared. -/

namespace Go.Proofs.Ytofecellbfhnjaa
open Go.Dbr
set_option maxRecDepth 100000
set_option maxHeartbeats 2000000
set_option linter.unusedVariables false
set_option linter.unusedSimpArgs false

theorem tup5 {α β γ δ ε : Type} [BEq α] [BEq β] [BEq γ] [BEq δ] [BEq ε] [LawfulBEq α] [LawfulBEq β] [LawfulBEq γ] [LawfulBEq δ] [LawfulBEq ε] {a a' : α} {b b' : β} {c c' : γ} {d d' : δ} {x y : ε} (h1 : a = a') (h2 : b = b') (h3 : c = c') (h4 : d = d') : (x == y) = ((a, b, c, d, x) == (a', b', c', d', y)) := by
  subst h1 h2 h3 h4
  rw [Bool.eq_iff_iff, beq_iff_eq, beq_iff_eq]
  exact ⟨fun h => by rw [h], fun h => by simpa using h⟩
theorem tup_no {α : Type} [BEq α] [LawfulBEq α] {a b : α} (h : ¬ a = b) : false = (a == b) := (beq_false_of_ne h).symm
theorem tup_yes {α : Type} [BEq α] [LawfulBEq α] {a b : α} (h : a = b) : true = (a == b) := by rw [h, beq_self_eq_true]
theorem u32_eq {x y : UInt32} (h : ((UInt32.toNat x : Nat) : Int) = ((UInt32.toNat y : Nat) : Int)) : x = y := UInt32.toNat_inj.1 (by omega)

theorem sametic_go (w : World) (pa : UInt32) (pb : UInt32) (a_pc : Option Addr) (c_pc : Nat) (pc : List UInt8) (a_pd : Option Addr) (c_pd : Nat) (pd : List UInt8) (a_pe : Option Addr) (c_pe : Nat) (pe : List ((UInt16) × (Sl UInt8) × Unit)) (qa : UInt32) (qb : UInt32) (a_qc : Option Addr) (c_qc : Nat) (qc : List UInt8) (a_qd : Option Addr) (c_qd : Nat) (qd : List UInt8) (a_qe : Option Addr) (c_qe : Nat) (qe : List ((UInt16) × (Sl UInt8) × Unit)) (i_pc : InB w [] a_pc c_pc pc) (i_pd : InB w [] a_pd c_pd pd) (i_pe : InS (fun p : (UInt16) × (Sl UInt8) × Unit => (fun n : UInt16 => [uv16 n]) p.1 ++ (fun p : (Sl UInt8) × Unit => (fun s : Sl UInt8 => s.f) p.1 ++ (fun _ : Unit => []) p.2) p.2) 32 (fun x : (UInt16) × (Sl UInt8) × Unit => (True ∧ (InB w [] x.2.1.a x.2.1.c x.2.1.l ∧ (True)))) w [] a_pe c_pe pe) (i_qc : InB w [] a_qc c_qc qc) (i_qd : InB w [] a_qd c_qd qd) (i_qe : InS (fun p : (UInt16) × (Sl UInt8) × Unit => (fun n : UInt16 => [uv16 n]) p.1 ++ (fun p : (Sl UInt8) × Unit => (fun s : Sl UInt8 => s.f) p.1 ++ (fun _ : Unit => []) p.2) p.2) 32 (fun x : (UInt16) × (Sl UInt8) × Unit => (True ∧ (InB w [] x.2.1.a x.2.1.c x.2.1.l ∧ (True)))) w [] a_qe c_qe qe) : Calls Try.prog 88 #[.agg #[uv32 pa, uv32 pb, .slice a_pc (List.length pc) c_pc, .slice a_pd (List.length pd) c_pd, .slice a_pe (List.length pe) c_pe], .agg #[uv32 qa, uv32 qb, .slice a_qc (List.length qc) c_qc, .slice a_qd (List.length qd) c_qd, .slice a_qe (List.length qe) c_qe]] w fun e w' => e = .returned (.bool ((pa, pb, pc, pd, List.map (fun y : RExt => (y.1, y.2.1.l)) pe) == (qa, qb, qc, qd, List.map (fun y : RExt => (y.1, y.2.1.l)) qe))) ∧ Ev w [] w' [] := by
 refine d_0 [(0, .agg #[uv32 pa, uv32 pb, .slice a_pc (List.length pc) c_pc, .slice a_pd (List.length pd) c_pd, .slice a_pe (List.length pe) c_pe]), (1, .agg #[uv32 qa, uv32 qb, .slice a_qc (List.length qc) c_qc, .slice a_qd (List.length qd) c_qd, .slice a_qe (List.length qe) c_qe])] 42 Go.Proofs.Try.func88 Go.Proofs.Try.ntmps88 (Heap.nil _) fun act0 En0 Hv0 => ?_
 refine wp_seq ?_
 refine region_from ?_
 refine f_o ?_
 refine m_m 86 [uv32 pa, uv32 pb, .slice a_pc (List.length pc) c_pc, .slice a_pd (List.length pd) c_pd, .slice a_pe (List.length pe) c_pe] En0 Hv0 fun ac2 wo3 bk1 En4 Hv5 => ?_
 refine f_o ?_
 refine m_m 86 [uv32 qa, uv32 qb, .slice a_qc (List.length qc) c_qc, .slice a_qd (List.length qd) c_qd, .slice a_qe (List.length qe) c_qe] En4 Hv5 fun ac7 wo8 bk6 En9 Hv10 => ?_
 refine d_e [2,3,4] [] En9 fun ac11 En12 => ?_
 refine then_normal ?_
 refine wp_seq ?_
 refine region_from ?_
 refine d_k [2,3,4,5] [] 1 En12 fun ac13 En14 => ?_
 refine f_o ?_
 refine m_l 0 En14 Hv10 fun ac15 En16 => ?_
 refine d_k [2,3,4,6,7] [] 3 En16 fun ac17 En18 => ?_
 refine f_o ?_
 refine m_l 1 En18 Hv10 fun ac19 En20 => ?_
 refine d_k [2,3,4,10] [] 6 En20 fun ac21 En22 => ?_
 rcases Bool.eq_false_or_eq_true (((UInt32.toNat pa : Nat) : Int) == ((UInt32.toNat qa : Nat) : Int)) with hb23 | hb23
 ·
  have En24 := En22.fx (t := 10) (congrArg Value.bool hb23)
  have hp25 : ((UInt32.toNat pa : Nat) : Int) = ((UInt32.toNat qa : Nat) : Int) := eq_of_beq hb23
  refine d_k [2,3,4,10,11] [] 7 En24 fun ac26 En27 => ?_
  refine f_o ?_
  refine m_l 0 En27 Hv10 fun ac28 En29 => ?_
  refine d_k [2,3,4,10,12,13] [] 9 En29 fun ac30 En31 => ?_
  refine f_o ?_
  refine m_l 1 En31 Hv10 fun ac32 En33 => ?_
  refine d_k [2,3,4,17] [] 13 En33 fun ac34 En35 => ?_
  rcases Bool.eq_false_or_eq_true (((UInt32.toNat pb : Nat) : Int) == ((UInt32.toNat qb : Nat) : Int)) with hb36 | hb36
  ·
   have En37 := En35.fx (t := 17) (congrArg Value.bool hb36)
   have hp38 : ((UInt32.toNat pb : Nat) : Int) = ((UInt32.toNat qb : Nat) : Int) := eq_of_beq hb36
   refine d_k [2,3,4,17,18] [] 14 En37 fun ac39 En40 => ?_
   refine f_o ?_
   refine m_l 0 En40 Hv10 fun ac41 En42 => ?_
   refine f_o ?_
   refine op_str (d := some 20) (src := 23) (dst := 9) (e := 5) (ao := a_pc) (cap := c_pc) (p := List.length pc) (bs := pc) En42 (by kernel_rfl) rfl (by kernel_rfl) (by kernel_rfl) (by kernel_rfl) (i_pc.ev Hv10).reads i_pc.nz ?_
   intro ac43 En44
   refine d_k [2,3,4,17,20,21] [] 17 En44 fun ac45 En46 => ?_
   refine f_o ?_
   refine m_l 1 En46 Hv10 fun ac47 En48 => ?_
   refine f_o ?_
   refine op_str (d := some 23) (src := 23) (dst := 9) (e := 5) (ao := a_qc) (cap := c_qc) (p := List.length qc) (bs := qc) En48 (by kernel_rfl) rfl (by kernel_rfl) (by kernel_rfl) (by kernel_rfl) (i_qc.ev Hv10).reads i_qc.nz ?_
   intro ac49 En50
   refine d_k [2,3,4,26] [(19, g_v (show (.bool (ByteArray.toList (bstr pc) == ByteArray.toList (bstr qc)) : Value) = .bool (pc == qc) by rw [Go.Dbr.bstr_eq pc qc] <;> rfl))] 22 En50 fun ac51 En52 => ?_
   rcases Bool.eq_false_or_eq_true (pc == qc) with hb53 | hb53
   ·
    have En54 := En52.fx (t := 26) (congrArg Value.bool hb53)
    have hp55 : pc = qc := eq_of_beq hb53
    refine d_k [2,3,4,26,27] [] 23 En54 fun ac56 En57 => ?_
    refine f_o ?_
    refine m_l 0 En57 Hv10 fun ac58 En59 => ?_
    refine f_o ?_
    refine op_str (d := some 29) (src := 23) (dst := 9) (e := 5) (ao := a_pd) (cap := c_pd) (p := List.length pd) (bs := pd) En59 (by kernel_rfl) rfl (by kernel_rfl) (by kernel_rfl) (by kernel_rfl) (i_pd.ev Hv10).reads i_pd.nz ?_
    intro ac60 En61
    refine d_k [2,3,4,26,29,30] [] 26 En61 fun ac62 En63 => ?_
    refine f_o ?_
    refine m_l 1 En63 Hv10 fun ac64 En65 => ?_
    refine f_o ?_
    refine op_str (d := some 32) (src := 23) (dst := 9) (e := 5) (ao := a_qd) (cap := c_qd) (p := List.length qd) (bs := qd) En65 (by kernel_rfl) rfl (by kernel_rfl) (by kernel_rfl) (by kernel_rfl) (i_qd.ev Hv10).reads i_qd.nz ?_
    intro ac66 En67
    refine d_k [2,3,4,35] [(28, g_v (show (.bool (ByteArray.toList (bstr pd) == ByteArray.toList (bstr qd)) : Value) = .bool (pd == qd) by rw [Go.Dbr.bstr_eq pd qd] <;> rfl))] 31 En67 fun ac68 En69 => ?_
    rcases Bool.eq_false_or_eq_true (pd == qd) with hb70 | hb70
    ·
     have En71 := En69.fx (t := 35) (congrArg Value.bool hb70)
     have hp72 : pd = qd := eq_of_beq hb70
     refine d_k [3,4,35,36] [] 32 En71 fun ac73 En74 => ?_
     refine f_o ?_
     refine m_l 0 En74 Hv10 fun ac75 En76 => ?_
     refine d_k [4,35,37,38] [] 34 En76 fun ac77 En78 => ?_
     refine f_o ?_
     refine m_l 1 En78 Hv10 fun ac79 En80 => ?_
     refine f_o ?_
     refine c_p En80 Hv10 (sameext_go _ a_pe c_pe pe (i_pe.go Hv10 [] (by kernel_rfl) (fun _ h => ⟨h.1, (InB.ev h.2.1 Hv10).pick [] (by kernel_rfl), h.2.2⟩)) a_qe c_qe qe (i_qe.go Hv10 [] (by kernel_rfl) (fun _ h => ⟨h.1, (InB.ev h.2.1 Hv10).pick [] (by kernel_rfl), h.2.2⟩))) fun ac85 wo82 En86 Hv87 => ?_
     refine d_e [4] [] En86 fun ac88 En89 => ?_
     refine then_normal ?_
     refine wp_ret ?_
     refine d_ret1 (t := 4) (v := .bool (List.map (fun y : RExt => (y.1, y.2.1.l)) pe == List.map (fun y : RExt => (y.1, y.2.1.l)) qe)) En89 (by kernel_rfl) (by kernel_rfl) ?_
     exact ⟨congrArg (fun b => Ending.returned (Value.bool b)) (tup5 (u32_eq (by assumption)) (u32_eq (by assumption)) (by assumption) (by assumption)), Hv87.pk []⟩
    ·
     have En90 := En69.fx (t := 35) (congrArg Value.bool hb70)
     have hp91 : ¬ (pd = qd) := ne_of_beq_false hb70
     refine d_e [4] [] En90 fun ac92 En93 => ?_
     refine then_normal ?_
     refine wp_ret ?_
     refine d_ret1 (t := 4) (v := .bool false) En93 (by kernel_rfl) (by kernel_rfl) ?_
     refine ⟨congrArg (fun b => Ending.returned (Value.bool b)) (tup_no fun g => ?_), Hv10.pk []⟩
     simp only [Prod.mk.injEq] at g
     obtain ⟨g1, g2, g3, g4, g5⟩ := g
     first | exact absurd (congrArg (fun z : UInt32 => ((UInt32.toNat z : Nat) : Int)) g1) (by assumption) | exact absurd (congrArg (fun z : UInt32 => ((UInt32.toNat z : Nat) : Int)) g2) (by assumption) | exact absurd g3 (by assumption) | exact absurd g4 (by assumption)
   ·
    have En94 := En52.fx (t := 26) (congrArg Value.bool hb53)
    have hp95 : ¬ (pc = qc) := ne_of_beq_false hb53
    refine d_e [4] [] En94 fun ac96 En97 => ?_
    refine then_normal ?_
    refine wp_ret ?_
    refine d_ret1 (t := 4) (v := .bool false) En97 (by kernel_rfl) (by kernel_rfl) ?_
    refine ⟨congrArg (fun b => Ending.returned (Value.bool b)) (tup_no fun g => ?_), Hv10.pk []⟩
    simp only [Prod.mk.injEq] at g
    obtain ⟨g1, g2, g3, g4, g5⟩ := g
    first | exact absurd (congrArg (fun z : UInt32 => ((UInt32.toNat z : Nat) : Int)) g1) (by assumption) | exact absurd (congrArg (fun z : UInt32 => ((UInt32.toNat z : Nat) : Int)) g2) (by assumption) | exact absurd g3 (by assumption) | exact absurd g4 (by assumption)
  ·
   have En98 := En35.fx (t := 17) (congrArg Value.bool hb36)
   have hp99 : ¬ (((UInt32.toNat pb : Nat) : Int) = ((UInt32.toNat qb : Nat) : Int)) := ne_of_beq_false hb36
   refine d_e [4] [] En98 fun ac100 En101 => ?_
   refine then_normal ?_
   refine wp_ret ?_
   refine d_ret1 (t := 4) (v := .bool false) En101 (by kernel_rfl) (by kernel_rfl) ?_
   refine ⟨congrArg (fun b => Ending.returned (Value.bool b)) (tup_no fun g => ?_), Hv10.pk []⟩
   simp only [Prod.mk.injEq] at g
   obtain ⟨g1, g2, g3, g4, g5⟩ := g
   first | exact absurd (congrArg (fun z : UInt32 => ((UInt32.toNat z : Nat) : Int)) g1) (by assumption) | exact absurd (congrArg (fun z : UInt32 => ((UInt32.toNat z : Nat) : Int)) g2) (by assumption) | exact absurd g3 (by assumption) | exact absurd g4 (by assumption)
 ·
  have En102 := En22.fx (t := 10) (congrArg Value.bool hb23)
  have hp103 : ¬ (((UInt32.toNat pa : Nat) : Int) = ((UInt32.toNat qa : Nat) : Int)) := ne_of_beq_false hb23
  refine d_e [4] [] En102 fun ac104 En105 => ?_
  refine then_normal ?_
  refine wp_ret ?_
  refine d_ret1 (t := 4) (v := .bool false) En105 (by kernel_rfl) (by kernel_rfl) ?_
  refine ⟨congrArg (fun b => Ending.returned (Value.bool b)) (tup_no fun g => ?_), Hv10.pk []⟩
  simp only [Prod.mk.injEq] at g
  obtain ⟨g1, g2, g3, g4, g5⟩ := g
  first | exact absurd (congrArg (fun z : UInt32 => ((UInt32.toNat z : Nat) : Int)) g1) (by assumption) | exact absurd (congrArg (fun z : UInt32 => ((UInt32.toNat z : Nat) : Int)) g2) (by assumption) | exact absurd g3 (by assumption) | exact absurd g4 (by assumption)

theorem samecert_go (w : World) (a_pa : Option Addr) (c_pa : Nat) (pa : List UInt8) (a_pb : Option Addr) (c_pb : Nat) (pb : List RCer) (a_qa : Option Addr) (c_qa : Nat) (qa : List UInt8) (a_qb : Option Addr) (c_qb : Nat) (qb : List RCer) (i_pa : InB w [] a_pa c_pa pa) (i_pb : InS fCer 48 (fun x : RCer => (InB w [] x.1.a x.1.c x.1.l ∧ (InS (fun p : (UInt16) × (Sl UInt8) × Unit => (fun n : UInt16 => [uv16 n]) p.1 ++ (fun p : (Sl UInt8) × Unit => (fun s : Sl UInt8 => s.f) p.1 ++ (fun _ : Unit => []) p.2) p.2) 32 (fun x : (UInt16) × (Sl UInt8) × Unit => (True ∧ (InB w [] x.2.1.a x.2.1.c x.2.1.l ∧ (True)))) w [] x.2.1.a x.2.1.c x.2.1.l ∧ (True)))) w [] a_pb c_pb pb) (i_qa : InB w [] a_qa c_qa qa) (i_qb : InS fCer 48 (fun x : RCer => (InB w [] x.1.a x.1.c x.1.l ∧ (InS (fun p : (UInt16) × (Sl UInt8) × Unit => (fun n : UInt16 => [uv16 n]) p.1 ++ (fun p : (Sl UInt8) × Unit => (fun s : Sl UInt8 => s.f) p.1 ++ (fun _ : Unit => []) p.2) p.2) 32 (fun x : (UInt16) × (Sl UInt8) × Unit => (True ∧ (InB w [] x.2.1.a x.2.1.c x.2.1.l ∧ (True)))) w [] x.2.1.a x.2.1.c x.2.1.l ∧ (True)))) w [] a_qb c_qb qb) : Calls Try.prog 81 #[.agg #[.slice a_pa (List.length pa) c_pa, .slice a_pb (List.length pb) c_pb], .agg #[.slice a_qa (List.length qa) c_qa, .slice a_qb (List.length qb) c_qb]] w fun e w' => e = .returned (.bool ((pa, List.map (fun y : RCer => (y.1.l, List.map (fun y : RExt => (y.1, y.2.1.l)) y.2.1.l)) pb) == (qa, List.map (fun y : RCer => (y.1.l, List.map (fun y : RExt => (y.1, y.2.1.l)) y.2.1.l)) qb))) ∧ Ev w [] w' [] := by
 have hsp := i_pb.small
 refine d_0 [(0, .agg #[.slice a_pa (List.length pa) c_pa, .slice a_pb (List.length pb) c_pb]), (1, .agg #[.slice a_qa (List.length qa) c_qa, .slice a_qb (List.length qb) c_qb])] 62 Go.Proofs.Try.func81 Go.Proofs.Try.ntmps81 (Heap.nil _) fun act0 En0 Hv0 => ?_
 refine wp_seq ?_
 refine region_from ?_
 refine f_o ?_
 refine m_m 83 [.slice a_pa (List.length pa) c_pa, .slice a_pb (List.length pb) c_pb] En0 Hv0 fun ac2 wo3 bk1 En4 Hv5 => ?_
 refine f_o ?_
 refine m_m 83 [.slice a_qa (List.length qa) c_qa, .slice a_qb (List.length qb) c_qb] En4 Hv5 fun ac7 wo8 bk6 En9 Hv10 => ?_
 refine d_e [2,3,4] [] En9 fun ac11 En12 => ?_
 refine then_normal ?_
 refine wp_seq ?_
 refine wp_seq ?_
 refine region_from ?_
 refine d_k [2,3,4,7] [] 1 En12 fun ac13 En14 => ?_
 refine f_o ?_
 refine m_l 0 En14 Hv10 fun ac15 En16 => ?_
 refine f_o ?_
 refine op_str (d := some 9) (src := 23) (dst := 9) (e := 5) (ao := a_pa) (cap := c_pa) (p := List.length pa) (bs := pa) En16 (by kernel_rfl) rfl (by kernel_rfl) (by kernel_rfl) (by kernel_rfl) (i_pa.ev Hv10).reads i_pa.nz ?_
 intro ac17 En18
 refine d_k [2,3,4,9,10] [] 4 En18 fun ac19 En20 => ?_
 refine f_o ?_
 refine m_l 1 En20 Hv10 fun ac21 En22 => ?_
 refine f_o ?_
 refine op_str (d := some 12) (src := 23) (dst := 9) (e := 5) (ao := a_qa) (cap := c_qa) (p := List.length qa) (bs := qa) En22 (by kernel_rfl) rfl (by kernel_rfl) (by kernel_rfl) (by kernel_rfl) (i_qa.ev Hv10).reads i_qa.nz ?_
 intro ac23 En24
 refine d_k [2,3,4,14] [(6, g_v (show (.bool (!(ByteArray.toList (bstr pa) == ByteArray.toList (bstr qa))) : Value) = .bool (!(pa == qa)) by rw [Go.Dbr.bstr_eq pa qa] <;> rfl))] 8 En24 fun ac25 En26 => ?_
 rcases Bool.eq_false_or_eq_true (!(pa == qa)) with hb27 | hb27
 ·
  have En28 := En26.fx (t := 14) (congrArg Value.bool hb27)
  have hp29 : pa ≠ qa := by simpa using hb27
  refine d_e [2,3,4,22] [] En28 fun ac30 En31 => ?_
  refine then_normal ?_
  refine c_t En31 ?_
  refine d_s [2,3,4] [] En31 fun ac32 En33 => ?_
  refine wp_ret ?_
  refine then_ret ?_
  refine d_ret1 (t := 4) (v := .bool false) En33 (by kernel_rfl) (by kernel_rfl) ?_
  refine ⟨congrArg (fun b => Ending.returned (Value.bool b)) (tup_no fun g => ?_), Hv10.pk []⟩
  simp only [Prod.mk.injEq] at g
  first | exact absurd g.1 (by assumption) | exact absurd (congrArg List.length g.2) (by rw [List.length_map, List.length_map]; omega)
 ·
  have En34 := En26.fx (t := 14) (congrArg Value.bool hb27)
  have hp35 : ¬ (pa ≠ qa) := by simpa using hb27
  refine d_k [2,3,4,14,15] [] 9 En34 fun ac36 En37 => ?_
  refine f_o ?_
  refine m_l 0 En37 Hv10 fun ac38 En39 => ?_
  refine d_k [2,3,4,14,17,18] [] 12 En39 fun ac40 En41 => ?_
  refine f_o ?_
  refine m_l 1 En41 Hv10 fun ac42 En43 => ?_
  refine d_e [2,3,4,22] [] En43 fun ac44 En45 => ?_
  refine then_normal ?_
  refine c_n ((List.length pb : Nat) : Int) ((List.length qb : Nat) : Int) En45 (fun hc46 => ?_) (fun hc46 => ?_)
  ·
   refine d_s [2,3,4] [] En45 fun ac47 En48 => ?_
   refine wp_ret ?_
   refine then_ret ?_
   refine d_ret1 (t := 4) (v := .bool false) En48 (by kernel_rfl) (by kernel_rfl) ?_
   refine ⟨congrArg (fun b => Ending.returned (Value.bool b)) (tup_no fun g => ?_), Hv10.pk []⟩
   simp only [Prod.mk.injEq] at g
   first | exact absurd g.1 (by assumption) | exact absurd (congrArg List.length g.2) (by rw [List.length_map, List.length_map]; omega)
  ·
   refine wp_skip ?_
   refine then_normal ?_
   refine wp_seq ?_
   refine d_s [2,3,4,5] [] En45 fun ac49 En50 => ?_
   refine wp_block ?_
   refine loop_m (fun ms51 ac wo => ∃ (i : Nat), ms51 = (List.length pb + 1 - i : Nat) ∧ Env ac 62 [(2, pt bk1), (3, pt bk6), (5, ni i)] ∧ Ev w [] wo [.box bk1 [.slice a_pa (List.length pa) c_pa, .slice a_pb (List.length pb) c_pb] 83, .box bk6 [.slice a_qa (List.length qa) c_qa, .slice a_qb (List.length qb) c_qb] 83] ∧ (List.take i (List.map (fun y : RCer => (y.1.l, List.map (fun y : RExt => (y.1, y.2.1.l)) y.2.1.l)) pb) = List.take i (List.map (fun y : RCer => (y.1.l, List.map (fun y : RExt => (y.1, y.2.1.l)) y.2.1.l)) qb))) ⟨_, 0, rfl, En50.sb, Hv10.pk [0, 1], rfl⟩ ?_
   rintro mm57 ac53 wo54 ⟨i, rfl, En55, Hv56, hp⟩
   refine wp_seq ?_
   refine wp_seq ?_
   refine region_from ?_
   refine d_k [2,3,5,23,24] [] 2 En55 fun ac58 En59 => ?_
   refine f_o ?_
   refine m_l 0 En59 Hv56 fun ac60 En61 => ?_
   refine d_e [2,3,5,27] [] En61 fun ac62 En63 => ?_
   refine then_normal ?_
   refine c_d (((i : Nat) : Int) < ((List.length pb : Nat) : Int)) En63 (fun hc64 => ?_) (fun hc64 => ?_)
   ·
    refine wp_skip ?_
    refine then_normal ?_
    refine wp_seq ?_
    refine wp_block ?_
    refine wp_seq ?_
    have hb65 : i < List.length pb := by omega
    obtain ⟨⟨⟨a_x67a, c_x67a, x67a⟩, ⟨a_x67b, c_x67b, x67b⟩, _⟩, hx66⟩ : ∃ x, (pb)[i]? = some x := ⟨_, List.getElem?_eq_getElem hb65⟩
    obtain ⟨i_x67a, i_x67b, _⟩ := i_pb.each _ (List.mem_of_getElem? hx66)
    replace i_x67a : InB w [] a_x67a c_x67a x67a := i_x67a
    replace i_x67b : InS (fun p : (UInt16) × (Sl UInt8) × Unit => (fun n : UInt16 => [uv16 n]) p.1 ++ (fun p : (Sl UInt8) × Unit => (fun s : Sl UInt8 => s.f) p.1 ++ (fun _ : Unit => []) p.2) p.2) 32 (fun x : (UInt16) × (Sl UInt8) × Unit => (True ∧ (InB w [] x.2.1.a x.2.1.c x.2.1.l ∧ (True)))) w [] a_x67b c_x67b x67b := i_x67b
    obtain ⟨adp, hadp⟩ := some_of i_pb.nz (show i < List.length pb by omega)
    have hb68 : i < List.length qb := by omega
    obtain ⟨⟨⟨a_x70a, c_x70a, x70a⟩, ⟨a_x70b, c_x70b, x70b⟩, _⟩, hx69⟩ : ∃ x, (qb)[i]? = some x := ⟨_, List.getElem?_eq_getElem hb68⟩
    obtain ⟨i_x70a, i_x70b, _⟩ := i_qb.each _ (List.mem_of_getElem? hx69)
    replace i_x70a : InB w [] a_x70a c_x70a x70a := i_x70a
    replace i_x70b : InS (fun p : (UInt16) × (Sl UInt8) × Unit => (fun n : UInt16 => [uv16 n]) p.1 ++ (fun p : (Sl UInt8) × Unit => (fun s : Sl UInt8 => s.f) p.1 ++ (fun _ : Unit => []) p.2) p.2) 32 (fun x : (UInt16) × (Sl UInt8) × Unit => (True ∧ (InB w [] x.2.1.a x.2.1.c x.2.1.l ∧ (True)))) w [] a_x70b c_x70b x70b := i_x70b
    obtain ⟨adq, hadq⟩ := some_of i_qb.nz (show i < List.length qb by omega)
    refine r_c (fun ac wo => Env ac 62 [(2, pt bk1), (3, pt bk6), (5, ni i), (6, .bool (List.map (fun y : RExt => (y.1, y.2.1.l)) x67b == List.map (fun y : RExt => (y.1, y.2.1.l)) x70b))] ∧ Ev w [] wo [.box bk1 [.slice a_pa (List.length pa) c_pa, .slice a_pb (List.length pb) c_pb] 83, .box bk6 [.slice a_qa (List.length qa) c_qa, .slice a_qb (List.length qb) c_qb] 83]) ?_ ?_
    ·
     refine s_g0 [(2, pt bk1), (3, pt bk6), (5, ni i)] [0,1,2,3,4,5,6,7,8,9,10,11,12,13] [(6, .bool (List.map (fun y : RExt => (y.1, y.2.1.l)) x67b == List.map (fun y : RExt => (y.1, y.2.1.l)) x70b)), (30, .pointer (some ⟨bk1, 1, none⟩)), (31, .slice a_pb (List.length pb) c_pb), (32, ni i), (33, .pointer (some (Addr.add adp (i * 2)))), (34, .pointer (some (Addr.add (Addr.add adp (i * 2)) 1))), (35, .slice a_x67b (List.length x67b) c_x67b), (36, .pointer (some ⟨bk6, 1, none⟩)), (37, .slice a_qb (List.length qb) c_qb), (38, ni i), (39, .pointer (some (Addr.add adq (i * 2)))), (40, .pointer (some (Addr.add (Addr.add adq (i * 2)) 1))), (41, .slice a_x70b (List.length x70b) c_x70b), (42, .bool (List.map (fun y : RExt => (y.1, y.2.1.l)) x67b == List.map (fun y : RExt => (y.1, y.2.1.l)) x70b))] 0 [(2, pt bk1), (3, pt bk6), (5, ni i), (6, .bool (List.map (fun y : RExt => (y.1, y.2.1.l)) x67b == List.map (fun y : RExt => (y.1, y.2.1.l)) x70b))] (En63.sb) (Hv56.trans (Ev.drew Hv56.heap)) ?_ fun ac128 wo129 En130 Hv131 => ?_
     ·
      refine s_p [] ?_
      refine s_l 0 ?_
      refine s_p [] ?_
      have hb78 : i < List.length pb := (by omega)
      refine s_c (fun Mx79 ac80 wo81 En82 Hv83 => ?_) ?_
      ·
       refine q_v (x := Instr.indexAt 81 (.slice a_pb (List.length pb) c_pb) (ni i)) (v := .pointer (some (Addr.add adp (i * 2)))) En82 (Go.Dbr.run_indexsl (e := 196) (sz := 2) (j := i) (jo := i * 2) hadp (by kernel_rfl) (by kernel_rfl) (by omega) hb78 rfl _) fun ac84 En85 => ?_
       exact s_e En85 Hv83
      refine s_p [] ?_
      refine s_c (fun Mx86 ac87 wo88 En89 Hv90 => ?_) ?_
      ·
       refine op_loadf (d := some 35) (t := 36) (ad := adp) (ao := a_pb) (ys := List.flatMap fCer pb) (o := i * 2 + 1) (v := .slice a_x67b (List.length x67b) c_x67b) En89 (by kernel_rfl) (Deep.add_add _ _ _) (i_pb.ro.ev Hv90).reads hadp ((flat_get (sz := 2) (j := 1) (fun _ _ => rfl) hx66 (by decide)).trans rfl) (by kernel_rfl) ?_
       intro ac91 En92
       exact s_e En92 Hv90
      refine s_p [] ?_
      refine s_l 1 ?_
      refine s_p [] ?_
      have hb100 : i < List.length qb := (by omega)
      refine s_c (fun Mx101 ac102 wo103 En104 Hv105 => ?_) ?_
      ·
       refine q_v (x := Instr.indexAt 81 (.slice a_qb (List.length qb) c_qb) (ni i)) (v := .pointer (some (Addr.add adq (i * 2)))) En104 (Go.Dbr.run_indexsl (e := 196) (sz := 2) (j := i) (jo := i * 2) hadq (by kernel_rfl) (by kernel_rfl) (by omega) hb100 rfl _) fun ac106 En107 => ?_
       exact s_e En107 Hv105
      refine s_p [] ?_
      refine s_c (fun Mx108 ac109 wo110 En111 Hv112 => ?_) ?_
      ·
       refine op_loadf (d := some 41) (t := 36) (ad := adq) (ao := a_qb) (ys := List.flatMap fCer qb) (o := i * 2 + 1) (v := .slice a_x70b (List.length x70b) c_x70b) En111 (by kernel_rfl) (Deep.add_add _ _ _) (i_qb.ro.ev Hv112).reads hadq ((flat_get (sz := 2) (j := 1) (fun _ _ => rfl) hx69 (by decide)).trans rfl) (by kernel_rfl) ?_
       intro ac113 En114
       exact s_e En114 Hv112
      refine s_c (fun Mx115 ac116 wo117 En118 Hv119 => ?_) ?_
      ·
       refine c_p En118 Hv119 (sameext_go _ a_x67b c_x67b x67b (i_x67b.go Hv119 [] (by kernel_rfl) (fun _ h => ⟨h.1, (InB.ev h.2.1 Hv119).pick [] (by kernel_rfl), h.2.2⟩)) a_x70b c_x70b x70b (i_x70b.go Hv119 [] (by kernel_rfl) (fun _ h => ⟨h.1, (InB.ev h.2.1 Hv119).pick [] (by kernel_rfl), h.2.2⟩))) fun ac124 wo125 En126 Hv127 => ?_
       exact s_e En126 Hv127
      refine s_p [] ?_
      exact s_n
     exact a_e ⟨En130.sb, Hv131.pk [0, 1]⟩
    rintro ac132 wo133 ⟨En134, Hv135⟩
    refine then_normal ?_
    refine wp_seq ?_
    rcases Bool.eq_false_or_eq_true (!(List.map (fun y : RExt => (y.1, y.2.1.l)) x67b == List.map (fun y : RExt => (y.1, y.2.1.l)) x70b)) with hb136 | hb136
    ·
     have hb136p : ¬ (List.map (fun y : RExt => (y.1, y.2.1.l)) x67b = List.map (fun y : RExt => (y.1, y.2.1.l)) x70b) := by simpa using hb136
     refine r_c (fun ac wo => Env ac 62 [(2, pt bk1), (3, pt bk6), (5, ni i), (61, .bool true)] ∧ Ev w [] wo [.box bk1 [.slice a_pa (List.length pa) c_pa, .slice a_pb (List.length pb) c_pb] 83, .box bk6 [.slice a_qa (List.length qa) c_qa, .slice a_qb (List.length qb) c_qb] 83]) ?_ ?_
     ·
      refine draw_any (by kernel_rfl) 19 (by kernel_rfl) ?_
      have wo137 := Hv135.trans (Ev.drew Hv135.heap)
      refine q_a [0,1,2] [] 16 En134 fun ac144 En145 => ?_
      have En146 := En145.fx (t := 44) (congrArg Value.bool hb136)
      have En147 := En146.fx (t := 45) (congrArg Value.bool hb136)
      refine q_a [3,4,5,6,7,8,9,10,11,12,13,14,15,16,17,18] [] 0 En147 fun ac148 En149 => ?_
      exact a_e ⟨En149.sb, wo137.pk [0, 1]⟩
     rintro ac150 wo151 ⟨En152, Hv153⟩
     refine then_normal ?_
     refine c_t En152 ?_
     refine d_s [2,3,4,5] [] En152 fun ac154 En155 => ?_
     refine wp_ret ?_
     refine block_ret ?_
     refine then_ret ?_
     refine then_ret ?_
     refine block_ret ?_
     refine then_ret ?_
     refine d_ret1 (t := 4) (v := .bool false) En155 (by kernel_rfl) (by kernel_rfl) ?_
     refine ⟨congrArg (fun b => Ending.returned (Value.bool b)) (tup_no fun g => ?_), Hv153.pk []⟩
     simp only [Prod.mk.injEq] at g
     have g2 := congrArg (fun l => l[i]?) g.2
     simp only [List.getElem?_map, hx66, hx69, Option.map_some, Option.some.injEq, Prod.mk.injEq] at g2
     first | exact absurd g2.1 (by assumption) | exact absurd g2.2 (by assumption)
    ·
     have hb136p : List.map (fun y : RExt => (y.1, y.2.1.l)) x67b = List.map (fun y : RExt => (y.1, y.2.1.l)) x70b := by simpa using hb136
     refine r_c (fun ac wo => Env ac 62 [(2, pt bk1), (3, pt bk6), (5, ni i), (61, .bool (!(x67a == x70a)))] ∧ Ev w [] wo [.box bk1 [.slice a_pa (List.length pa) c_pa, .slice a_pb (List.length pb) c_pb] 83, .box bk6 [.slice a_qa (List.length qa) c_qa, .slice a_qb (List.length qb) c_qb] 83]) ?_ ?_
     ·
      refine h_s (fun wv => Ev w [] wv [.box bk1 [.slice a_pa (List.length pa) c_pa, .slice a_pb (List.length pb) c_pb] 83, .box bk6 [.slice a_qa (List.length qa) c_qa, .slice a_qb (List.length qb) c_qb] 83]) [] 19 ?_
      have wo156 := Hv135.trans (Ev.drew Hv135.heap)
      refine q_s [0,1,2] [] 16 En134 (wo156.pk [0, 1]) fun ac343 En344 => ?_
      have En345 := En344.fx (t := 44) (congrArg Value.bool hb136)
      have En346 := En345.fx (t := 45) (congrArg Value.bool hb136)
      refine q_s [3] [] 15 En346 (wo156.pk [0, 1]) fun ac347 En348 => ?_
      refine q_l 0 4 En348 (wo156.pk [0, 1]) fun ac349 En350 => ?_
      have hb353 : i < List.length pb := (by omega)
      refine q_s [5] [] 13 En350 (wo156.pk [0, 1]) fun ac354 En355 => ?_
      refine q_f 6 (s := Instr.indexAt 81 (.slice a_pb (List.length pb) c_pb) (ni i)) (v := .pointer (some (Addr.add adp (i * 2)))) En355 (fun _ => Go.Dbr.run_indexsl (e := 196) (sz := 2) (j := i) (jo := i * 2) hadp (by kernel_rfl) (by kernel_rfl) (by omega) hb353 rfl _) (fun _ => wo156.pk [0, 1]) fun ac356 En357 => ?_
      refine q_s [7] [] 11 En357 (wo156.pk [0, 1]) fun ac358 En359 => ?_
      refine q_r 8 (s := Instr.loadAt 23 (.pointer (some (Addr.add adp (i * 2))))) (v := .slice a_x67a (List.length x67a) c_x67a) En359 (fun w hS => run_loadel (ad := adp) (o := i * 2) rfl (i_pb.ro.ev hS).reads hadp ((flat_get (sz := 2) (j := 0) (fun _ _ => rfl) hx66 (by decide)).trans rfl) (by kernel_rfl)) (wo156.pk [0, 1]) fun ac360 En361 => ?_
      refine q_r 9 (s := convert 23 9 (.slice a_x67a (List.length x67a) c_x67a)) (v := .string (bstr x67a)) En361 (fun w hS => run_str2 (e := 5) (bs := x67a) rfl (by kernel_rfl) (by kernel_rfl) (by kernel_rfl) (i_x67a.ev hS).reads i_x67a.nz) (wo156.pk [0, 1]) fun ac362 En363 => ?_
      refine q_s [10] [] 8 En363 (wo156.pk [0, 1]) fun ac364 En365 => ?_
      refine q_l 1 11 En365 (wo156.pk [0, 1]) fun ac366 En367 => ?_
      have hb370 : i < List.length qb := (by omega)
      refine q_s [12] [] 6 En367 (wo156.pk [0, 1]) fun ac371 En372 => ?_
      refine q_f 13 (s := Instr.indexAt 81 (.slice a_qb (List.length qb) c_qb) (ni i)) (v := .pointer (some (Addr.add adq (i * 2)))) En372 (fun _ => Go.Dbr.run_indexsl (e := 196) (sz := 2) (j := i) (jo := i * 2) hadq (by kernel_rfl) (by kernel_rfl) (by omega) hb370 rfl _) (fun _ => wo156.pk [0, 1]) fun ac373 En374 => ?_
      refine q_s [14] [] 4 En374 (wo156.pk [0, 1]) fun ac375 En376 => ?_
      refine q_r 15 (s := Instr.loadAt 23 (.pointer (some (Addr.add adq (i * 2))))) (v := .slice a_x70a (List.length x70a) c_x70a) En376 (fun w hS => run_loadel (ad := adq) (o := i * 2) rfl (i_qb.ro.ev hS).reads hadq ((flat_get (sz := 2) (j := 0) (fun _ _ => rfl) hx69 (by decide)).trans rfl) (by kernel_rfl)) (wo156.pk [0, 1]) fun ac377 En378 => ?_
      refine q_r 16 (s := convert 23 9 (.slice a_x70a (List.length x70a) c_x70a)) (v := .string (bstr x70a)) En378 (fun w hS => run_str2 (e := 5) (bs := x70a) rfl (by kernel_rfl) (by kernel_rfl) (by kernel_rfl) (i_x70a.ev hS).reads i_x70a.nz) (wo156.pk [0, 1]) fun ac379 En380 => ?_
      refine q_s [17,18] [(17, g_v (show (.bool (!(ByteArray.toList (bstr x67a) == ByteArray.toList (bstr x70a))) : Value) = .bool (!(x67a == x70a)) by rw [Go.Dbr.bstr_eq x67a x70a] <;> rfl))] 0 En380 (wo156.pk [0, 1]) fun ac381 En382 => ?_
      exact h_e ⟨En382.sb, wo156.pk [0, 1]⟩
     rintro ac383 wo384 ⟨En385, Hv386⟩
     refine then_normal ?_
     refine cond_at En385 (t := !(x67a == x70a)) (by kernel_rfl) (fun hc387 => ?_) (fun hc387 => ?_)
     ·
      replace hc387 : x67a ≠ x70a := by simpa using hc387
      refine d_s [2,3,4,5] [] En385 fun ac388 En389 => ?_
      refine wp_ret ?_
      refine block_ret ?_
      refine then_ret ?_
      refine then_ret ?_
      refine block_ret ?_
      refine then_ret ?_
      refine d_ret1 (t := 4) (v := .bool false) En389 (by kernel_rfl) (by kernel_rfl) ?_
      refine ⟨congrArg (fun b => Ending.returned (Value.bool b)) (tup_no fun g => ?_), Hv386.pk []⟩
      simp only [Prod.mk.injEq] at g
      have g2 := congrArg (fun l => l[i]?) g.2
      simp only [List.getElem?_map, hx66, hx69, Option.map_some, Option.some.injEq, Prod.mk.injEq] at g2
      first | exact absurd g2.1 (by assumption) | exact absurd g2.2 (by assumption)
     ·
      replace hc387 : ¬ (x67a ≠ x70a) := by simpa using hc387
      refine wp_skip ?_
      refine block_normal ?_
      refine then_normal ?_
      refine d_r [2,3,5] [(1, g_n (w_a i 1))] En385 fun ac390 En391 => ?_
      refine then_normal ?_
      refine ⟨_, ⟨i + 1, rfl, En391.sb, Hv386.pk [0, 1], (same_step hx66 hx69 (pair_eq (by first | assumption | exact Classical.not_not.1 (by assumption)) (by first | assumption | exact Classical.not_not.1 (by assumption))) hp)⟩, ?_⟩
      omega
   ·
    refine wp_exit ?_
    refine then_exit ?_
    refine then_exit ?_
    refine block_exit ?_
    refine then_normal ?_
    refine d_s [2,3,4,5] [] En63 fun ac392 En393 => ?_
    refine wp_ret ?_
    refine d_ret1 (t := 4) (v := .bool true) En393 (by kernel_rfl) (by kernel_rfl) ?_
    have hall := same_all (f := (fun y : RCer => (y.1.l, List.map (fun y : RExt => (y.1, y.2.1.l)) y.2.1.l))) (by omega) (by omega) hp
    exact ⟨congrArg (fun b => Ending.returned (Value.bool b)) (tup_yes (pair_eq (by first | assumption | exact Classical.not_not.1 (by assumption)) (eq_of_beq hall.symm))), Hv56.pk []⟩

end Go.Proofs.Ytofecellbfhnjaa
