/- Structs that are built of parts whose cells are told. -/
import Derived.Test.YtfcfgbejpcmmkaaDoorEqs
import Derived.Laws.Tables
namespace Go.Dbr
open Go Go.RowKit
set_option linter.unusedSimpArgs false
set_option linter.unusedVariables false
theorem fold_set (off : Nat) (X : List Value) : ∀ (A Z R : List Value) (k : Nat), Z.length = X.length → off + k = A.length → (X.zipIdx k).foldl (fun (cs : Array Value) (p : Value × Nat) => cs.setIfInBounds (off + p.2) p.1) (A ++ (Z ++ R)).toArray = (A ++ (X ++ R)).toArray := by
  induction X with
  | nil =>
    intro A Z R k hz _
    have : Z = [] := List.eq_nil_of_length_eq_zero hz
    subst this
    rfl
  | cons x r ih =>
    intro A Z R k hz hk
    cases Z with
    | nil => cases hz
    | cons z q =>
      rw [List.zipIdx_cons, List.foldl_cons]
      have h1 : (A ++ (z :: q ++ R)).toArray.setIfInBounds (off + k) x = ((A ++ [x]) ++ (q ++ R)).toArray := by
        rw [hk]
        simp
      simp only [h1]
      rw [ih (A ++ [x]) q R (k + 1) (by simpa using hz) (by simp; omega)]
      simp
/-- one part -/
theorem fill_at {place : Nat → Option (Nat × Nat)} {i : Nat} {v : Value} {X A Z R : List Value} {rest : List (Nat × Value)} {c : Array Value} (hp : place i = some (A.length, X.length)) (hv : v.cells = X.toArray) (hz : Z.length = X.length) (h : Instr.fill place (A ++ (X ++ R)).toArray rest = some c) :
    Instr.fill place (A ++ (Z ++ R)).toArray ((i, v) :: rest) = some c := by
  have hb : (decide (X.toArray.size ≠ X.length) || decide (A.length + X.toArray.size > (A ++ (Z ++ R)).toArray.size)) = false := by
    simp
    omega
  unfold Instr.fill
  simp only [hp]
  rw [hv, ← Array.foldl_toList, Array.toList_zipIdx, hb]
  rw [← h, ← fold_set A.length X A Z R 0 hz rfl]
  rfl
/-- a field: how many cells, its noughts, what it is filled with -/
structure FB where
  m : Nat
  z : List Value
  x : Option (Nat × Value × List Value)
def FB.out (f : FB) : List Value := match f.x with
  | some (_, _, l) => l
  | none => f.z
def fbZ : List FB → List Value
  | [] => []
  | [f] => f.z
  | f :: g :: r => f.z ++ fbZ (g :: r)
def fbX : List FB → List Value
  | [] => []
  | [f] => f.out
  | f :: g :: r => f.out ++ fbX (g :: r)
def fbP : List FB → List (Nat × Value)
  | [] => []
  | f :: r => match f.x with
    | some (i, v, _) => (i, v) :: fbP r
    | none => fbP r
def FbOk (place : Nat → Option (Nat × Nat)) : Nat → List FB → Prop
  | _, [] => True
  | a, f :: r => f.z.length = f.m ∧ f.out.length = f.m ∧ (∀ i v l, f.x = some (i, v, l) → place i = some (a, f.m) ∧ v.cells = l.toArray) ∧ FbOk place (a + f.m) r
theorem fbZ_cons (f : FB) (r : List FB) : fbZ (f :: r) = f.z ++ fbZ r := by cases r <;> simp [fbZ]
theorem fbX_cons (f : FB) (r : List FB) : fbX (f :: r) = f.out ++ fbX r := by cases r <;> simp [fbX]
theorem fill_go {place : Nat → Option (Nat × Nat)} : ∀ (fs : List FB) (A : List Value), FbOk place A.length fs → Instr.fill place (A ++ fbZ fs).toArray (fbP fs) = some (A ++ fbX fs).toArray
  | [], A, _ => rfl
  | f :: r, A, h => by
    obtain ⟨hz, ho, hx, hr⟩ := h
    rw [fbZ_cons, fbX_cons]
    have ih := fill_go r (A ++ f.out) (by rw [List.length_append, ho]; exact hr)
    rw [List.append_assoc, List.append_assoc] at ih
    cases hxx : f.x with
    | none =>
      have e1 : f.out = f.z := by unfold FB.out; rw [hxx]
      have e2 : fbP (f :: r) = fbP r := by rw [fbP, hxx]
      rw [e2]
      rw [e1] at ih ⊢
      exact ih
    | some q =>
      obtain ⟨i, v, l⟩ := q
      obtain ⟨h1, h2⟩ := hx i v l hxx
      have e1 : f.out = l := by unfold FB.out; rw [hxx]
      have e2 : fbP (f :: r) = (i, v) :: fbP r := by rw [fbP, hxx]
      rw [e2]
      rw [e1] at ih ho ⊢
      exact fill_at (by rw [ho]; exact h1) h2 (by rw [hz, ho]) ih
theorem fb_y {place : Nat → Option (Nat × Nat)} {a m i : Nat} {z l : List Value} {v : Value} {r : List FB} (hz : z.length = m) (hl : l.length = m) (hr : FbOk place (a + m) r) (hp : place i = some (a, m) := by kernel_rfl) (hv : v.cells = l.toArray := by kernel_rfl) : FbOk place a (⟨m, z, some (i, v, l)⟩ :: r) :=
  ⟨hz, hl, fun i' v' l' h => by cases h; exact ⟨hp, hv⟩, hr⟩
theorem fb_n {place : Nat → Option (Nat × Nat)} {a m : Nat} {z : List Value} {r : List FB} (hz : z.length = m) (hr : FbOk place (a + m) r) : FbOk place a (⟨m, z, none⟩ :: r) :=
  ⟨hz, hz, (fun i' v' l' h => by cases h), hr⟩
/-- a struct: where its parts lie, its noughts and what they are filled with -/
theorem run_built {P : Program} {t : TypeId} (ps : List (Nat × Nat)) (fs : List FB) (h : FbOk (ps.toArray[·]?) 0 fs) (w : World) (hb : (fun q => P.built t q) = (fun q => Instr.fill (ps.toArray[·]?) (fbZ fs).toArray q) := by kernel_rfl) :
    (Instr.build t (fbP fs).toArray).run P w = .ok (.agg (fbX fs).toArray) w := run_build w t (fbP fs).toArray (fbX fs).toArray (by
  have h1 := fill_go fs [] h
  rw [List.nil_append, List.nil_append] at h1
  rw [← h1]
  exact congrFun hb (fbP fs))
end Go.Dbr
