/- Steps over operations without memory, by the slots that are kept. -/
import Derived.Test.YtfcfgbejpcmmkaaDoorFull
import Derived.Test.YtfcfgbejpcmmkaaDoorHeld
namespace Go.Dbr
open Go Go.RowKit
def keepL (ls : List Nat) (l : List (Nat × Value)) : List (Nat × Value) := ls.filterMap fun i => (look l i).map fun v => (i, v)
theorem look_keep {ls : List Nat} {l : List (Nat × Value)} {t : Nat} {v : Value} (h : look (keepL ls l) t = some v) : look l t = some v := by
  induction ls with
  | nil => cases h
  | cons i r ih =>
    unfold keepL at h ih
    rw [List.filterMap_cons] at h
    cases hx : look l i with
    | none =>
      rw [hx] at h
      exact ih h
    | some u =>
      rw [hx] at h
      simp only [Option.map_some] at h
      by_cases e : i = t
      · subst e
        rw [look_self] at h
        rw [hx, h]
      · rw [look_other _ _ e] at h
        exact ih h
theorem Env.keep {a : Act} {n : Nat} {l : List (Nat × Value)} (E : Env a n l) (ls : List Nat) : Env a n (keepL ls l) := ⟨E.size, E.defers, fun i v h => E.slot i v (look_keep h)⟩
section
variable {P : Program} {ops : Array Oper} {Q : Exit → Act → World → Prop} {n i : Nat} {l : List (Nat × Value)} {a : Act} {w : World}
theorem d_keep (ls : List Nat) (vs : List Value) (k : Nat) (E : Env a n l) (h : (fun w => runsTo P ops n w l i vs) = fun w => vs.map (fun v => some (.ok (.value v) w))) (hk : i + vs.length = k)
    (next : ∀ a', Env a' n (keepL ls (endsIn ops n l i vs)) → From P ops Q k a' w) : From P ops Q i a w :=
  pures_go vs i l a E (congrFun h w) fun a' E' => by rw [hk]; exact next a' (E'.keep ls)
end
end Go.Dbr
