/- []byte(s): over any program. -/
import Derived.Test.YtfcfgbejpcmmkaaDoorSv
import Derived.Laws.IdiomStrings
namespace Go.Dbr
open Go Go.RowKit
section
variable {P : Program} {ops : Array Oper} {Q : Exit → Act → World → Prop} {n i : Nat} {l : List (Nat × Value)} {a : Act} {w w0 : World} {L L0 : List Ent} {d : Option Tmp} {K : Act → World → Prop}
theorem bytesRow_size (s : List UInt8) (cap : Nat) (h : s.length ≤ cap) : (bytesRow (bstr s) cap).size = cap := by
  rw [bytesRow, Array.size_append, Array.size_map, Array.size_replicate, bstr_size]
  have : (bstr s).data.size = s.length := by simp [bstr]
  omega
theorem bytesRow_get (s : List UInt8) (cap j : Nat) (h : j < s.length) : (bytesRow (bstr s) cap)[j]? = (bys s)[j]? := by
  have e : (bstr s).data = s.toArray := by simp [bstr]
  rw [bytesRow, e, Array.getElem?_append_left (by simpa using h)]
  simp [bys]
  rfl
theorem op_bytes (E : Env a n l) {src dst e : TypeId} {s : List UInt8} (h : opAt ops n i l = some (.run d (nv (convert src dst (.string (bstr s)))))) (hs : P.underlying src = some .string) (hd : P.underlying dst = some (.slice e)) (he : P.underlying e = some (.int .u8)) (H : Ev w0 L0 w L) (hl : s.length ≤ maxLen)
    (next : ∀ a' w' b cap, Env a' n (putl d (.slice (some ⟨b, 0, none⟩) s.length cap) l) → Ev w0 L0 w' (L ++ [.vec (some ⟨b, 0, none⟩) cap 1 (bys s) e]) → s.length ≤ cap → K a' w') : wpOp P ops Q i K a w := by
  have hr := run_bytes_of_string (P := P) w src dst e (bstr s) hs hd he
  rw [bstr_size] at hr
  have hge := grownCap_ge w s.length 0 e
  have hle := grownCap_le_maxLen w s.length 0 e hl
  refine any_run E h (run_nv hr) fun a' E' => next a' _ w.heap.size _ E' ?_ hge
  refine H.trans ((Ev.drew H.heap).trans (Ev.add (Ev.drew H.heap).heap (chg_alloc _ _ _) ⟨rfl, hle, ?_, _, _, heap_alloc_new w.drew _, .inr (Nat.le_refl _), ?_, fun j hj => ?_⟩ (fun b hb => ?_)))
  · rw [bys_length, Nat.mul_one]; exact hge
  · rw [bytesRow_size _ _ hge, Nat.mul_one, Nat.zero_add]; exact Nat.le_refl _
  · rw [bys_length] at hj
    rw [Nat.zero_add]
    exact bytesRow_get _ _ _ hj
  · simp only [Ent.own, Option.map_some, Option.some.injEq] at hb
    have : w.drew.heap.size = w.heap.size := rfl
    omega
theorem d_ret4 {fn : Func} {R : Ending → World → Prop} (E : Env a n l) {t u s r : Nat} {v x y z : Value} (hr : fn.results = #[.tmp t, .tmp u, .tmp s, .tmp r]) (hv : look l t = some v) (hx : look l u = some x) (hy : look l s = some y) (hz : look l r = some z) (h : R (.returned (.tuple #[v, x, y, z])) w) : bodyPost P fn R .ret a w := by
  refine bodyPost_ret (v := .tuple #[v, x, y, z]) ?_ E.defers h
  simp [results, hr, E.getQ hv, E.getQ hx, E.getQ hy, E.getQ hz]
end
end Go.Dbr
