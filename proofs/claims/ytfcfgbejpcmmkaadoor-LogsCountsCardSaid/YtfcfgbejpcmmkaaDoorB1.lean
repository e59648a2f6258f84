/- Layer 3: lines that are kept. -/
import Derived.Test.YtfcfgbejpcmmkaaDoorA8
import Derived.Test.YtfcfgbejpcmmkaaDoorShelf2
import Derived.Test.YtfcfgbejpcmmkaaDoorCutS
namespace Go.Proofs.YtfcfgbejpcmmkaaDoor
open Go.Dbr
set_option maxRecDepth 100000
set_option maxHeartbeats 2000000
set_option linter.unusedVariables false
set_option linter.unusedSimpArgs false

abbrev RStr := List UInt8
abbrev fStr : RStr → List Value := (fun l : List UInt8 => [.string (bstr l)])
open Go Go.Sort Go.RowKit
theorem fs_map : ∀ ls : List Bs, List.flatMap fStr ls = ls.map (fun l => Value.string (bstr l))
  | [] => rfl
  | x :: r => by rw [List.flatMap_cons, fs_map r]; rfl
theorem fs_len (ls : List Bs) : (List.flatMap fStr ls).length = ls.length := by rw [fs_map, List.length_map]
theorem delete_go (w : World) (a : Option Addr) (c : Nat) (ls : List Bs) (h1 : 1 ≤ ls.length) (hH : Heap w [.vec a c 1 (List.flatMap fStr ls) 9]) : Calls Tryd.prog 33 #[.slice a (List.length ls) c, .int .i64 0, .int .i64 1] w fun e w' => e = .returned (.slice a (List.length (List.drop 1 ls)) c) ∧ Ev w [.vec a c 1 (List.flatMap fStr ls) 9] w' [.vec a c 1 (List.flatMap fStr (List.drop 1 ls)) 9] := by
  have hh := hH.holds 0 _ rfl
  cases a with
  | none => have := congrArg List.length hh.2; rw [fs_len] at this; simp at this; rw [this] at h1; simp at h1
  | some ad =>
    obtain ⟨h3, h4, h5, cur, fz, h6, hfz, h7, h8⟩ := hh
    obtain ⟨b, o, sp⟩ := ad
    simp only at h3 h6 h7 h8
    subst h3
    rw [fs_len] at h5 h8
    have hHo : Holds encStr w b o ls.toArray := fun j hj => by
      have hj2 : j < ls.length := by simpa using hj
      refine ⟨?_, frozen_fz h6 hfz (by omega)⟩
      rw [cell_of_row w b _ cur _ fz h6, h8 j hj2, fs_map]
      simp [hj2, bstr]
    have hm : c ≤ 9223372036854775807 := by unfold maxLen at h4; omega
    have hd := Tryd.slices_Delete_string b o c 0 1 ls w hHo (by omega) hm (by decide) h1
    rw [show (List.drop 1 ls).length = ls.length - (1 - 0) from by rw [List.length_drop]]
    refine hd.mono ?_
    rintro e w' ⟨rfl, q, rfl⟩
    refine ⟨rfl, Ev.change hH (k := 0) rfl ⟨rfl, rfl, rfl, by simp [putRow, mapBlock, Sort.ahead], fun k hk hn => ?_⟩ ?_ (fun x hx => .inl hx)⟩
    · simp only [putRow, mapBlock, Sort.ahead, Array.getElem?_modify]
      rw [if_neg (fun e => hn (by subst e; rfl))]
    · refine ⟨rfl, h4, by rw [fs_len, List.length_drop]; omega, putCells encStr o (ls.take 0 ++ ls.drop 1 ++ List.replicate (1 - 0) []).toArray cur, fz, ?_, ?_, ?_, fun j hj => ?_⟩
      · simp [putRow, mapBlock, Sort.ahead, Array.getElem?_modify, h6, onCells]
      · simpa [putCells] using hfz
      · simpa [putCells] using h7
      · rw [fs_len, List.length_drop] at hj
        have hc : o + j < cur.size := by omega
        have e1 : (putCells encStr o (ls.take 0 ++ ls.drop 1 ++ List.replicate (1 - 0) []).toArray cur)[o + j]? = some (encStr (ls.getD (1 + j) [])) := by
          simp only [putCells, Array.getElem?_mapIdx, Array.getElem?_eq_getElem hc, Option.map_some]
          rw [if_pos ⟨by omega, by simp; omega⟩, Nat.add_sub_cancel_left]
          simp only [List.take_zero, List.nil_append, List.getElem!_toArray]
          rw [List.getElem!_eq_getElem?_getD, List.getElem?_append_left (by rw [List.length_drop]; omega), List.getElem?_drop, List.getD_eq_getElem?_getD]
          rfl
        rw [e1, fs_map, List.getElem?_map, List.getElem?_drop, List.getElem?_eq_getElem (by omega), List.getD_eq_getElem?_getD, List.getElem?_eq_getElem (by omega)]
        rfl

end Go.Proofs.YtfcfgbejpcmmkaaDoor
