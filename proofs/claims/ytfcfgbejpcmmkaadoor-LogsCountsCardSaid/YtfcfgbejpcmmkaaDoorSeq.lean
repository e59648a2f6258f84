/- Lists of numbers in slices: bytes, words, ints. (Printed by gen_seq.py.) -/
import Derived.Test.YtfcfgbejpcmmkaaDoorInt
namespace Go.Dbr
open Go Go.RowKit
theorem cut_nz {ao : Option Addr} {cap lo sz n m : Nat} (h : ao = none → n = 0) (e : cutAt ao cap lo sz = none) (hm : n = 0 → m = 0) : m = 0 := hm (h (cutAt_none e))

/-! ### UInt8 -/
def bv (b : UInt8) : Value := .int .u8 ((UInt8.toNat b : Nat) : Int)
def bys (l : List UInt8) : List Value := l.map bv
theorem bys_append (l m : List UInt8) : bys (l ++ m) = bys l ++ bys m := by simp [bys]
theorem bys_nil_append (l : List UInt8) : bys [] ++ bys l = bys l := rfl
theorem bys_append_nil (l : List UInt8) : bys l ++ bys [] = bys l := by simp [bys]
theorem bys_len (l : List UInt8) : (bys l).length = l.length * 1 := by simp [bys]
theorem bys_length (l : List UInt8) : (bys l).length = l.length := by simp [bys]
theorem bys_one (l : List UInt8) : ∀ u ∈ bys l, u.oneCell' = true := by
  intro u hu
  obtain ⟨b, _, rfl⟩ := List.mem_map.1 hu
  rfl
theorem bys_take (l : List UInt8) (n : Nat) : bys (l.take n) = (bys l).take n := by simp [bys, List.map_take]
theorem bys_drop (l : List UInt8) (n : Nat) : bys (l.drop n) = (bys l).drop n := by simp [bys, List.map_drop]
theorem bys_get {l : List UInt8} {j : Nat} (h : j < l.length) : (bys l)[j]? = some (bv l[j]) := by simp [bys, h]
theorem bys_set (l : List UInt8) (j : Nat) (b : UInt8) : (bys l).set j (bv b) = bys (l.set j b) := by simp [bys, List.map_set]
theorem bys_cutw {l : List UInt8} {lo n : Nat} (h : l.length = n) : ((bys l).drop (lo * 1)).take ((n - lo) * 1) = bys (l.drop lo) := by
  subst h
  rw [List.take_of_length_le (by simp [bys])]
  simp [bys, List.map_drop]
theorem bys_cut0 (l : List UInt8) (hi : Nat) : ((bys l).drop (0 * 1)).take ((hi - 0) * 1) = bys (l.take hi) := by simp [bys, List.map_take]
theorem bys_cut (l : List UInt8) (lo hi : Nat) : ((bys l).drop (lo * 1)).take ((hi - lo) * 1) = bys ((l.drop lo).take (hi - lo)) := by simp [bys, List.map_drop, List.map_take]

theorem bys_lenn {n : Nat} {l : List UInt8} (h : n = l.length) : (bys l).length = n * 1 := by rw [bys_length, h, Nat.mul_one]
theorem bys_cut_reads {w : World} {ao : Option Addr} {l : List UInt8} {n : Nat} (h : Reads w ao (bys l)) (cap lo hi : Nat) (hn : l.length = n) (h1 : lo ≤ hi) (h2 : hi ≤ n) (hc : n ≤ cap) : Reads w (cutAt ao cap lo 1) (bys (List.take (hi - lo) (List.drop lo l))) := by
  have := h.cut (sz := 1) (n := n) (cap := cap) (by rw [bys_length, hn, Nat.mul_one]) lo hi h1 h2 hc
  rwa [bys_cut] at this

theorem bys_take_reads {w : World} {ao : Option Addr} {l : List UInt8} (h : Reads w ao (bys l)) (hi : Nat) : Reads w ao (bys (List.take hi l)) := by
  rw [bys_take]; exact h.take hi
theorem bys_drop_reads {w : World} {ao : Option Addr} {l : List UInt8} (h : Reads w ao (bys l)) (cap lo : Nat) {n : Nat} (hn : l.length = n) (h1 : lo ≤ n) (hc : n ≤ cap) : Reads w (cutAt ao cap lo 1) (bys (List.drop lo l)) := by
  have := bys_cut_reads h cap lo n hn h1 (Nat.le_refl _) hc
  rwa [List.take_of_length_le (by simp; omega)] at this

/-- bytes that are handed in, to be read -/
structure InB (w : World) (L : List Ent) (a : Option Addr) (c : Nat) (l : List UInt8) : Prop where
  ro : Ro w L a (bys l)
  nz : a = none → l.length = 0
  cap : l.length ≤ c
  small : l.length ≤ 140737489403904
theorem InB.ev {w w' : World} {L L' : List Ent} {a : Option Addr} {c : Nat} {l : List UInt8} (h : InB w L a c l) (e : Ev w L w' L') : InB w' L' a c l := ⟨h.ro.ev e, h.nz, h.cap, h.small⟩
theorem InB.of {w : World} {L M : List Ent} {a : Option Addr} {c : Nat} {l : List UInt8} (h : InB w L a c l) (hm : ∀ b, Owns M b → Owns L b) : InB w M a c l := ⟨h.ro.of hm, h.nz, h.cap, h.small⟩
theorem InB.pick {w : World} {L M : List Ent} {a : Option Addr} {c : Nat} {l : List UInt8} (h : InB w L a c l) (is : List Nat) (hm : M.map some = is.map (fun i => L[i]?)) : InB w M a c l := ⟨h.ro.pick is hm, h.nz, h.cap, h.small⟩
theorem InB.reads {w : World} {L : List Ent} {a : Option Addr} {c : Nat} {l : List UInt8} (h : InB w L a c l) : Reads w a (bys l) := h.ro.reads
theorem InB.nil (w : World) (L : List Ent) : InB w L none 0 [] := ⟨⟨rfl, fun _ h => by cases h⟩, fun _ => rfl, Nat.le_refl _, by simp⟩
theorem bys_in {w : World} {L M : List Ent} (h : Heap w L) {k : Nat} {a : Option Addr} {cap : Nat} {l : List UInt8} {T : TypeId} (hk : L[k]? = some (.vec a cap 1 (bys l) T))
    (is : List Nat) (hm : M.map some = is.map (fun i => L[i]?)) (hn : is.contains k = false) (hs : l.length ≤ 140737489403904) : InB w M a cap l := by
  refine ⟨h.ro hk is hm hn, fun ha => ?_, ?_, hs⟩
  · subst ha
    have := (h.holds k _ hk).2
    have h2 := bys_length l
    rw [this] at h2
    simpa using h2.symm
  · have hh := h.holds k _ hk
    cases a with
    | none => have h2 := bys_length l; rw [hh.2] at h2; simp at h2; omega
    | some ad => have := hh.2.2.1; rw [bys_length] at this; omega

theorem bys_vnz {w : World} {L : List Ent} (h : Heap w L) {k : Nat} {a : Option Addr} {cap : Nat} {l : List UInt8} {T : TypeId} (hk : L[k]? = some (.vec a cap 1 (bys l) T)) : a = none → l.length = 0 := by
  intro ha
  subst ha
  have := (h.holds k _ hk).2
  have h2 := bys_length l
  rw [this] at h2
  simpa using h2.symm
theorem bys_vcap {w : World} {L : List Ent} (h : Heap w L) {k : Nat} {a : Option Addr} {cap : Nat} {l : List UInt8} {T : TypeId} (hk : L[k]? = some (.vec a cap 1 (bys l) T)) : l.length ≤ cap := by
  have hh := h.holds k _ hk
  cases a with
  | none => have h2 := bys_length l; rw [hh.2] at h2; simp at h2; omega
  | some ad => have := hh.2.2.1; rw [bys_length] at this; omega

/-! ### UInt16 -/
def uv16 (b : UInt16) : Value := .int .u16 ((UInt16.toNat b : Nat) : Int)
def u16s (l : List UInt16) : List Value := l.map uv16
theorem u16s_append (l m : List UInt16) : u16s (l ++ m) = u16s l ++ u16s m := by simp [u16s]
theorem u16s_nil_append (l : List UInt16) : u16s [] ++ u16s l = u16s l := rfl
theorem u16s_append_nil (l : List UInt16) : u16s l ++ u16s [] = u16s l := by simp [u16s]
theorem u16s_len (l : List UInt16) : (u16s l).length = l.length * 1 := by simp [u16s]
theorem u16s_length (l : List UInt16) : (u16s l).length = l.length := by simp [u16s]
theorem u16s_one (l : List UInt16) : ∀ u ∈ u16s l, u.oneCell' = true := by
  intro u hu
  obtain ⟨b, _, rfl⟩ := List.mem_map.1 hu
  rfl
theorem u16s_take (l : List UInt16) (n : Nat) : u16s (l.take n) = (u16s l).take n := by simp [u16s, List.map_take]
theorem u16s_drop (l : List UInt16) (n : Nat) : u16s (l.drop n) = (u16s l).drop n := by simp [u16s, List.map_drop]
theorem u16s_get {l : List UInt16} {j : Nat} (h : j < l.length) : (u16s l)[j]? = some (uv16 l[j]) := by simp [u16s, h]
theorem u16s_set (l : List UInt16) (j : Nat) (b : UInt16) : (u16s l).set j (uv16 b) = u16s (l.set j b) := by simp [u16s, List.map_set]
theorem u16s_cutw {l : List UInt16} {lo n : Nat} (h : l.length = n) : ((u16s l).drop (lo * 1)).take ((n - lo) * 1) = u16s (l.drop lo) := by
  subst h
  rw [List.take_of_length_le (by simp [u16s])]
  simp [u16s, List.map_drop]
theorem u16s_cut0 (l : List UInt16) (hi : Nat) : ((u16s l).drop (0 * 1)).take ((hi - 0) * 1) = u16s (l.take hi) := by simp [u16s, List.map_take]
theorem u16s_cut (l : List UInt16) (lo hi : Nat) : ((u16s l).drop (lo * 1)).take ((hi - lo) * 1) = u16s ((l.drop lo).take (hi - lo)) := by simp [u16s, List.map_drop, List.map_take]

theorem u16s_lenn {n : Nat} {l : List UInt16} (h : n = l.length) : (u16s l).length = n * 1 := by rw [u16s_length, h, Nat.mul_one]
theorem u16s_cut_reads {w : World} {ao : Option Addr} {l : List UInt16} {n : Nat} (h : Reads w ao (u16s l)) (cap lo hi : Nat) (hn : l.length = n) (h1 : lo ≤ hi) (h2 : hi ≤ n) (hc : n ≤ cap) : Reads w (cutAt ao cap lo 1) (u16s (List.take (hi - lo) (List.drop lo l))) := by
  have := h.cut (sz := 1) (n := n) (cap := cap) (by rw [u16s_length, hn, Nat.mul_one]) lo hi h1 h2 hc
  rwa [u16s_cut] at this

theorem u16s_take_reads {w : World} {ao : Option Addr} {l : List UInt16} (h : Reads w ao (u16s l)) (hi : Nat) : Reads w ao (u16s (List.take hi l)) := by
  rw [u16s_take]; exact h.take hi
theorem u16s_drop_reads {w : World} {ao : Option Addr} {l : List UInt16} (h : Reads w ao (u16s l)) (cap lo : Nat) {n : Nat} (hn : l.length = n) (h1 : lo ≤ n) (hc : n ≤ cap) : Reads w (cutAt ao cap lo 1) (u16s (List.drop lo l)) := by
  have := u16s_cut_reads h cap lo n hn h1 (Nat.le_refl _) hc
  rwa [List.take_of_length_le (by simp; omega)] at this

/-- bytes that are handed in, to be read -/
structure InU16 (w : World) (L : List Ent) (a : Option Addr) (c : Nat) (l : List UInt16) : Prop where
  ro : Ro w L a (u16s l)
  nz : a = none → l.length = 0
  cap : l.length ≤ c
  small : l.length ≤ 70368744175616
theorem InU16.ev {w w' : World} {L L' : List Ent} {a : Option Addr} {c : Nat} {l : List UInt16} (h : InU16 w L a c l) (e : Ev w L w' L') : InU16 w' L' a c l := ⟨h.ro.ev e, h.nz, h.cap, h.small⟩
theorem InU16.of {w : World} {L M : List Ent} {a : Option Addr} {c : Nat} {l : List UInt16} (h : InU16 w L a c l) (hm : ∀ b, Owns M b → Owns L b) : InU16 w M a c l := ⟨h.ro.of hm, h.nz, h.cap, h.small⟩
theorem InU16.pick {w : World} {L M : List Ent} {a : Option Addr} {c : Nat} {l : List UInt16} (h : InU16 w L a c l) (is : List Nat) (hm : M.map some = is.map (fun i => L[i]?)) : InU16 w M a c l := ⟨h.ro.pick is hm, h.nz, h.cap, h.small⟩
theorem InU16.reads {w : World} {L : List Ent} {a : Option Addr} {c : Nat} {l : List UInt16} (h : InU16 w L a c l) : Reads w a (u16s l) := h.ro.reads
theorem InU16.nil (w : World) (L : List Ent) : InU16 w L none 0 [] := ⟨⟨rfl, fun _ h => by cases h⟩, fun _ => rfl, Nat.le_refl _, by simp⟩
theorem u16s_in {w : World} {L M : List Ent} (h : Heap w L) {k : Nat} {a : Option Addr} {cap : Nat} {l : List UInt16} {T : TypeId} (hk : L[k]? = some (.vec a cap 1 (u16s l) T))
    (is : List Nat) (hm : M.map some = is.map (fun i => L[i]?)) (hn : is.contains k = false) (hs : l.length ≤ 70368744175616) : InU16 w M a cap l := by
  refine ⟨h.ro hk is hm hn, fun ha => ?_, ?_, hs⟩
  · subst ha
    have := (h.holds k _ hk).2
    have h2 := u16s_length l
    rw [this] at h2
    simpa using h2.symm
  · have hh := h.holds k _ hk
    cases a with
    | none => have h2 := u16s_length l; rw [hh.2] at h2; simp at h2; omega
    | some ad => have := hh.2.2.1; rw [u16s_length] at this; omega

theorem u16s_vnz {w : World} {L : List Ent} (h : Heap w L) {k : Nat} {a : Option Addr} {cap : Nat} {l : List UInt16} {T : TypeId} (hk : L[k]? = some (.vec a cap 1 (u16s l) T)) : a = none → l.length = 0 := by
  intro ha
  subst ha
  have := (h.holds k _ hk).2
  have h2 := u16s_length l
  rw [this] at h2
  simpa using h2.symm
theorem u16s_vcap {w : World} {L : List Ent} (h : Heap w L) {k : Nat} {a : Option Addr} {cap : Nat} {l : List UInt16} {T : TypeId} (hk : L[k]? = some (.vec a cap 1 (u16s l) T)) : l.length ≤ cap := by
  have hh := h.holds k _ hk
  cases a with
  | none => have h2 := u16s_length l; rw [hh.2] at h2; simp at h2; omega
  | some ad => have := hh.2.2.1; rw [u16s_length] at this; omega

/-! ### UInt32 -/
def uv32 (b : UInt32) : Value := .int .u32 ((UInt32.toNat b : Nat) : Int)
def u32s (l : List UInt32) : List Value := l.map uv32
theorem u32s_append (l m : List UInt32) : u32s (l ++ m) = u32s l ++ u32s m := by simp [u32s]
theorem u32s_nil_append (l : List UInt32) : u32s [] ++ u32s l = u32s l := rfl
theorem u32s_append_nil (l : List UInt32) : u32s l ++ u32s [] = u32s l := by simp [u32s]
theorem u32s_len (l : List UInt32) : (u32s l).length = l.length * 1 := by simp [u32s]
theorem u32s_length (l : List UInt32) : (u32s l).length = l.length := by simp [u32s]
theorem u32s_one (l : List UInt32) : ∀ u ∈ u32s l, u.oneCell' = true := by
  intro u hu
  obtain ⟨b, _, rfl⟩ := List.mem_map.1 hu
  rfl
theorem u32s_take (l : List UInt32) (n : Nat) : u32s (l.take n) = (u32s l).take n := by simp [u32s, List.map_take]
theorem u32s_drop (l : List UInt32) (n : Nat) : u32s (l.drop n) = (u32s l).drop n := by simp [u32s, List.map_drop]
theorem u32s_get {l : List UInt32} {j : Nat} (h : j < l.length) : (u32s l)[j]? = some (uv32 l[j]) := by simp [u32s, h]
theorem u32s_set (l : List UInt32) (j : Nat) (b : UInt32) : (u32s l).set j (uv32 b) = u32s (l.set j b) := by simp [u32s, List.map_set]
theorem u32s_cutw {l : List UInt32} {lo n : Nat} (h : l.length = n) : ((u32s l).drop (lo * 1)).take ((n - lo) * 1) = u32s (l.drop lo) := by
  subst h
  rw [List.take_of_length_le (by simp [u32s])]
  simp [u32s, List.map_drop]
theorem u32s_cut0 (l : List UInt32) (hi : Nat) : ((u32s l).drop (0 * 1)).take ((hi - 0) * 1) = u32s (l.take hi) := by simp [u32s, List.map_take]
theorem u32s_cut (l : List UInt32) (lo hi : Nat) : ((u32s l).drop (lo * 1)).take ((hi - lo) * 1) = u32s ((l.drop lo).take (hi - lo)) := by simp [u32s, List.map_drop, List.map_take]

theorem u32s_lenn {n : Nat} {l : List UInt32} (h : n = l.length) : (u32s l).length = n * 1 := by rw [u32s_length, h, Nat.mul_one]
theorem u32s_cut_reads {w : World} {ao : Option Addr} {l : List UInt32} {n : Nat} (h : Reads w ao (u32s l)) (cap lo hi : Nat) (hn : l.length = n) (h1 : lo ≤ hi) (h2 : hi ≤ n) (hc : n ≤ cap) : Reads w (cutAt ao cap lo 1) (u32s (List.take (hi - lo) (List.drop lo l))) := by
  have := h.cut (sz := 1) (n := n) (cap := cap) (by rw [u32s_length, hn, Nat.mul_one]) lo hi h1 h2 hc
  rwa [u32s_cut] at this

theorem u32s_take_reads {w : World} {ao : Option Addr} {l : List UInt32} (h : Reads w ao (u32s l)) (hi : Nat) : Reads w ao (u32s (List.take hi l)) := by
  rw [u32s_take]; exact h.take hi
theorem u32s_drop_reads {w : World} {ao : Option Addr} {l : List UInt32} (h : Reads w ao (u32s l)) (cap lo : Nat) {n : Nat} (hn : l.length = n) (h1 : lo ≤ n) (hc : n ≤ cap) : Reads w (cutAt ao cap lo 1) (u32s (List.drop lo l)) := by
  have := u32s_cut_reads h cap lo n hn h1 (Nat.le_refl _) hc
  rwa [List.take_of_length_le (by simp; omega)] at this

/-- bytes that are handed in, to be read -/
structure InU32 (w : World) (L : List Ent) (a : Option Addr) (c : Nat) (l : List UInt32) : Prop where
  ro : Ro w L a (u32s l)
  nz : a = none → l.length = 0
  cap : l.length ≤ c
  small : l.length ≤ 35184372087808
theorem InU32.ev {w w' : World} {L L' : List Ent} {a : Option Addr} {c : Nat} {l : List UInt32} (h : InU32 w L a c l) (e : Ev w L w' L') : InU32 w' L' a c l := ⟨h.ro.ev e, h.nz, h.cap, h.small⟩
theorem InU32.of {w : World} {L M : List Ent} {a : Option Addr} {c : Nat} {l : List UInt32} (h : InU32 w L a c l) (hm : ∀ b, Owns M b → Owns L b) : InU32 w M a c l := ⟨h.ro.of hm, h.nz, h.cap, h.small⟩
theorem InU32.pick {w : World} {L M : List Ent} {a : Option Addr} {c : Nat} {l : List UInt32} (h : InU32 w L a c l) (is : List Nat) (hm : M.map some = is.map (fun i => L[i]?)) : InU32 w M a c l := ⟨h.ro.pick is hm, h.nz, h.cap, h.small⟩
theorem InU32.reads {w : World} {L : List Ent} {a : Option Addr} {c : Nat} {l : List UInt32} (h : InU32 w L a c l) : Reads w a (u32s l) := h.ro.reads
theorem InU32.nil (w : World) (L : List Ent) : InU32 w L none 0 [] := ⟨⟨rfl, fun _ h => by cases h⟩, fun _ => rfl, Nat.le_refl _, by simp⟩
theorem u32s_in {w : World} {L M : List Ent} (h : Heap w L) {k : Nat} {a : Option Addr} {cap : Nat} {l : List UInt32} {T : TypeId} (hk : L[k]? = some (.vec a cap 1 (u32s l) T))
    (is : List Nat) (hm : M.map some = is.map (fun i => L[i]?)) (hn : is.contains k = false) (hs : l.length ≤ 35184372087808) : InU32 w M a cap l := by
  refine ⟨h.ro hk is hm hn, fun ha => ?_, ?_, hs⟩
  · subst ha
    have := (h.holds k _ hk).2
    have h2 := u32s_length l
    rw [this] at h2
    simpa using h2.symm
  · have hh := h.holds k _ hk
    cases a with
    | none => have h2 := u32s_length l; rw [hh.2] at h2; simp at h2; omega
    | some ad => have := hh.2.2.1; rw [u32s_length] at this; omega

theorem u32s_vnz {w : World} {L : List Ent} (h : Heap w L) {k : Nat} {a : Option Addr} {cap : Nat} {l : List UInt32} {T : TypeId} (hk : L[k]? = some (.vec a cap 1 (u32s l) T)) : a = none → l.length = 0 := by
  intro ha
  subst ha
  have := (h.holds k _ hk).2
  have h2 := u32s_length l
  rw [this] at h2
  simpa using h2.symm
theorem u32s_vcap {w : World} {L : List Ent} (h : Heap w L) {k : Nat} {a : Option Addr} {cap : Nat} {l : List UInt32} {T : TypeId} (hk : L[k]? = some (.vec a cap 1 (u32s l) T)) : l.length ≤ cap := by
  have hh := h.holds k _ hk
  cases a with
  | none => have h2 := u32s_length l; rw [hh.2] at h2; simp at h2; omega
  | some ad => have := hh.2.2.1; rw [u32s_length] at this; omega

/-! ### UInt64 -/
def uv64 (b : UInt64) : Value := .int .u64 ((UInt64.toNat b : Nat) : Int)
def u64s (l : List UInt64) : List Value := l.map uv64
theorem u64s_append (l m : List UInt64) : u64s (l ++ m) = u64s l ++ u64s m := by simp [u64s]
theorem u64s_nil_append (l : List UInt64) : u64s [] ++ u64s l = u64s l := rfl
theorem u64s_append_nil (l : List UInt64) : u64s l ++ u64s [] = u64s l := by simp [u64s]
theorem u64s_len (l : List UInt64) : (u64s l).length = l.length * 1 := by simp [u64s]
theorem u64s_length (l : List UInt64) : (u64s l).length = l.length := by simp [u64s]
theorem u64s_one (l : List UInt64) : ∀ u ∈ u64s l, u.oneCell' = true := by
  intro u hu
  obtain ⟨b, _, rfl⟩ := List.mem_map.1 hu
  rfl
theorem u64s_take (l : List UInt64) (n : Nat) : u64s (l.take n) = (u64s l).take n := by simp [u64s, List.map_take]
theorem u64s_drop (l : List UInt64) (n : Nat) : u64s (l.drop n) = (u64s l).drop n := by simp [u64s, List.map_drop]
theorem u64s_get {l : List UInt64} {j : Nat} (h : j < l.length) : (u64s l)[j]? = some (uv64 l[j]) := by simp [u64s, h]
theorem u64s_set (l : List UInt64) (j : Nat) (b : UInt64) : (u64s l).set j (uv64 b) = u64s (l.set j b) := by simp [u64s, List.map_set]
theorem u64s_cutw {l : List UInt64} {lo n : Nat} (h : l.length = n) : ((u64s l).drop (lo * 1)).take ((n - lo) * 1) = u64s (l.drop lo) := by
  subst h
  rw [List.take_of_length_le (by simp [u64s])]
  simp [u64s, List.map_drop]
theorem u64s_cut0 (l : List UInt64) (hi : Nat) : ((u64s l).drop (0 * 1)).take ((hi - 0) * 1) = u64s (l.take hi) := by simp [u64s, List.map_take]
theorem u64s_cut (l : List UInt64) (lo hi : Nat) : ((u64s l).drop (lo * 1)).take ((hi - lo) * 1) = u64s ((l.drop lo).take (hi - lo)) := by simp [u64s, List.map_drop, List.map_take]

theorem u64s_lenn {n : Nat} {l : List UInt64} (h : n = l.length) : (u64s l).length = n * 1 := by rw [u64s_length, h, Nat.mul_one]
theorem u64s_cut_reads {w : World} {ao : Option Addr} {l : List UInt64} {n : Nat} (h : Reads w ao (u64s l)) (cap lo hi : Nat) (hn : l.length = n) (h1 : lo ≤ hi) (h2 : hi ≤ n) (hc : n ≤ cap) : Reads w (cutAt ao cap lo 1) (u64s (List.take (hi - lo) (List.drop lo l))) := by
  have := h.cut (sz := 1) (n := n) (cap := cap) (by rw [u64s_length, hn, Nat.mul_one]) lo hi h1 h2 hc
  rwa [u64s_cut] at this

theorem u64s_take_reads {w : World} {ao : Option Addr} {l : List UInt64} (h : Reads w ao (u64s l)) (hi : Nat) : Reads w ao (u64s (List.take hi l)) := by
  rw [u64s_take]; exact h.take hi
theorem u64s_drop_reads {w : World} {ao : Option Addr} {l : List UInt64} (h : Reads w ao (u64s l)) (cap lo : Nat) {n : Nat} (hn : l.length = n) (h1 : lo ≤ n) (hc : n ≤ cap) : Reads w (cutAt ao cap lo 1) (u64s (List.drop lo l)) := by
  have := u64s_cut_reads h cap lo n hn h1 (Nat.le_refl _) hc
  rwa [List.take_of_length_le (by simp; omega)] at this

/-- bytes that are handed in, to be read -/
structure InU64 (w : World) (L : List Ent) (a : Option Addr) (c : Nat) (l : List UInt64) : Prop where
  ro : Ro w L a (u64s l)
  nz : a = none → l.length = 0
  cap : l.length ≤ c
  small : l.length ≤ 17592186043904
theorem InU64.ev {w w' : World} {L L' : List Ent} {a : Option Addr} {c : Nat} {l : List UInt64} (h : InU64 w L a c l) (e : Ev w L w' L') : InU64 w' L' a c l := ⟨h.ro.ev e, h.nz, h.cap, h.small⟩
theorem InU64.of {w : World} {L M : List Ent} {a : Option Addr} {c : Nat} {l : List UInt64} (h : InU64 w L a c l) (hm : ∀ b, Owns M b → Owns L b) : InU64 w M a c l := ⟨h.ro.of hm, h.nz, h.cap, h.small⟩
theorem InU64.pick {w : World} {L M : List Ent} {a : Option Addr} {c : Nat} {l : List UInt64} (h : InU64 w L a c l) (is : List Nat) (hm : M.map some = is.map (fun i => L[i]?)) : InU64 w M a c l := ⟨h.ro.pick is hm, h.nz, h.cap, h.small⟩
theorem InU64.reads {w : World} {L : List Ent} {a : Option Addr} {c : Nat} {l : List UInt64} (h : InU64 w L a c l) : Reads w a (u64s l) := h.ro.reads
theorem InU64.nil (w : World) (L : List Ent) : InU64 w L none 0 [] := ⟨⟨rfl, fun _ h => by cases h⟩, fun _ => rfl, Nat.le_refl _, by simp⟩
theorem u64s_in {w : World} {L M : List Ent} (h : Heap w L) {k : Nat} {a : Option Addr} {cap : Nat} {l : List UInt64} {T : TypeId} (hk : L[k]? = some (.vec a cap 1 (u64s l) T))
    (is : List Nat) (hm : M.map some = is.map (fun i => L[i]?)) (hn : is.contains k = false) (hs : l.length ≤ 17592186043904) : InU64 w M a cap l := by
  refine ⟨h.ro hk is hm hn, fun ha => ?_, ?_, hs⟩
  · subst ha
    have := (h.holds k _ hk).2
    have h2 := u64s_length l
    rw [this] at h2
    simpa using h2.symm
  · have hh := h.holds k _ hk
    cases a with
    | none => have h2 := u64s_length l; rw [hh.2] at h2; simp at h2; omega
    | some ad => have := hh.2.2.1; rw [u64s_length] at this; omega

theorem u64s_vnz {w : World} {L : List Ent} (h : Heap w L) {k : Nat} {a : Option Addr} {cap : Nat} {l : List UInt64} {T : TypeId} (hk : L[k]? = some (.vec a cap 1 (u64s l) T)) : a = none → l.length = 0 := by
  intro ha
  subst ha
  have := (h.holds k _ hk).2
  have h2 := u64s_length l
  rw [this] at h2
  simpa using h2.symm
theorem u64s_vcap {w : World} {L : List Ent} (h : Heap w L) {k : Nat} {a : Option Addr} {cap : Nat} {l : List UInt64} {T : TypeId} (hk : L[k]? = some (.vec a cap 1 (u64s l) T)) : l.length ≤ cap := by
  have hh := h.holds k _ hk
  cases a with
  | none => have h2 := u64s_length l; rw [hh.2] at h2; simp at h2; omega
  | some ad => have := hh.2.2.1; rw [u64s_length] at this; omega

/-! ### Int -/
def iv64 (b : Int) : Value := .int .i64 b
def i64s (l : List Int) : List Value := l.map iv64
theorem i64s_append (l m : List Int) : i64s (l ++ m) = i64s l ++ i64s m := by simp [i64s]
theorem i64s_nil_append (l : List Int) : i64s [] ++ i64s l = i64s l := rfl
theorem i64s_append_nil (l : List Int) : i64s l ++ i64s [] = i64s l := by simp [i64s]
theorem i64s_len (l : List Int) : (i64s l).length = l.length * 1 := by simp [i64s]
theorem i64s_length (l : List Int) : (i64s l).length = l.length := by simp [i64s]
theorem i64s_one (l : List Int) : ∀ u ∈ i64s l, u.oneCell' = true := by
  intro u hu
  obtain ⟨b, _, rfl⟩ := List.mem_map.1 hu
  rfl
theorem i64s_take (l : List Int) (n : Nat) : i64s (l.take n) = (i64s l).take n := by simp [i64s, List.map_take]
theorem i64s_drop (l : List Int) (n : Nat) : i64s (l.drop n) = (i64s l).drop n := by simp [i64s, List.map_drop]
theorem i64s_get {l : List Int} {j : Nat} (h : j < l.length) : (i64s l)[j]? = some (iv64 l[j]) := by simp [i64s, h]
theorem i64s_set (l : List Int) (j : Nat) (b : Int) : (i64s l).set j (iv64 b) = i64s (l.set j b) := by simp [i64s, List.map_set]
theorem i64s_cutw {l : List Int} {lo n : Nat} (h : l.length = n) : ((i64s l).drop (lo * 1)).take ((n - lo) * 1) = i64s (l.drop lo) := by
  subst h
  rw [List.take_of_length_le (by simp [i64s])]
  simp [i64s, List.map_drop]
theorem i64s_cut0 (l : List Int) (hi : Nat) : ((i64s l).drop (0 * 1)).take ((hi - 0) * 1) = i64s (l.take hi) := by simp [i64s, List.map_take]
theorem i64s_cut (l : List Int) (lo hi : Nat) : ((i64s l).drop (lo * 1)).take ((hi - lo) * 1) = i64s ((l.drop lo).take (hi - lo)) := by simp [i64s, List.map_drop, List.map_take]

theorem i64s_lenn {n : Nat} {l : List Int} (h : n = l.length) : (i64s l).length = n * 1 := by rw [i64s_length, h, Nat.mul_one]
theorem i64s_cut_reads {w : World} {ao : Option Addr} {l : List Int} {n : Nat} (h : Reads w ao (i64s l)) (cap lo hi : Nat) (hn : l.length = n) (h1 : lo ≤ hi) (h2 : hi ≤ n) (hc : n ≤ cap) : Reads w (cutAt ao cap lo 1) (i64s (List.take (hi - lo) (List.drop lo l))) := by
  have := h.cut (sz := 1) (n := n) (cap := cap) (by rw [i64s_length, hn, Nat.mul_one]) lo hi h1 h2 hc
  rwa [i64s_cut] at this

theorem i64s_take_reads {w : World} {ao : Option Addr} {l : List Int} (h : Reads w ao (i64s l)) (hi : Nat) : Reads w ao (i64s (List.take hi l)) := by
  rw [i64s_take]; exact h.take hi
theorem i64s_drop_reads {w : World} {ao : Option Addr} {l : List Int} (h : Reads w ao (i64s l)) (cap lo : Nat) {n : Nat} (hn : l.length = n) (h1 : lo ≤ n) (hc : n ≤ cap) : Reads w (cutAt ao cap lo 1) (i64s (List.drop lo l)) := by
  have := i64s_cut_reads h cap lo n hn h1 (Nat.le_refl _) hc
  rwa [List.take_of_length_le (by simp; omega)] at this

/-- bytes that are handed in, to be read -/
structure InI64 (w : World) (L : List Ent) (a : Option Addr) (c : Nat) (l : List Int) : Prop where
  ro : Ro w L a (i64s l)
  nz : a = none → l.length = 0
  cap : l.length ≤ c
  small : l.length ≤ 17592186043904
theorem InI64.ev {w w' : World} {L L' : List Ent} {a : Option Addr} {c : Nat} {l : List Int} (h : InI64 w L a c l) (e : Ev w L w' L') : InI64 w' L' a c l := ⟨h.ro.ev e, h.nz, h.cap, h.small⟩
theorem InI64.of {w : World} {L M : List Ent} {a : Option Addr} {c : Nat} {l : List Int} (h : InI64 w L a c l) (hm : ∀ b, Owns M b → Owns L b) : InI64 w M a c l := ⟨h.ro.of hm, h.nz, h.cap, h.small⟩
theorem InI64.pick {w : World} {L M : List Ent} {a : Option Addr} {c : Nat} {l : List Int} (h : InI64 w L a c l) (is : List Nat) (hm : M.map some = is.map (fun i => L[i]?)) : InI64 w M a c l := ⟨h.ro.pick is hm, h.nz, h.cap, h.small⟩
theorem InI64.reads {w : World} {L : List Ent} {a : Option Addr} {c : Nat} {l : List Int} (h : InI64 w L a c l) : Reads w a (i64s l) := h.ro.reads
theorem InI64.nil (w : World) (L : List Ent) : InI64 w L none 0 [] := ⟨⟨rfl, fun _ h => by cases h⟩, fun _ => rfl, Nat.le_refl _, by simp⟩
theorem i64s_in {w : World} {L M : List Ent} (h : Heap w L) {k : Nat} {a : Option Addr} {cap : Nat} {l : List Int} {T : TypeId} (hk : L[k]? = some (.vec a cap 1 (i64s l) T))
    (is : List Nat) (hm : M.map some = is.map (fun i => L[i]?)) (hn : is.contains k = false) (hs : l.length ≤ 17592186043904) : InI64 w M a cap l := by
  refine ⟨h.ro hk is hm hn, fun ha => ?_, ?_, hs⟩
  · subst ha
    have := (h.holds k _ hk).2
    have h2 := i64s_length l
    rw [this] at h2
    simpa using h2.symm
  · have hh := h.holds k _ hk
    cases a with
    | none => have h2 := i64s_length l; rw [hh.2] at h2; simp at h2; omega
    | some ad => have := hh.2.2.1; rw [i64s_length] at this; omega

theorem i64s_vnz {w : World} {L : List Ent} (h : Heap w L) {k : Nat} {a : Option Addr} {cap : Nat} {l : List Int} {T : TypeId} (hk : L[k]? = some (.vec a cap 1 (i64s l) T)) : a = none → l.length = 0 := by
  intro ha
  subst ha
  have := (h.holds k _ hk).2
  have h2 := i64s_length l
  rw [this] at h2
  simpa using h2.symm
theorem i64s_vcap {w : World} {L : List Ent} (h : Heap w L) {k : Nat} {a : Option Addr} {cap : Nat} {l : List Int} {T : TypeId} (hk : L[k]? = some (.vec a cap 1 (i64s l) T)) : l.length ≤ cap := by
  have hh := h.holds k _ hk
  cases a with
  | none => have h2 := i64s_length l; rw [hh.2] at h2; simp at h2; omega
  | some ad => have := hh.2.2.1; rw [i64s_length] at this; omega
end Go.Dbr
