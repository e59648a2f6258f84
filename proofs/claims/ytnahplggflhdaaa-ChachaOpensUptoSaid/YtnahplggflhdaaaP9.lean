/- Layer 9: the tag: the walks. -/
import Derived.Test.YtnahplggflhdaaaC5
import Derived.Test.YtnahplggflhdaaaP8
import Derived.Test.YtnahplggflhdaaaZero
namespace Go.Proofs.Ytnahplggflhdaaa
open Go.Dbr
set_option maxRecDepth 100000
set_option maxHeartbeats 2000000
set_option linter.unusedVariables false
set_option linter.unusedSimpArgs false

def pad16 (l : List UInt8) : List UInt8 := l ++ List.replicate ((16 - l.length % 16) % 16) 0
def lenB (n i : Nat) : UInt8 := UInt64.toUInt8 (UInt64.ofNat n >>> UInt64.ofNat (8 * i))
def len8 (n k : Nat) : List UInt8 := (List.range k).map (lenB n)
def taggedF (a m : List UInt8) : List UInt8 := ((pad16 a ++ pad16 m) ++ len8 a.length 8) ++ len8 m.length 8
def tagF (k n a m : List UInt8) : List UInt8 := polyF (List.take 32 (blockF k 0 n)) (taggedF a m)
theorem tagF_len (k n a m : List UInt8) : (tagF k n a m).length = 16 := polyF_len _ _
theorem pad16_le (l : List UInt8) : (pad16 l).length ≤ l.length + 15 ∧ (pad16 l).length % 16 = 0 := by
  simp [pad16]
  omega
theorem len8_len (n k : Nat) : (len8 n k).length = k := by simp [len8]
theorem taggedF_le (a m : List UInt8) : (taggedF a m).length ≤ a.length + m.length + 46 := by
  have h1 := (pad16_le a).1
  have h2 := (pad16_le m).1
  unfold taggedF
  simp only [List.length_append, len8_len]
  omega
theorem len8_next (n k : Nat) : len8 n k ++ [lenB n k] = len8 n (k + 1) := snoc_map k
theorem pads_eq (a m : List UInt8) : ((a ++ List.replicate ((16 - a.length % 16) % 16) 0) ++ m) ++ List.replicate ((16 - m.length % 16) % 16) 0 = pad16 a ++ pad16 m := by
  simp [pad16]
theorem len8_start (l : List UInt8) (n : Nat) : l = l ++ len8 n 0 := by simp [len8]
theorem len8_step {B : List UInt8} {n k : Nat} : (B ++ len8 n k) ++ [lenB n k] = B ++ len8 n (k + 1) := by rw [List.append_assoc, len8_next]
def sameF (a b : List UInt8) : Nat → UInt8
  | 0 => 0
  | i + 1 => sameF a b i ||| (List.getD a i 0 ^^^ List.getD b i 0)
theorem or_zero {x y : UInt8} : x ||| y = 0 ↔ x = 0 ∧ y = 0 := by
  constructor
  · intro h
    have h1 : x.toNat ||| y.toNat = 0 := by rw [← UInt8.toNat_or, h]; rfl
    have h2 := Nat.or_eq_zero_iff.1 h1
    exact ⟨UInt8.toNat_inj.1 h2.1, UInt8.toNat_inj.1 h2.2⟩
  · rintro ⟨rfl, rfl⟩; rfl
theorem xor_zero {x y : UInt8} : x ^^^ y = 0 ↔ x = y := by
  constructor
  · intro h
    have : x ^^^ y ^^^ y = 0 ^^^ y := by rw [h]
    rwa [UInt8.xor_assoc, UInt8.xor_self, UInt8.xor_zero, UInt8.zero_xor] at this
  · rintro rfl; exact UInt8.xor_self
theorem sameF_zero {a b : List UInt8} (k : Nat) : sameF a b k = 0 ↔ ∀ j, j < k → List.getD a j 0 = List.getD b j 0 := by
  induction k with
  | zero => exact ⟨fun _ j h => absurd h (Nat.not_lt_zero j), fun _ => rfl⟩
  | succ k ih =>
    rw [sameF, or_zero, xor_zero, ih]
    constructor
    · rintro ⟨h1, h2⟩ j hj
      by_cases e : j = k
      · subst e; exact h2
      · exact h1 j (by omega)
    · intro h
      exact ⟨fun j hj => h j (by omega), h k (by omega)⟩
theorem same_eq {a b : List UInt8} (h : a.length = b.length) : (((UInt8.toNat (sameF a b a.length) : Nat) : Int) == (0 : Int)) = (a == b) := by
  have e : a = b ↔ sameF a b a.length = 0 := by
    rw [sameF_zero]
    constructor
    · rintro rfl _ _; rfl
    · intro hj
      apply List.ext_getElem h
      intro i h1 h2
      have := hj i h1
      simpa [List.getD, h1, h2] using this
  by_cases hc : a = b
  · rw [beq_iff_eq.2 hc, e.1 hc]; rfl
  · rw [beq_eq_false_iff_ne.2 hc]
    have h0 : sameF a b a.length ≠ 0 := fun q => hc (e.2 q)
    have h1 : (sameF a b a.length).toNat ≠ 0 := fun q => h0 (UInt8.toNat_inj.1 q)
    exact beq_eq_false_iff_ne.2 (by omega)

theorem same_go (w : World) (ax : Option Addr) (nx cx : Nat) (lx : List UInt8) (ex : nx = List.length lx) (ix : InB w [] ax cx lx) (ay : Option Addr) (ny cy : Nat) (ly : List UInt8) (ey : ny = List.length ly) (iy : InB w [] ay cy ly) : Calls Try.prog 31 #[.slice ax nx cx, .slice ay ny cy] w fun e w' => e = .returned (.bool (lx == ly)) ∧ Ev w [] w' [] := by
 subst ex
 subst ey
 have hs := ix.small
 have hcx := ix.cap
 have hs2 := iy.small
 have hcy := iy.cap
 refine d_start [(0, .slice ax (List.length lx) cx), (1, .slice ay (List.length ly) cy)] 31 Go.Proofs.Try.func31 Go.Proofs.Try.ntmps31 rfl (by kernel_rfl) (by kernel_rfl) ?_
 intro act0 En0
 have Hv0 : Ev w [] w [] := Ev.refl (Heap.nil _)
 refine wp_seq ?_
 refine region_from ?_
 refine d_pures [(0, .slice ax (List.length lx) cx), (1, .slice ay (List.length ly) cy), (4, .bool false)] [.bool false] 1 En0 (by kernel_rfl) (by kernel_rfl) rfl ?_
 intro ac1 En2
 refine from_end (by kernel_rfl) ?_
 refine then_normal ?_
 refine wp_seq ?_
 refine wp_seq ?_
 refine region_from ?_
 refine d_pures [(0, .slice ax (List.length lx) cx), (1, .slice ay (List.length ly) cy), (4, .bool false), (11, .bool (((List.length lx : Nat) : Int) != ((List.length ly : Nat) : Int)))] [.slice ax (List.length lx) cx, .int .i64 ((List.length lx : Nat) : Int), .slice ay (List.length ly) cy, .int .i64 ((List.length ly : Nat) : Int), .bool (((List.length lx : Nat) : Int) != ((List.length ly : Nat) : Int))] 5 En2 (by kernel_rfl) (by kernel_rfl) rfl ?_
 intro ac3 En4
 refine from_end (by kernel_rfl) ?_
 refine then_normal ?_
 refine cond_at En4 (t := ((List.length lx : Nat) : Int) != ((List.length ly : Nat) : Int)) (by kernel_rfl) (fun hc5 => ?_) (fun hc5 => ?_)
 ·
  replace hc5 : ¬ (((List.length lx : Nat) : Int) = ((List.length ly : Nat) : Int)) := by simpa using hc5
  refine wp_seq ?_
  refine region_from ?_
  refine d_pures [(0, .slice ax (List.length lx) cx), (1, .slice ay (List.length ly) cy), (4, .bool false)] [.bool false] 1 En4 (by kernel_rfl) (by kernel_rfl) rfl ?_
  intro ac6 En7
  refine from_end (by kernel_rfl) ?_
  refine then_normal ?_
  refine wp_ret ?_
  refine then_ret ?_
  refine d_ret1 (t := 4) (v := .bool false) En7 (by kernel_rfl) (by kernel_rfl) ?_
  have hne : (lx == ly) = false := beq_eq_false_iff_ne.2 (fun q => by subst q; omega)
  exact ⟨by rw [hne], Hv0.pick [] (by kernel_rfl) (by decide)⟩
 ·
  replace hc5 : ((List.length lx : Nat) : Int) = ((List.length ly : Nat) : Int) := by simpa using hc5
  refine wp_skip ?_
  refine then_normal ?_
  refine wp_seq ?_
  refine region_from ?_
  refine d_pures [(0, .slice ax (List.length lx) cx), (1, .slice ay (List.length ly) cy), (4, .bool false), (5, .int .u8 0)] [.int .u8 0] 1 En4 (by kernel_rfl) (by kernel_rfl) rfl ?_
  intro ac8 En9
  refine from_end (by kernel_rfl) ?_
  refine then_normal ?_
  refine wp_seq ?_
  refine wp_seq ?_
  refine region_from ?_
  refine d_pures [(0, .slice ax (List.length lx) cx), (1, .slice ay (List.length ly) cy), (4, .bool false), (5, .int .u8 0), (13, .int .i64 ((List.length lx : Nat) : Int)), (14, .int .i64 0)] [.slice ax (List.length lx) cx, .int .i64 ((List.length lx : Nat) : Int), .int .i64 0] 3 En9 (by kernel_rfl) (by kernel_rfl) rfl ?_
  intro ac10 En11
  refine from_end (by kernel_rfl) ?_
  refine then_normal ?_
  refine wp_block ?_
  refine loop_m (fun ms12 ac wo => ∃ (i : Nat) (u : UInt8), ms12 = (List.length lx - i : Nat) ∧ Env ac 31 [(0, .slice ax (List.length lx) cx), (1, .slice ay (List.length ly) cy), (4, .bool false), (5, bv u), (13, .int .i64 ((List.length lx : Nat) : Int)), (14, ni i)] ∧ Ev w [] wo [] ∧ (i ≤ List.length lx) ∧ (u = sameF lx ly i)) ⟨_, 0, 0, rfl, En11.sub (by kernel_rfl), Hv0.pick [] (by kernel_rfl) (by decide), by omega, rfl⟩ ?_
  rintro mm18 ac14 wo15 ⟨i, u, rfl, En16, Hv17, hi, hu⟩
  refine wp_seq ?_
  refine region_from ?_
  refine d_pures [(0, .slice ax (List.length lx) cx), (1, .slice ay (List.length ly) cy), (4, .bool false), (5, bv u), (13, .int .i64 ((List.length lx : Nat) : Int)), (14, ni i), (15, .bool (decide (((i : Nat) : Int) < ((List.length lx : Nat) : Int))))] [.bool (decide (((i : Nat) : Int) < ((List.length lx : Nat) : Int)))] 1 En16 (by kernel_rfl) (by kernel_rfl) rfl ?_
  intro ac19 En20
  refine from_end (by kernel_rfl) ?_
  refine then_normal ?_
  refine wp_seq ?_
  refine cond_at En20 (t := decide (((i : Nat) : Int) < ((List.length lx : Nat) : Int))) (by kernel_rfl) (fun hc21 => ?_) (fun hc21 => ?_)
  ·
   replace hc21 : ((i : Nat) : Int) < ((List.length lx : Nat) : Int) := of_decide_eq_true hc21
   refine wp_skip ?_
   refine then_normal ?_
   refine wp_seq ?_
   refine wp_block ?_
   refine wp_seq ?_
   refine region_from ?_
   refine d_pures [(0, .slice ax (List.length lx) cx), (1, .slice ay (List.length ly) cy), (4, .bool false), (5, bv u), (6, ni i), (13, .int .i64 ((List.length lx : Nat) : Int)), (14, ni i)] [ni i, ni i] 2 En20 (by kernel_rfl) (by kernel_rfl) rfl ?_
   intro ac22 En23
   refine from_end (by kernel_rfl) ?_
   refine then_normal ?_
   refine region_cut (F := fun ac wo => Env ac 31 [(0, .slice ax (List.length lx) cx), (1, .slice ay (List.length ly) cy), (4, .bool false), (5, .int .u8 ((UInt8.toNat (u ||| ((List.getD lx i 0) ^^^ (List.getD ly i 0))) : Nat) : Int)), (13, .int .i64 ((List.length lx : Nat) : Int)), (14, ni i)] ∧ Ev w [] wo []) ?_ ?_
   ·
    refine h_start (fun wv => Ev w [] wv []) [] (by kernel_rfl) 12 (by kernel_rfl) ?_
    have wo24 := Hv17.trans (Ev.drew Hv17.heap)
    refine h_pureR (d := some 17) En23 (v := bv u) 0 (by kernel_rfl) (by kernel_rfl) rfl (fun _ => wo24.pick [] (by kernel_rfl) (by decide)) ?_
    intro ac101 En102
    refine h_pureR (d := some 18) En102 (v := .slice ax (List.length lx) cx) 1 (by kernel_rfl) (by kernel_rfl) rfl (fun _ => wo24.pick [] (by kernel_rfl) (by decide)) ?_
    intro ac103 En104
    refine h_pureR (d := some 19) En104 (v := ni i) 2 (by kernel_rfl) (by kernel_rfl) rfl (fun _ => wo24.pick [] (by kernel_rfl) (by decide)) ?_
    intro ac105 En106
    have hb109 : i < List.length lx := (by omega)
    obtain ⟨adr107, had108⟩ := some_of ix.nz hb109
    refine h_free (d := some 20) (s := nv (Instr.indexAt 25 (.slice ax (List.length lx) cx) (ni i))) En106 (v := .pointer (some (Addr.add adr107 i))) 3 (by kernel_rfl) (fun _ => run_nv (Go.Dbr.run_indexsl (e := 5) (sz := 1) (j := i) (jo := i) had108 (by kernel_rfl) (by kernel_rfl) (by omega) hb109 (Nat.mul_one _) _)) (by kernel_rfl) rfl (fun _ => wo24.pick [] (by kernel_rfl) (by decide)) ?_
    intro ac110 En111
    have hb112 : i < List.length lx := by omega
    refine h_read (d := some 21) (s := nv (Instr.loadAt 5 (.pointer (some (Addr.add adr107 i))))) En111 (v := .int .u8 ((UInt8.toNat (List.getD lx i 0) : Nat) : Int)) 4 (by kernel_rfl) (fun w hS => run_nv (run_loadel (ad := adr107) (o := i) rfl (ix.ev hS).reads had108 (bys_getD hb112) (by kernel_rfl))) (by kernel_rfl) rfl (wo24.pick [] (by kernel_rfl) (by decide)) ?_
    intro ac113 En114
    refine h_pureR (d := some 22) En114 (v := .slice ay (List.length ly) cy) 5 (by kernel_rfl) (by kernel_rfl) rfl (fun _ => wo24.pick [] (by kernel_rfl) (by decide)) ?_
    intro ac115 En116
    refine h_pureR (d := some 23) En116 (v := ni i) 6 (by kernel_rfl) (by kernel_rfl) rfl (fun _ => wo24.pick [] (by kernel_rfl) (by decide)) ?_
    intro ac117 En118
    have hb121 : i < List.length ly := (by omega)
    obtain ⟨adr119, had120⟩ := some_of iy.nz hb121
    refine h_free (d := some 24) (s := nv (Instr.indexAt 25 (.slice ay (List.length ly) cy) (ni i))) En118 (v := .pointer (some (Addr.add adr119 i))) 7 (by kernel_rfl) (fun _ => run_nv (Go.Dbr.run_indexsl (e := 5) (sz := 1) (j := i) (jo := i) had120 (by kernel_rfl) (by kernel_rfl) (by omega) hb121 (Nat.mul_one _) _)) (by kernel_rfl) rfl (fun _ => wo24.pick [] (by kernel_rfl) (by decide)) ?_
    intro ac122 En123
    have hb124 : i < List.length ly := by omega
    refine h_read (d := some 25) (s := nv (Instr.loadAt 5 (.pointer (some (Addr.add adr119 i))))) En123 (v := .int .u8 ((UInt8.toNat (List.getD ly i 0) : Nat) : Int)) 8 (by kernel_rfl) (fun w hS => run_nv (run_loadel (ad := adr119) (o := i) rfl (iy.ev hS).reads had120 (bys_getD hb124) (by kernel_rfl))) (by kernel_rfl) rfl (wo24.pick [] (by kernel_rfl) (by decide)) ?_
    intro ac125 En126
    refine h_pureR (d := some 26) En126 (v := .int .u8 (IntKind.wrap .u8 ((BitVec.ofInt (IntKind.bits .u8) ((UInt8.toNat (List.getD lx i 0) : Nat) : Int) ^^^ BitVec.ofInt (IntKind.bits .u8) ((UInt8.toNat (List.getD ly i 0) : Nat) : Int)).toNat : Int))) 9 (by kernel_rfl) (by kernel_rfl) rfl (fun _ => wo24.pick [] (by kernel_rfl) (by decide)) ?_
    intro ac127 En128
    rw [Go.Dbr.u8_xor (a := ((UInt8.toNat (List.getD lx i 0) : Nat) : Int)) (b := ((UInt8.toNat (List.getD ly i 0) : Nat) : Int)) (x := List.getD lx i 0) (y := List.getD ly i 0) rfl rfl] at En128
    refine h_pureR (d := some 27) En128 (v := .int .u8 (IntKind.wrap .u8 ((BitVec.ofInt (IntKind.bits .u8) ((UInt8.toNat u : Nat) : Int) ||| BitVec.ofInt (IntKind.bits .u8) ((UInt8.toNat ((List.getD lx i 0) ^^^ (List.getD ly i 0)) : Nat) : Int)).toNat : Int))) 10 (by kernel_rfl) (by kernel_rfl) rfl (fun _ => wo24.pick [] (by kernel_rfl) (by decide)) ?_
    intro ac129 En130
    rw [Go.Dbr.u8_or (a := ((UInt8.toNat u : Nat) : Int)) (b := ((UInt8.toNat ((List.getD lx i 0) ^^^ (List.getD ly i 0)) : Nat) : Int)) (x := u) (y := (List.getD lx i 0) ^^^ (List.getD ly i 0)) rfl rfl] at En130
    refine h_pureR (d := some 5) En130 (v := .int .u8 ((UInt8.toNat (u ||| ((List.getD lx i 0) ^^^ (List.getD ly i 0))) : Nat) : Int)) 11 (by kernel_rfl) (by kernel_rfl) rfl (fun _ => wo24.pick [] (by kernel_rfl) (by decide)) ?_
    intro ac131 En132
    exact h_end (by kernel_rfl) ⟨En132.sub (by kernel_rfl), wo24.pick [] (by kernel_rfl) (by decide)⟩
   rintro ac133 wo134 ⟨En135, Hv136⟩
   refine block_normal ?_
   refine then_normal ?_
   refine region_from ?_
   refine d_pures [(0, .slice ax (List.length lx) cx), (1, .slice ay (List.length ly) cy), (4, .bool false), (5, .int .u8 ((UInt8.toNat (u ||| ((List.getD lx i 0) ^^^ (List.getD ly i 0))) : Nat) : Int)), (13, .int .i64 ((List.length lx : Nat) : Int)), (14, ni i), (28, .int .i64 (IntKind.wrap .i64 (((i : Nat) : Int) + (1 : Int))))] [.int .i64 (IntKind.wrap .i64 (((i : Nat) : Int) + (1 : Int)))] 1 En135 (by kernel_rfl) (by kernel_rfl) rfl ?_
   intro ac137 En138
   rw [Go.Dbr.wr64 (e := ((i : Nat) : Int) + (1 : Int)) (x := ((i + 1 : Nat) : Int)) (by omega) (by omega) (by omega)] at En138
   refine d_pures [(0, .slice ax (List.length lx) cx), (1, .slice ay (List.length ly) cy), (4, .bool false), (5, .int .u8 ((UInt8.toNat (u ||| ((List.getD lx i 0) ^^^ (List.getD ly i 0))) : Nat) : Int)), (13, .int .i64 ((List.length lx : Nat) : Int)), (14, .int .i64 ((i + 1 : Nat) : Int))] [.int .i64 ((i + 1 : Nat) : Int)] 2 En138 (by kernel_rfl) (by kernel_rfl) rfl ?_
   intro ac139 En140
   refine from_end (by kernel_rfl) ?_
   refine then_normal ?_
   refine ⟨_, ⟨i + 1, (u ||| ((List.getD lx i 0) ^^^ (List.getD ly i 0))), rfl, En140.sub (by kernel_rfl), Hv136.pick [] (by kernel_rfl) (by decide), by omega, by rw [hu]; rfl⟩, ?_⟩
   omega
  ·
   replace hc21 : ¬ (((i : Nat) : Int) < ((List.length lx : Nat) : Int)) := of_decide_eq_false hc21
   refine wp_exit ?_
   refine then_exit ?_
   refine then_exit ?_
   refine block_exit ?_
   refine then_normal ?_
   refine wp_seq ?_
   refine region_from ?_
   refine d_pures [(0, .slice ax (List.length lx) cx), (1, .slice ay (List.length ly) cy), (4, .bool (((UInt8.toNat u : Nat) : Int) == (0 : Int))), (5, bv u), (13, .int .i64 ((List.length lx : Nat) : Int)), (14, ni i)] [bv u, .bool (((UInt8.toNat u : Nat) : Int) == (0 : Int)), .bool (((UInt8.toNat u : Nat) : Int) == (0 : Int))] 3 En20 (by kernel_rfl) (by kernel_rfl) rfl ?_
   intro ac141 En142
   refine from_end (by kernel_rfl) ?_
   refine then_normal ?_
   refine wp_ret ?_
   refine d_ret1 (t := 4) (v := .bool (((UInt8.toNat u : Nat) : Int) == (0 : Int))) En142 (by kernel_rfl) (by kernel_rfl) ?_
   have hii : i = List.length lx := by omega
   have hll : List.length lx = List.length ly := by omega
   exact ⟨by rw [← same_eq hll, hu, hii], Hv17.pick [] (by kernel_rfl) (by decide)⟩

theorem tag_go (w : World) (lk : List UInt8) (hk : List.length lk = 32) (ln : List UInt8) (hn : List.length ln = 12) (aa : Option Addr) (na ca : Nat) (la : List UInt8) (ea : na = List.length la) (ia : InB w [] aa ca la) (am : Option Addr) (nm cm : Nat) (lm : List UInt8) (em : nm = List.length lm) (im : InB w [] am cm lm) (hB : List.length la + List.length lm ≤ 1099511627776) : Calls Try.prog 30 #[.agg (List.toArray (bys lk)), .agg (List.toArray (bys ln)), .slice aa na ca, .slice am nm cm] w fun e w' => ∃ b, e = .returned (.slice (some ⟨b, 0, none⟩) 16 16) ∧ Ev w [] w' [.box b (bys (tagF lk ln la lm)) 31] := by
 subst ea
 subst em
 have hsa := ia.small
 have hca := ia.cap
 have hsm := im.small
 have hcm := im.cap
 refine d_start [(0, .agg (List.toArray (bys lk))), (1, .agg (List.toArray (bys ln))), (2, .slice aa (List.length la) ca), (3, .slice am (List.length lm) cm)] 67 Go.Proofs.Try.func30 Go.Proofs.Try.ntmps30 rfl (by kernel_rfl) (by kernel_rfl) ?_
 intro act0 En0
 have Hv0 : Ev w [] w [] := Ev.refl (Heap.nil _)
 refine wp_seq ?_
 refine region_from ?_
 refine from_op (by kernel_rfl) ?_
 refine op_newbox (d := some 4) (T := 22) (v := .agg (List.toArray (bys lk))) (cs := bys lk) En0 (by kernel_rfl) rfl Hv0 ?_
 intro ac2 wo3 bk1 En4 Hv5
 refine from_op (by kernel_rfl) ?_
 refine op_newbox (d := some 5) (T := 24) (v := .agg (List.toArray (bys ln))) (cs := bys ln) En4 (by kernel_rfl) rfl Hv5 ?_
 intro ac7 wo8 bk6 En9 Hv10
 refine d_pures [(2, .slice aa (List.length la) ca), (3, .slice am (List.length lm) cm), (4, pt bk1), (5, pt bk6), (8, .slice none 0 0)] [.slice none 0 0] 3 En9 (by kernel_rfl) (by kernel_rfl) rfl ?_
 intro ac11 En12
 refine from_end (by kernel_rfl) ?_
 refine then_normal ?_
 refine wp_seq ?_
 refine region_from ?_
 refine d_pures [(2, .slice aa (List.length la) ca), (3, .slice am (List.length lm) cm), (4, pt bk1), (5, pt bk6), (8, .slice none 0 0), (9, .slice none 0 0)] [.slice none 0 0] 1 En12 (by kernel_rfl) (by kernel_rfl) rfl ?_
 intro ac13 En14
 refine from_end (by kernel_rfl) ?_
 refine then_normal ?_
 refine wp_seq ?_
 refine wp_seq ?_
 refine region_from ?_
 refine d_pures [(2, .slice aa (List.length la) ca), (3, .slice am (List.length lm) cm), (4, pt bk1), (5, pt bk6), (8, .slice none 0 0), (9, .slice none 0 0), (17, .slice aa (List.length la) ca), (18, .slice am (List.length lm) cm)] [.slice aa (List.length la) ca, .slice am (List.length lm) cm] 2 En14 (by kernel_rfl) (by kernel_rfl) rfl ?_
 intro ac15 En16
 refine from_op (by kernel_rfl) ?_
 refine op_lit (d := some 19) (t := 70) (T := 25) (m := 2) (parts := #[(0, .slice aa (List.length la) ca), (1, .slice am (List.length lm) cm)]) (xs := [.slice aa (List.length la) ca, .slice am (List.length lm) cm]) (sz := 1) En16 (by kernel_rfl) (by kernel_rfl) rfl (by decide) Hv10 ?_
 intro ac18 wo19 bk17 En20 Hv21
 refine d_pures [(2, .slice aa (List.length la) ca), (3, .slice am (List.length lm) cm), (4, pt bk1), (5, pt bk6), (8, .slice none 0 0), (9, .slice none 0 0), (19, .slice (some ⟨bk17, 0, none⟩) 2 2), (20, .int .i64 2), (21, .int .i64 0)] [.int .i64 2, .int .i64 0] 5 En20 (by kernel_rfl) (by kernel_rfl) rfl ?_
 intro ac22 En23
 refine from_end (by kernel_rfl) ?_
 refine then_normal ?_
 refine wp_block ?_
 refine loop_enter ?_
 refine loop_once ?_
 refine wp_seq ?_
 refine region_from ?_
 refine d_pures [(2, .slice aa (List.length la) ca), (3, .slice am (List.length lm) cm), (4, pt bk1), (5, pt bk6), (8, .slice none 0 0), (9, .slice none 0 0), (19, .slice (some ⟨bk17, 0, none⟩) 2 2), (20, .int .i64 2), (21, .int .i64 0), (22, .bool true)] [.bool true] 1 En23 (by kernel_rfl) (by kernel_rfl) rfl ?_
 intro ac24 En25
 refine from_end (by kernel_rfl) ?_
 refine then_normal ?_
 refine wp_seq ?_
 refine cond_true En25 (t := true) (by kernel_rfl) rfl ?_
 refine wp_skip ?_
 refine then_normal ?_
 refine wp_seq ?_
 refine wp_block ?_
 refine wp_seq ?_
 refine region_from ?_
 have hb28 : 0 < 2 := (by omega)
 refine from_op (by kernel_rfl) ?_
 refine op_val (d := some 23) (x := Instr.indexAt 70 (.slice (some ⟨bk17, 0, none⟩) 2 2) (.int .i64 0)) (v := .pointer (some (Addr.add ⟨bk17, 0, none⟩ 0))) En25 (by kernel_rfl) (Go.Dbr.run_indexsl (e := 25) (sz := 1) (j := 0) (jo := 0) rfl (by kernel_rfl) (by kernel_rfl) (by omega) hb28 (Nat.mul_one _) _) ?_
 intro ac29 En30
 refine from_op (by kernel_rfl) ?_
 refine op_loadel (d := some 24) (t := 25) (ad := ⟨bk17, 0, none⟩) (ao := some ⟨bk17, 0, none⟩) (xs := [.slice aa (List.length la) ca, .slice am (List.length lm) cm]) (j := 0) (v := .slice aa (List.length la) ca) En30 (by kernel_rfl) (Hv21.heap.reads (k := 2) rfl) rfl rfl (by kernel_rfl) ?_
 intro ac31 En32
 refine d_pures [(2, .slice aa (List.length la) ca), (3, .slice am (List.length lm) cm), (4, pt bk1), (5, pt bk6), (8, .slice none 0 0), (9, .slice none 0 0), (11, .slice aa (List.length la) ca), (19, .slice (some ⟨bk17, 0, none⟩) 2 2), (20, .int .i64 2), (21, .int .i64 0)] [.slice aa (List.length la) ca] 3 En32 (by kernel_rfl) (by kernel_rfl) rfl ?_
 intro ac33 En34
 refine from_end (by kernel_rfl) ?_
 refine then_normal ?_
 refine wp_seq ?_
 refine region_from ?_
 refine d_pures [(2, .slice aa (List.length la) ca), (3, .slice am (List.length lm) cm), (4, pt bk1), (5, pt bk6), (8, .slice none 0 0), (9, .slice none 0 0), (11, .slice aa (List.length la) ca), (19, .slice (some ⟨bk17, 0, none⟩) 2 2), (20, .int .i64 2), (21, .int .i64 0), (25, .slice none 0 0), (26, .slice aa (List.length la) ca)] [.slice none 0 0, .slice aa (List.length la) ca] 2 En34 (by kernel_rfl) (by kernel_rfl) rfl ?_
 intro ac35 En36
 refine from_op (by kernel_rfl) ?_
 have Hv37 : Ev w [] wo19 [.box bk1 (bys lk) 22, .box bk6 (bys ln) 24, .vec (some ⟨bk17, 0, none⟩) 2 1 [.slice aa (List.length la) ca, .slice am (List.length lm) cm] 25, .vec none 0 1 (bys []) 5] := Ev.nil (sz := 1) (T := 5) Hv21
 have hsm38 := ia.small
 refine op_append (d := some 27) (t := 25) (tx := 25) (ty := 25) (k := 3) (p := 0) (m := List.length la) (x := .slice aa (List.length la) ca) (bytes := 1) En36 (by kernel_rfl) Hv37 rfl (bys_lenn (by simp)) (Reads.src (size := 1) (tx := 25) (e' := 5) (by kernel_rfl) (ia.ev Hv37).reads (bys_len _) ia.nz (bys_one _)) (by kernel_rfl) (z := .int .u8 0) (by kernel_rfl) rfl (by decide) (by omega) (by unfold maxLen; omega) ?_
 intro ac43 wo44 ao39 cp40 En45 Hv46 _ _
 rw [bys_nil_append] at Hv46
 have ehz41 : 0 + (List.length la) = List.length la := (by first | (simp; done) | (simp; omega) | omega)
 rw [ehz41] at En45
 refine d_pures [(2, .slice aa (List.length la) ca), (3, .slice am (List.length lm) cm), (4, pt bk1), (5, pt bk6), (8, .slice none 0 0), (9, .slice ao39 (List.length la) cp40), (11, .slice aa (List.length la) ca), (19, .slice (some ⟨bk17, 0, none⟩) 2 2), (20, .int .i64 2), (21, .int .i64 0)] [.slice ao39 (List.length la) cp40] 4 En45 (by kernel_rfl) (by kernel_rfl) rfl ?_
 intro ac47 En48
 refine from_end (by kernel_rfl) ?_
 refine then_normal ?_
 refine region_from ?_
 refine d_pures [(2, .slice aa (List.length la) ca), (3, .slice am (List.length lm) cm), (4, pt bk1), (5, pt bk6), (8, .slice none 0 0), (9, .slice ao39 (List.length la) cp40), (11, .slice aa (List.length la) ca), (19, .slice (some ⟨bk17, 0, none⟩) 2 2), (20, .int .i64 2), (21, .int .i64 0), (28, .slice ao39 (List.length la) cp40), (31, .int .i64 (IntKind.wrap .i64 ((0 : Int) - ((List.length la : Nat) : Int))))] [.slice ao39 (List.length la) cp40, .slice aa (List.length la) ca, .int .i64 ((List.length la : Nat) : Int), .int .i64 (IntKind.wrap .i64 ((0 : Int) - ((List.length la : Nat) : Int)))] 4 En48 (by kernel_rfl) (by kernel_rfl) rfl ?_
 intro ac49 En50
 rw [Go.Dbr.wr64 (e := (0 : Int) - ((List.length la : Nat) : Int)) (x := -((List.length la : Nat) : Int)) (by omega) (by omega) (by omega)] at En50
 refine d_pures [(2, .slice aa (List.length la) ca), (3, .slice am (List.length lm) cm), (4, pt bk1), (5, pt bk6), (8, .slice none 0 0), (9, .slice ao39 (List.length la) cp40), (11, .slice aa (List.length la) ca), (19, .slice (some ⟨bk17, 0, none⟩) 2 2), (20, .int .i64 2), (21, .int .i64 0), (28, .slice ao39 (List.length la) cp40), (32, .int .i64 (IntKind.wrap .i64 ((BitVec.ofInt (IntKind.bits .i64) (-((List.length la : Nat) : Int)) &&& BitVec.ofInt (IntKind.bits .i64) (15 : Int)).toNat : Int)))] [.int .i64 (IntKind.wrap .i64 ((BitVec.ofInt (IntKind.bits .i64) (-((List.length la : Nat) : Int)) &&& BitVec.ofInt (IntKind.bits .i64) (15 : Int)).toNat : Int))] 5 En50 (by kernel_rfl) (by kernel_rfl) rfl ?_
 intro ac51 En52
 rw [Go.Dbr.i64_mask (-((List.length la : Nat) : Int)) 4 15 (mi := 15) rfl (by decide) (by decide), show (-((List.length la : Nat) : Int)) % (2 ^ 4 : Int) = (((16 - (List.length la) % 16) % 16 : Nat) : Int) from by omega] at En52
 refine from_op (by kernel_rfl) ?_
 refine op_appzeros (d := some 33) (t := 25) (tn := 3) (tx := 9) (ty := 25) (T := 5) (kn := .i64) (ik := .i64) (k := 3) (p := List.length la) (m := (16 - (List.length la) % 16) % 16) (xs := la) En52 (by kernel_rfl) Hv46 rfl rfl (by kernel_rfl) (by kernel_rfl) (by kernel_rfl) (by kernel_rfl) (by omega) ?_
 intro ac56 wo57 ao53 cp54 En58 Hv59 _ _
 have ehz55 : (List.length la) + ((16 - (List.length la) % 16) % 16) = List.length (la ++ List.replicate ((16 - (List.length la) % 16) % 16) 0) := (by first | (simp; done) | (simp; omega) | omega)
 rw [ehz55] at En58
 refine d_pures [(2, .slice aa (List.length la) ca), (3, .slice am (List.length lm) cm), (4, pt bk1), (5, pt bk6), (8, .slice none 0 0), (9, .slice ao53 (List.length (la ++ List.replicate ((16 - (List.length la) % 16) % 16) 0)) cp54), (11, .slice aa (List.length la) ca), (19, .slice (some ⟨bk17, 0, none⟩) 2 2), (20, .int .i64 2), (21, .int .i64 0)] [.slice ao53 (List.length (la ++ List.replicate ((16 - (List.length la) % 16) % 16) 0)) cp54] 7 En58 (by kernel_rfl) (by kernel_rfl) rfl ?_
 intro ac60 En61
 refine from_end (by kernel_rfl) ?_
 refine block_normal ?_
 refine then_normal ?_
 refine region_from ?_
 refine d_pures [(2, .slice aa (List.length la) ca), (3, .slice am (List.length lm) cm), (4, pt bk1), (5, pt bk6), (8, .slice none 0 0), (9, .slice ao53 (List.length (la ++ List.replicate ((16 - (List.length la) % 16) % 16) 0)) cp54), (11, .slice aa (List.length la) ca), (19, .slice (some ⟨bk17, 0, none⟩) 2 2), (20, .int .i64 2), (21, .int .i64 1)] [.int .i64 1, .int .i64 1] 2 En61 (by kernel_rfl) (by kernel_rfl) rfl ?_
 intro ac62 En63
 refine from_end (by kernel_rfl) ?_
 refine then_normal ?_
 refine loop_once ?_
 refine wp_seq ?_
 refine region_from ?_
 refine d_pures [(2, .slice aa (List.length la) ca), (3, .slice am (List.length lm) cm), (4, pt bk1), (5, pt bk6), (8, .slice none 0 0), (9, .slice ao53 (List.length (la ++ List.replicate ((16 - (List.length la) % 16) % 16) 0)) cp54), (11, .slice aa (List.length la) ca), (19, .slice (some ⟨bk17, 0, none⟩) 2 2), (20, .int .i64 2), (21, .int .i64 1), (22, .bool true)] [.bool true] 1 En63 (by kernel_rfl) (by kernel_rfl) rfl ?_
 intro ac64 En65
 refine from_end (by kernel_rfl) ?_
 refine then_normal ?_
 refine wp_seq ?_
 refine cond_true En65 (t := true) (by kernel_rfl) rfl ?_
 refine wp_skip ?_
 refine then_normal ?_
 refine wp_seq ?_
 refine wp_block ?_
 refine wp_seq ?_
 refine region_from ?_
 have hb68 : 1 < 2 := (by omega)
 refine from_op (by kernel_rfl) ?_
 refine op_val (d := some 23) (x := Instr.indexAt 70 (.slice (some ⟨bk17, 0, none⟩) 2 2) (.int .i64 1)) (v := .pointer (some (Addr.add ⟨bk17, 0, none⟩ 1))) En65 (by kernel_rfl) (Go.Dbr.run_indexsl (e := 25) (sz := 1) (j := 1) (jo := 1) rfl (by kernel_rfl) (by kernel_rfl) (by omega) hb68 (Nat.mul_one _) _) ?_
 intro ac69 En70
 refine from_op (by kernel_rfl) ?_
 refine op_loadel (d := some 24) (t := 25) (ad := ⟨bk17, 0, none⟩) (ao := some ⟨bk17, 0, none⟩) (xs := [.slice aa (List.length la) ca, .slice am (List.length lm) cm]) (j := 1) (v := .slice am (List.length lm) cm) En70 (by kernel_rfl) (Hv59.heap.reads (k := 2) rfl) rfl rfl (by kernel_rfl) ?_
 intro ac71 En72
 refine d_pures [(2, .slice aa (List.length la) ca), (3, .slice am (List.length lm) cm), (4, pt bk1), (5, pt bk6), (8, .slice none 0 0), (9, .slice ao53 (List.length (la ++ List.replicate ((16 - (List.length la) % 16) % 16) 0)) cp54), (11, .slice am (List.length lm) cm), (19, .slice (some ⟨bk17, 0, none⟩) 2 2), (20, .int .i64 2), (21, .int .i64 1)] [.slice am (List.length lm) cm] 3 En72 (by kernel_rfl) (by kernel_rfl) rfl ?_
 intro ac73 En74
 refine from_end (by kernel_rfl) ?_
 refine then_normal ?_
 refine wp_seq ?_
 refine region_from ?_
 refine d_pures [(2, .slice aa (List.length la) ca), (3, .slice am (List.length lm) cm), (4, pt bk1), (5, pt bk6), (8, .slice none 0 0), (9, .slice ao53 (List.length (la ++ List.replicate ((16 - (List.length la) % 16) % 16) 0)) cp54), (11, .slice am (List.length lm) cm), (19, .slice (some ⟨bk17, 0, none⟩) 2 2), (20, .int .i64 2), (21, .int .i64 1), (25, .slice ao53 (List.length (la ++ List.replicate ((16 - (List.length la) % 16) % 16) 0)) cp54), (26, .slice am (List.length lm) cm)] [.slice ao53 (List.length (la ++ List.replicate ((16 - (List.length la) % 16) % 16) 0)) cp54, .slice am (List.length lm) cm] 2 En74 (by kernel_rfl) (by kernel_rfl) rfl ?_
 intro ac75 En76
 refine from_op (by kernel_rfl) ?_
 have hsm77 := im.small
 refine op_append (d := some 27) (t := 25) (tx := 25) (ty := 25) (k := 3) (p := List.length (la ++ List.replicate ((16 - (List.length la) % 16) % 16) 0)) (m := List.length lm) (x := .slice am (List.length lm) cm) (bytes := 1) En76 (by kernel_rfl) Hv59 rfl (bys_len _) (Reads.src (size := 1) (tx := 25) (e' := 5) (by kernel_rfl) (im.ev Hv59).reads (bys_len _) im.nz (bys_one _)) (by kernel_rfl) (z := .int .u8 0) (by kernel_rfl) rfl (by decide) (by omega) (by unfold maxLen; omega) ?_
 intro ac82 wo83 ao78 cp79 En84 Hv85 _ _
 rw [← bys_append] at Hv85
 have ehz80 : (List.length (la ++ List.replicate ((16 - (List.length la) % 16) % 16) 0)) + (List.length lm) = List.length ((la ++ List.replicate ((16 - (List.length la) % 16) % 16) 0) ++ lm) := (by first | (simp; done) | (simp; omega) | omega)
 rw [ehz80] at En84
 refine d_pures [(2, .slice aa (List.length la) ca), (3, .slice am (List.length lm) cm), (4, pt bk1), (5, pt bk6), (8, .slice none 0 0), (9, .slice ao78 (List.length ((la ++ List.replicate ((16 - (List.length la) % 16) % 16) 0) ++ lm)) cp79), (11, .slice am (List.length lm) cm), (19, .slice (some ⟨bk17, 0, none⟩) 2 2), (20, .int .i64 2), (21, .int .i64 1)] [.slice ao78 (List.length ((la ++ List.replicate ((16 - (List.length la) % 16) % 16) 0) ++ lm)) cp79] 4 En84 (by kernel_rfl) (by kernel_rfl) rfl ?_
 intro ac86 En87
 refine from_end (by kernel_rfl) ?_
 refine then_normal ?_
 refine region_from ?_
 refine d_pures [(2, .slice aa (List.length la) ca), (3, .slice am (List.length lm) cm), (4, pt bk1), (5, pt bk6), (8, .slice none 0 0), (9, .slice ao78 (List.length ((la ++ List.replicate ((16 - (List.length la) % 16) % 16) 0) ++ lm)) cp79), (11, .slice am (List.length lm) cm), (19, .slice (some ⟨bk17, 0, none⟩) 2 2), (20, .int .i64 2), (21, .int .i64 1), (28, .slice ao78 (List.length ((la ++ List.replicate ((16 - (List.length la) % 16) % 16) 0) ++ lm)) cp79), (31, .int .i64 (IntKind.wrap .i64 ((0 : Int) - ((List.length lm : Nat) : Int))))] [.slice ao78 (List.length ((la ++ List.replicate ((16 - (List.length la) % 16) % 16) 0) ++ lm)) cp79, .slice am (List.length lm) cm, .int .i64 ((List.length lm : Nat) : Int), .int .i64 (IntKind.wrap .i64 ((0 : Int) - ((List.length lm : Nat) : Int)))] 4 En87 (by kernel_rfl) (by kernel_rfl) rfl ?_
 intro ac88 En89
 rw [Go.Dbr.wr64 (e := (0 : Int) - ((List.length lm : Nat) : Int)) (x := -((List.length lm : Nat) : Int)) (by omega) (by omega) (by omega)] at En89
 refine d_pures [(2, .slice aa (List.length la) ca), (3, .slice am (List.length lm) cm), (4, pt bk1), (5, pt bk6), (8, .slice none 0 0), (9, .slice ao78 (List.length ((la ++ List.replicate ((16 - (List.length la) % 16) % 16) 0) ++ lm)) cp79), (11, .slice am (List.length lm) cm), (19, .slice (some ⟨bk17, 0, none⟩) 2 2), (20, .int .i64 2), (21, .int .i64 1), (28, .slice ao78 (List.length ((la ++ List.replicate ((16 - (List.length la) % 16) % 16) 0) ++ lm)) cp79), (32, .int .i64 (IntKind.wrap .i64 ((BitVec.ofInt (IntKind.bits .i64) (-((List.length lm : Nat) : Int)) &&& BitVec.ofInt (IntKind.bits .i64) (15 : Int)).toNat : Int)))] [.int .i64 (IntKind.wrap .i64 ((BitVec.ofInt (IntKind.bits .i64) (-((List.length lm : Nat) : Int)) &&& BitVec.ofInt (IntKind.bits .i64) (15 : Int)).toNat : Int))] 5 En89 (by kernel_rfl) (by kernel_rfl) rfl ?_
 intro ac90 En91
 rw [Go.Dbr.i64_mask (-((List.length lm : Nat) : Int)) 4 15 (mi := 15) rfl (by decide) (by decide), show (-((List.length lm : Nat) : Int)) % (2 ^ 4 : Int) = (((16 - (List.length lm) % 16) % 16 : Nat) : Int) from by omega] at En91
 refine from_op (by kernel_rfl) ?_
 refine op_appzeros (d := some 33) (t := 25) (tn := 3) (tx := 9) (ty := 25) (T := 5) (kn := .i64) (ik := .i64) (k := 3) (p := List.length ((la ++ List.replicate ((16 - (List.length la) % 16) % 16) 0) ++ lm)) (m := (16 - (List.length lm) % 16) % 16) (xs := (la ++ List.replicate ((16 - (List.length la) % 16) % 16) 0) ++ lm) En91 (by kernel_rfl) Hv85 rfl rfl (by kernel_rfl) (by kernel_rfl) (by kernel_rfl) (by kernel_rfl) (by omega) ?_
 intro ac95 wo96 ao92 cp93 En97 Hv98 _ _
 have ehz94 : (List.length ((la ++ List.replicate ((16 - (List.length la) % 16) % 16) 0) ++ lm)) + ((16 - (List.length lm) % 16) % 16) = List.length (((la ++ List.replicate ((16 - (List.length la) % 16) % 16) 0) ++ lm) ++ List.replicate ((16 - (List.length lm) % 16) % 16) 0) := (by first | (simp; done) | (simp; omega) | omega)
 rw [ehz94] at En97
 refine d_pures [(2, .slice aa (List.length la) ca), (3, .slice am (List.length lm) cm), (4, pt bk1), (5, pt bk6), (8, .slice none 0 0), (9, .slice ao92 (List.length (((la ++ List.replicate ((16 - (List.length la) % 16) % 16) 0) ++ lm) ++ List.replicate ((16 - (List.length lm) % 16) % 16) 0)) cp93), (11, .slice am (List.length lm) cm), (19, .slice (some ⟨bk17, 0, none⟩) 2 2), (20, .int .i64 2), (21, .int .i64 1)] [.slice ao92 (List.length (((la ++ List.replicate ((16 - (List.length la) % 16) % 16) 0) ++ lm) ++ List.replicate ((16 - (List.length lm) % 16) % 16) 0)) cp93] 7 En97 (by kernel_rfl) (by kernel_rfl) rfl ?_
 intro ac99 En100
 refine from_end (by kernel_rfl) ?_
 refine block_normal ?_
 refine then_normal ?_
 refine region_from ?_
 refine d_pures [(2, .slice aa (List.length la) ca), (3, .slice am (List.length lm) cm), (4, pt bk1), (5, pt bk6), (8, .slice none 0 0), (9, .slice ao92 (List.length (((la ++ List.replicate ((16 - (List.length la) % 16) % 16) 0) ++ lm) ++ List.replicate ((16 - (List.length lm) % 16) % 16) 0)) cp93), (11, .slice am (List.length lm) cm), (19, .slice (some ⟨bk17, 0, none⟩) 2 2), (20, .int .i64 2), (21, .int .i64 2)] [.int .i64 2, .int .i64 2] 2 En100 (by kernel_rfl) (by kernel_rfl) rfl ?_
 intro ac101 En102
 refine from_end (by kernel_rfl) ?_
 refine then_normal ?_
 refine loop_once ?_
 refine wp_seq ?_
 refine region_from ?_
 refine d_pures [(2, .slice aa (List.length la) ca), (3, .slice am (List.length lm) cm), (4, pt bk1), (5, pt bk6), (8, .slice none 0 0), (9, .slice ao92 (List.length (((la ++ List.replicate ((16 - (List.length la) % 16) % 16) 0) ++ lm) ++ List.replicate ((16 - (List.length lm) % 16) % 16) 0)) cp93), (11, .slice am (List.length lm) cm), (19, .slice (some ⟨bk17, 0, none⟩) 2 2), (20, .int .i64 2), (21, .int .i64 2), (22, .bool false)] [.bool false] 1 En102 (by kernel_rfl) (by kernel_rfl) rfl ?_
 intro ac103 En104
 refine from_end (by kernel_rfl) ?_
 refine then_normal ?_
 refine wp_seq ?_
 refine cond_false En104 (t := false) (by kernel_rfl) rfl ?_
 refine wp_exit ?_
 refine then_exit ?_
 refine then_exit ?_
 refine block_exit ?_
 refine then_normal ?_
 refine wp_seq ?_
 refine wp_seq ?_
 rw [show (((la ++ List.replicate ((16 - (List.length la) % 16) % 16) 0) ++ lm) ++ List.replicate ((16 - (List.length lm) % 16) % 16) 0) = (pad16 la ++ pad16 lm) from pads_eq la lm] at Hv98
 have hPA : List.length (pad16 la ++ pad16 lm) ≤ List.length la + List.length lm + 30 := by rw [List.length_append]; have := (pad16_le la).1; have := (pad16_le lm).1; omega
 have el105 : List.length (((la ++ List.replicate ((16 - (List.length la) % 16) % 16) 0) ++ lm) ++ List.replicate ((16 - (List.length lm) % 16) % 16) 0) = List.length (pad16 la ++ pad16 lm) := by rw [← pads_eq la lm]
 rw [el105] at En104
 refine region_from ?_
 refine d_pures [(2, .slice aa (List.length la) ca), (3, .slice am (List.length lm) cm), (4, pt bk1), (5, pt bk6), (8, .slice none 0 0), (9, .slice ao92 (List.length (pad16 la ++ pad16 lm)) cp93), (11, .slice am (List.length lm) cm), (19, .slice (some ⟨bk17, 0, none⟩) 2 2), (20, .int .i64 2), (21, .int .i64 2), (35, .slice aa (List.length la) ca), (36, .slice am (List.length lm) cm)] [.slice aa (List.length la) ca, .slice am (List.length lm) cm] 2 En104 (by kernel_rfl) (by kernel_rfl) rfl ?_
 intro ac106 En107
 refine from_op (by kernel_rfl) ?_
 refine op_lit (d := some 37) (t := 70) (T := 25) (m := 2) (parts := #[(0, .slice aa (List.length la) ca), (1, .slice am (List.length lm) cm)]) (xs := [.slice aa (List.length la) ca, .slice am (List.length lm) cm]) (sz := 1) En107 (by kernel_rfl) (by kernel_rfl) rfl (by decide) Hv98 ?_
 intro ac109 wo110 bk108 En111 Hv112
 refine d_pures [(2, .slice aa (List.length la) ca), (3, .slice am (List.length lm) cm), (4, pt bk1), (5, pt bk6), (8, .slice none 0 0), (9, .slice ao92 (List.length (pad16 la ++ pad16 lm)) cp93), (11, .slice am (List.length lm) cm), (19, .slice (some ⟨bk17, 0, none⟩) 2 2), (20, .int .i64 2), (21, .int .i64 2), (37, .slice (some ⟨bk108, 0, none⟩) 2 2), (38, .int .i64 2), (39, .int .i64 0)] [.int .i64 2, .int .i64 0] 5 En111 (by kernel_rfl) (by kernel_rfl) rfl ?_
 intro ac113 En114
 refine from_end (by kernel_rfl) ?_
 refine then_normal ?_
 refine wp_block ?_
 refine loop_enter ?_
 refine loop_once ?_
 refine wp_seq ?_
 refine region_from ?_
 refine d_pures [(2, .slice aa (List.length la) ca), (3, .slice am (List.length lm) cm), (4, pt bk1), (5, pt bk6), (8, .slice none 0 0), (9, .slice ao92 (List.length (pad16 la ++ pad16 lm)) cp93), (11, .slice am (List.length lm) cm), (19, .slice (some ⟨bk17, 0, none⟩) 2 2), (20, .int .i64 2), (21, .int .i64 2), (37, .slice (some ⟨bk108, 0, none⟩) 2 2), (38, .int .i64 2), (39, .int .i64 0), (40, .bool true)] [.bool true] 1 En114 (by kernel_rfl) (by kernel_rfl) rfl ?_
 intro ac115 En116
 refine from_end (by kernel_rfl) ?_
 refine then_normal ?_
 refine wp_seq ?_
 refine cond_true En116 (t := true) (by kernel_rfl) rfl ?_
 refine wp_skip ?_
 refine then_normal ?_
 refine wp_seq ?_
 refine wp_block ?_
 refine wp_seq ?_
 refine region_from ?_
 have hb119 : 0 < 2 := (by omega)
 refine from_op (by kernel_rfl) ?_
 refine op_val (d := some 41) (x := Instr.indexAt 70 (.slice (some ⟨bk108, 0, none⟩) 2 2) (.int .i64 0)) (v := .pointer (some (Addr.add ⟨bk108, 0, none⟩ 0))) En116 (by kernel_rfl) (Go.Dbr.run_indexsl (e := 25) (sz := 1) (j := 0) (jo := 0) rfl (by kernel_rfl) (by kernel_rfl) (by omega) hb119 (Nat.mul_one _) _) ?_
 intro ac120 En121
 refine from_op (by kernel_rfl) ?_
 refine op_loadel (d := some 42) (t := 25) (ad := ⟨bk108, 0, none⟩) (ao := some ⟨bk108, 0, none⟩) (xs := [.slice aa (List.length la) ca, .slice am (List.length lm) cm]) (j := 0) (v := .slice aa (List.length la) ca) En121 (by kernel_rfl) (Hv112.heap.reads (k := 4) rfl) rfl rfl (by kernel_rfl) ?_
 intro ac122 En123
 refine d_pures [(2, .slice aa (List.length la) ca), (3, .slice am (List.length lm) cm), (4, pt bk1), (5, pt bk6), (8, .slice none 0 0), (9, .slice ao92 (List.length (pad16 la ++ pad16 lm)) cp93), (11, .slice am (List.length lm) cm), (13, .slice aa (List.length la) ca), (19, .slice (some ⟨bk17, 0, none⟩) 2 2), (20, .int .i64 2), (21, .int .i64 2), (37, .slice (some ⟨bk108, 0, none⟩) 2 2), (38, .int .i64 2), (39, .int .i64 0)] [.slice aa (List.length la) ca] 3 En123 (by kernel_rfl) (by kernel_rfl) rfl ?_
 intro ac124 En125
 refine from_end (by kernel_rfl) ?_
 refine then_normal ?_
 refine wp_seq ?_
 refine region_from ?_
 refine d_pures [(2, .slice aa (List.length la) ca), (3, .slice am (List.length lm) cm), (4, pt bk1), (5, pt bk6), (8, .slice none 0 0), (9, .slice ao92 (List.length (pad16 la ++ pad16 lm)) cp93), (11, .slice am (List.length lm) cm), (13, .slice aa (List.length la) ca), (19, .slice (some ⟨bk17, 0, none⟩) 2 2), (20, .int .i64 2), (21, .int .i64 2), (37, .slice (some ⟨bk108, 0, none⟩) 2 2), (38, .int .i64 2), (39, .int .i64 0), (43, .int .i64 0)] [.int .i64 0] 1 En125 (by kernel_rfl) (by kernel_rfl) rfl ?_
 intro ac126 En127
 refine from_end (by kernel_rfl) ?_
 refine then_normal ?_
 refine wp_block ?_
 refine loop_m (fun ms128 ac wo => ∃ (i : Nat) (ab : Option Addr) (cb : Nat) (bl : List UInt8), ms128 = (8 - i : Nat) ∧ Env ac 67 [(2, .slice aa (List.length la) ca), (3, .slice am (List.length lm) cm), (4, pt bk1), (5, pt bk6), (8, .slice none 0 0), (9, .slice ab (List.length bl) cb), (11, .slice am (List.length lm) cm), (13, .slice aa (List.length la) ca), (19, .slice (some ⟨bk17, 0, none⟩) 2 2), (20, .int .i64 2), (21, .int .i64 2), (37, .slice (some ⟨bk108, 0, none⟩) 2 2), (38, .int .i64 2), (39, .int .i64 0), (43, ni i)] ∧ Ev w [] wo [.vec ab cb 1 (bys bl) 5, .box bk1 (bys lk) 22, .box bk6 (bys ln) 24, .vec (some ⟨bk17, 0, none⟩) 2 1 [.slice aa (List.length la) ca, .slice am (List.length lm) cm] 25, .vec (some ⟨bk108, 0, none⟩) 2 1 [.slice aa (List.length la) ca, .slice am (List.length lm) cm] 25] ∧ (i ≤ 8) ∧ (bl = (pad16 la ++ pad16 lm) ++ len8 (List.length la) i)) ⟨_, 0, ao92, cp93, (pad16 la ++ pad16 lm), rfl, En127.sub (by kernel_rfl), Hv112.pick [3, 0, 1, 2, 4] (by kernel_rfl) (by decide), by omega, len8_start _ _⟩ ?_
 rintro mm134 ac130 wo131 ⟨i, ab, cb, bl, rfl, En132, Hv133, hi, heb⟩
 refine wp_seq ?_
 refine region_from ?_
 refine d_pures [(2, .slice aa (List.length la) ca), (3, .slice am (List.length lm) cm), (4, pt bk1), (5, pt bk6), (8, .slice none 0 0), (9, .slice ab (List.length bl) cb), (11, .slice am (List.length lm) cm), (13, .slice aa (List.length la) ca), (19, .slice (some ⟨bk17, 0, none⟩) 2 2), (20, .int .i64 2), (21, .int .i64 2), (37, .slice (some ⟨bk108, 0, none⟩) 2 2), (38, .int .i64 2), (39, .int .i64 0), (43, ni i), (44, .bool (decide (((i : Nat) : Int) < (8 : Int))))] [.bool (decide (((i : Nat) : Int) < (8 : Int)))] 1 En132 (by kernel_rfl) (by kernel_rfl) rfl ?_
 intro ac135 En136
 refine from_end (by kernel_rfl) ?_
 refine then_normal ?_
 refine wp_seq ?_
 refine cond_at En136 (t := decide (((i : Nat) : Int) < (8 : Int))) (by kernel_rfl) (fun hc137 => ?_) (fun hc137 => ?_)
 ·
  replace hc137 : ((i : Nat) : Int) < (8 : Int) := of_decide_eq_true hc137
  refine wp_skip ?_
  refine then_normal ?_
  refine wp_seq ?_
  refine wp_block ?_
  refine wp_seq ?_
  refine region_from ?_
  refine d_pures [(2, .slice aa (List.length la) ca), (3, .slice am (List.length lm) cm), (4, pt bk1), (5, pt bk6), (8, .slice none 0 0), (9, .slice ab (List.length bl) cb), (11, .slice am (List.length lm) cm), (13, .slice aa (List.length la) ca), (14, ni i), (19, .slice (some ⟨bk17, 0, none⟩) 2 2), (20, .int .i64 2), (21, .int .i64 2), (37, .slice (some ⟨bk108, 0, none⟩) 2 2), (38, .int .i64 2), (39, .int .i64 0), (43, ni i)] [ni i, ni i] 2 En136 (by kernel_rfl) (by kernel_rfl) rfl ?_
  intro ac138 En139
  refine from_end (by kernel_rfl) ?_
  refine then_normal ?_
  have hbn : List.length bl ≤ List.length la + List.length lm + 40 + i := by rw [heb, List.length_append, len8_len]; omega
  refine region_from ?_
  refine d_pures [(2, .slice aa (List.length la) ca), (3, .slice am (List.length lm) cm), (4, pt bk1), (5, pt bk6), (8, .slice none 0 0), (9, .slice ab (List.length bl) cb), (11, .slice am (List.length lm) cm), (13, .slice aa (List.length la) ca), (14, ni i), (19, .slice (some ⟨bk17, 0, none⟩) 2 2), (20, .int .i64 2), (21, .int .i64 2), (37, .slice (some ⟨bk108, 0, none⟩) 2 2), (38, .int .i64 2), (39, .int .i64 0), (43, ni i), (46, .slice ab (List.length bl) cb), (49, .int .u64 (IntKind.wrap .u64 ((List.length la : Nat) : Int)))] [.slice ab (List.length bl) cb, .slice aa (List.length la) ca, .int .i64 ((List.length la : Nat) : Int), .int .u64 (IntKind.wrap .u64 ((List.length la : Nat) : Int))] 4 En139 (by kernel_rfl) (by kernel_rfl) rfl ?_
  intro ac140 En141
  rw [Go.Dbr.nat_to_u64 (a := ((List.length la : Nat) : Int)) (n := List.length la) rfl] at En141
  refine d_pures [(2, .slice aa (List.length la) ca), (3, .slice am (List.length lm) cm), (4, pt bk1), (5, pt bk6), (8, .slice none 0 0), (9, .slice ab (List.length bl) cb), (11, .slice am (List.length lm) cm), (13, .slice aa (List.length la) ca), (19, .slice (some ⟨bk17, 0, none⟩) 2 2), (20, .int .i64 2), (21, .int .i64 2), (37, .slice (some ⟨bk108, 0, none⟩) 2 2), (38, .int .i64 2), (39, .int .i64 0), (43, ni i), (46, .slice ab (List.length bl) cb), (49, .int .u64 ((UInt64.toNat (UInt64.ofNat (List.length la)) : Nat) : Int)), (51, .int .i64 (IntKind.wrap .i64 ((8 : Int) * ((i : Nat) : Int))))] [ni i, .int .i64 (IntKind.wrap .i64 ((8 : Int) * ((i : Nat) : Int)))] 6 En141 (by kernel_rfl) (by kernel_rfl) rfl ?_
  intro ac142 En143
  rw [Go.Dbr.wr64 (e := (8 : Int) * ((i : Nat) : Int)) (x := ((8 * i : Nat) : Int)) (by omega) (by omega) (by omega)] at En143
  refine from_op (by kernel_rfl) ?_
  refine op_val (d := some 52) (x := Op.shift .shr .u64 ((UInt64.toNat (UInt64.ofNat (List.length la)) : Nat) : Int) .i64 ((8 * i : Nat) : Int)) (v := .int .u64 ((UInt64.toNat ((UInt64.ofNat (List.length la)) >>> UInt64.ofNat (8 * i)) : Nat) : Int)) En143 (by kernel_rfl) (Go.Dbr.run_shr_u64 (UInt64.ofNat (List.length la)) .i64 (8 * i) (by omega) _) ?_
  intro ac144 En145
  refine d_pures [(2, .slice aa (List.length la) ca), (3, .slice am (List.length lm) cm), (4, pt bk1), (5, pt bk6), (8, .slice none 0 0), (9, .slice ab (List.length bl) cb), (11, .slice am (List.length lm) cm), (13, .slice aa (List.length la) ca), (19, .slice (some ⟨bk17, 0, none⟩) 2 2), (20, .int .i64 2), (21, .int .i64 2), (37, .slice (some ⟨bk108, 0, none⟩) 2 2), (38, .int .i64 2), (39, .int .i64 0), (43, ni i), (46, .slice ab (List.length bl) cb), (53, .int .u8 (IntKind.wrap .u8 ((UInt64.toNat ((UInt64.ofNat (List.length la)) >>> UInt64.ofNat (8 * i)) : Nat) : Int)))] [.int .u8 (IntKind.wrap .u8 ((UInt64.toNat ((UInt64.ofNat (List.length la)) >>> UInt64.ofNat (8 * i)) : Nat) : Int))] 8 En145 (by kernel_rfl) (by kernel_rfl) rfl ?_
  intro ac146 En147
  rw [Go.Dbr.u64_to_u8 (a := ((UInt64.toNat ((UInt64.ofNat (List.length la)) >>> UInt64.ofNat (8 * i)) : Nat) : Int)) (x := (UInt64.ofNat (List.length la)) >>> UInt64.ofNat (8 * i)) rfl] at En147
  refine from_op (by kernel_rfl) ?_
  refine op_lit (d := some 54) (t := 25) (T := 5) (m := 1) (parts := #[(0, .int .u8 ((UInt8.toNat (UInt64.toUInt8 ((UInt64.ofNat (List.length la)) >>> UInt64.ofNat (8 * i))) : Nat) : Int))]) (xs := bys [UInt64.toUInt8 ((UInt64.ofNat (List.length la)) >>> UInt64.ofNat (8 * i))]) (sz := 1) En147 (by kernel_rfl) (by kernel_rfl) rfl (by decide) Hv133 ?_
  intro ac149 wo150 bk148 En151 Hv152
  refine from_op (by kernel_rfl) ?_
  refine op_append (d := some 55) (t := 25) (tx := 25) (ty := 25) (k := 0) (p := List.length bl) (m := 1) (x := .slice (some ⟨bk148, 0, none⟩) 1 1) (bytes := 1) En151 (by kernel_rfl) Hv152 rfl (bys_len _) (Reads.src (size := 1) (tx := 25) (e' := 5) (by kernel_rfl) (Hv152.heap.reads (k := 5) rfl) rfl (fun e => by cases e) (bys_one _)) (by kernel_rfl) (z := .int .u8 0) (by kernel_rfl) rfl (by decide) (by omega) (by unfold maxLen; omega) ?_
  intro ac157 wo158 ao153 cp154 En159 Hv160 _ _
  rw [← bys_append] at Hv160
  have ehz155 : (List.length bl) + 1 = List.length (bl ++ [UInt64.toUInt8 ((UInt64.ofNat (List.length la)) >>> UInt64.ofNat (8 * i))]) := (by first | (simp; done) | (simp; omega) | omega)
  rw [ehz155] at En159
  refine d_pures [(2, .slice aa (List.length la) ca), (3, .slice am (List.length lm) cm), (4, pt bk1), (5, pt bk6), (8, .slice none 0 0), (9, .slice ao153 (List.length (bl ++ [UInt64.toUInt8 ((UInt64.ofNat (List.length la)) >>> UInt64.ofNat (8 * i))])) cp154), (11, .slice am (List.length lm) cm), (13, .slice aa (List.length la) ca), (19, .slice (some ⟨bk17, 0, none⟩) 2 2), (20, .int .i64 2), (21, .int .i64 2), (37, .slice (some ⟨bk108, 0, none⟩) 2 2), (38, .int .i64 2), (39, .int .i64 0), (43, ni i)] [.slice ao153 (List.length (bl ++ [UInt64.toUInt8 ((UInt64.ofNat (List.length la)) >>> UInt64.ofNat (8 * i))])) cp154] 11 En159 (by kernel_rfl) (by kernel_rfl) rfl ?_
  intro ac161 En162
  refine from_end (by kernel_rfl) ?_
  refine block_normal ?_
  refine then_normal ?_
  refine region_from ?_
  refine d_pures [(2, .slice aa (List.length la) ca), (3, .slice am (List.length lm) cm), (4, pt bk1), (5, pt bk6), (8, .slice none 0 0), (9, .slice ao153 (List.length (bl ++ [UInt64.toUInt8 ((UInt64.ofNat (List.length la)) >>> UInt64.ofNat (8 * i))])) cp154), (11, .slice am (List.length lm) cm), (13, .slice aa (List.length la) ca), (19, .slice (some ⟨bk17, 0, none⟩) 2 2), (20, .int .i64 2), (21, .int .i64 2), (37, .slice (some ⟨bk108, 0, none⟩) 2 2), (38, .int .i64 2), (39, .int .i64 0), (43, ni i), (56, .int .i64 (IntKind.wrap .i64 (((i : Nat) : Int) + (1 : Int))))] [.int .i64 (IntKind.wrap .i64 (((i : Nat) : Int) + (1 : Int)))] 1 En162 (by kernel_rfl) (by kernel_rfl) rfl ?_
  intro ac163 En164
  rw [Go.Dbr.wr64 (e := ((i : Nat) : Int) + (1 : Int)) (x := ((i + 1 : Nat) : Int)) (by omega) (by omega) (by omega)] at En164
  refine d_pures [(2, .slice aa (List.length la) ca), (3, .slice am (List.length lm) cm), (4, pt bk1), (5, pt bk6), (8, .slice none 0 0), (9, .slice ao153 (List.length (bl ++ [UInt64.toUInt8 ((UInt64.ofNat (List.length la)) >>> UInt64.ofNat (8 * i))])) cp154), (11, .slice am (List.length lm) cm), (13, .slice aa (List.length la) ca), (19, .slice (some ⟨bk17, 0, none⟩) 2 2), (20, .int .i64 2), (21, .int .i64 2), (37, .slice (some ⟨bk108, 0, none⟩) 2 2), (38, .int .i64 2), (39, .int .i64 0), (43, .int .i64 ((i + 1 : Nat) : Int))] [.int .i64 ((i + 1 : Nat) : Int)] 2 En164 (by kernel_rfl) (by kernel_rfl) rfl ?_
  intro ac165 En166
  refine from_end (by kernel_rfl) ?_
  refine then_normal ?_
  refine ⟨_, ⟨i + 1, ao153, cp154, (bl ++ [UInt64.toUInt8 ((UInt64.ofNat (List.length la)) >>> UInt64.ofNat (8 * i))]), rfl, En166.sub (by kernel_rfl), Hv160.pick [0, 1, 2, 3, 4] (by kernel_rfl) (by decide), by omega, by rw [heb]; exact len8_step⟩, ?_⟩
  omega
 ·
  replace hc137 : ¬ (((i : Nat) : Int) < (8 : Int)) := of_decide_eq_false hc137
  refine wp_exit ?_
  refine then_exit ?_
  refine then_exit ?_
  refine block_exit ?_
  refine block_normal ?_
  refine then_normal ?_
  have hi8 : i = 8 := by omega
  have hbq : bl = (pad16 la ++ pad16 lm) ++ len8 (List.length la) 8 := by rw [heb, hi8] <;> rfl
  subst hbq
  have hPB : List.length ((pad16 la ++ pad16 lm) ++ len8 (List.length la) 8) ≤ List.length la + List.length lm + 38 := by rw [List.length_append, len8_len]; omega
  refine region_from ?_
  refine d_pures [(2, .slice aa (List.length la) ca), (3, .slice am (List.length lm) cm), (4, pt bk1), (5, pt bk6), (8, .slice none 0 0), (9, .slice ab (List.length ((pad16 la ++ pad16 lm) ++ len8 (List.length la) 8)) cb), (11, .slice am (List.length lm) cm), (13, .slice aa (List.length la) ca), (19, .slice (some ⟨bk17, 0, none⟩) 2 2), (20, .int .i64 2), (21, .int .i64 2), (37, .slice (some ⟨bk108, 0, none⟩) 2 2), (38, .int .i64 2), (39, .int .i64 1), (43, ni i)] [.int .i64 1, .int .i64 1] 2 En136 (by kernel_rfl) (by kernel_rfl) rfl ?_
  intro ac167 En168
  refine from_end (by kernel_rfl) ?_
  refine then_normal ?_
  refine loop_once ?_
  refine wp_seq ?_
  refine region_from ?_
  refine d_pures [(2, .slice aa (List.length la) ca), (3, .slice am (List.length lm) cm), (4, pt bk1), (5, pt bk6), (8, .slice none 0 0), (9, .slice ab (List.length ((pad16 la ++ pad16 lm) ++ len8 (List.length la) 8)) cb), (11, .slice am (List.length lm) cm), (13, .slice aa (List.length la) ca), (19, .slice (some ⟨bk17, 0, none⟩) 2 2), (20, .int .i64 2), (21, .int .i64 2), (37, .slice (some ⟨bk108, 0, none⟩) 2 2), (38, .int .i64 2), (39, .int .i64 1), (40, .bool true), (43, ni i)] [.bool true] 1 En168 (by kernel_rfl) (by kernel_rfl) rfl ?_
  intro ac169 En170
  refine from_end (by kernel_rfl) ?_
  refine then_normal ?_
  refine wp_seq ?_
  refine cond_true En170 (t := true) (by kernel_rfl) rfl ?_
  refine wp_skip ?_
  refine then_normal ?_
  refine wp_seq ?_
  refine wp_block ?_
  refine wp_seq ?_
  refine region_from ?_
  have hb173 : 1 < 2 := (by omega)
  refine from_op (by kernel_rfl) ?_
  refine op_val (d := some 41) (x := Instr.indexAt 70 (.slice (some ⟨bk108, 0, none⟩) 2 2) (.int .i64 1)) (v := .pointer (some (Addr.add ⟨bk108, 0, none⟩ 1))) En170 (by kernel_rfl) (Go.Dbr.run_indexsl (e := 25) (sz := 1) (j := 1) (jo := 1) rfl (by kernel_rfl) (by kernel_rfl) (by omega) hb173 (Nat.mul_one _) _) ?_
  intro ac174 En175
  refine from_op (by kernel_rfl) ?_
  refine op_loadel (d := some 42) (t := 25) (ad := ⟨bk108, 0, none⟩) (ao := some ⟨bk108, 0, none⟩) (xs := [.slice aa (List.length la) ca, .slice am (List.length lm) cm]) (j := 1) (v := .slice am (List.length lm) cm) En175 (by kernel_rfl) (Hv133.heap.reads (k := 4) rfl) rfl rfl (by kernel_rfl) ?_
  intro ac176 En177
  refine d_pures [(2, .slice aa (List.length la) ca), (3, .slice am (List.length lm) cm), (4, pt bk1), (5, pt bk6), (8, .slice none 0 0), (9, .slice ab (List.length ((pad16 la ++ pad16 lm) ++ len8 (List.length la) 8)) cb), (11, .slice am (List.length lm) cm), (13, .slice am (List.length lm) cm), (19, .slice (some ⟨bk17, 0, none⟩) 2 2), (20, .int .i64 2), (21, .int .i64 2), (37, .slice (some ⟨bk108, 0, none⟩) 2 2), (38, .int .i64 2), (39, .int .i64 1), (43, ni i)] [.slice am (List.length lm) cm] 3 En177 (by kernel_rfl) (by kernel_rfl) rfl ?_
  intro ac178 En179
  refine from_end (by kernel_rfl) ?_
  refine then_normal ?_
  refine wp_seq ?_
  refine region_from ?_
  refine d_pures [(2, .slice aa (List.length la) ca), (3, .slice am (List.length lm) cm), (4, pt bk1), (5, pt bk6), (8, .slice none 0 0), (9, .slice ab (List.length ((pad16 la ++ pad16 lm) ++ len8 (List.length la) 8)) cb), (11, .slice am (List.length lm) cm), (13, .slice am (List.length lm) cm), (19, .slice (some ⟨bk17, 0, none⟩) 2 2), (20, .int .i64 2), (21, .int .i64 2), (37, .slice (some ⟨bk108, 0, none⟩) 2 2), (38, .int .i64 2), (39, .int .i64 1), (43, .int .i64 0)] [.int .i64 0] 1 En179 (by kernel_rfl) (by kernel_rfl) rfl ?_
  intro ac180 En181
  refine from_end (by kernel_rfl) ?_
  refine then_normal ?_
  refine wp_block ?_
  refine loop_m (fun ms182 ac wo => ∃ (i : Nat) (ab : Option Addr) (cb : Nat) (bl : List UInt8), ms182 = (8 - i : Nat) ∧ Env ac 67 [(2, .slice aa (List.length la) ca), (3, .slice am (List.length lm) cm), (4, pt bk1), (5, pt bk6), (8, .slice none 0 0), (9, .slice ab (List.length bl) cb), (11, .slice am (List.length lm) cm), (13, .slice am (List.length lm) cm), (19, .slice (some ⟨bk17, 0, none⟩) 2 2), (20, .int .i64 2), (21, .int .i64 2), (37, .slice (some ⟨bk108, 0, none⟩) 2 2), (38, .int .i64 2), (39, .int .i64 1), (43, ni i)] ∧ Ev w [] wo [.vec ab cb 1 (bys bl) 5, .box bk1 (bys lk) 22, .box bk6 (bys ln) 24, .vec (some ⟨bk17, 0, none⟩) 2 1 [.slice aa (List.length la) ca, .slice am (List.length lm) cm] 25, .vec (some ⟨bk108, 0, none⟩) 2 1 [.slice aa (List.length la) ca, .slice am (List.length lm) cm] 25] ∧ (i ≤ 8) ∧ (bl = ((pad16 la ++ pad16 lm) ++ len8 (List.length la) 8) ++ len8 (List.length lm) i)) ⟨_, 0, ab, cb, ((pad16 la ++ pad16 lm) ++ len8 (List.length la) 8), rfl, En181.sub (by kernel_rfl), Hv133.pick [0, 1, 2, 3, 4] (by kernel_rfl) (by decide), by omega, len8_start _ _⟩ ?_
  rintro mm188 ac184 wo185 ⟨i, ab, cb, bl, rfl, En186, Hv187, hi, heb⟩
  refine wp_seq ?_
  refine region_from ?_
  refine d_pures [(2, .slice aa (List.length la) ca), (3, .slice am (List.length lm) cm), (4, pt bk1), (5, pt bk6), (8, .slice none 0 0), (9, .slice ab (List.length bl) cb), (11, .slice am (List.length lm) cm), (13, .slice am (List.length lm) cm), (19, .slice (some ⟨bk17, 0, none⟩) 2 2), (20, .int .i64 2), (21, .int .i64 2), (37, .slice (some ⟨bk108, 0, none⟩) 2 2), (38, .int .i64 2), (39, .int .i64 1), (43, ni i), (44, .bool (decide (((i : Nat) : Int) < (8 : Int))))] [.bool (decide (((i : Nat) : Int) < (8 : Int)))] 1 En186 (by kernel_rfl) (by kernel_rfl) rfl ?_
  intro ac189 En190
  refine from_end (by kernel_rfl) ?_
  refine then_normal ?_
  refine wp_seq ?_
  refine cond_at En190 (t := decide (((i : Nat) : Int) < (8 : Int))) (by kernel_rfl) (fun hc191 => ?_) (fun hc191 => ?_)
  ·
   replace hc191 : ((i : Nat) : Int) < (8 : Int) := of_decide_eq_true hc191
   refine wp_skip ?_
   refine then_normal ?_
   refine wp_seq ?_
   refine wp_block ?_
   refine wp_seq ?_
   refine region_from ?_
   refine d_pures [(2, .slice aa (List.length la) ca), (3, .slice am (List.length lm) cm), (4, pt bk1), (5, pt bk6), (8, .slice none 0 0), (9, .slice ab (List.length bl) cb), (11, .slice am (List.length lm) cm), (13, .slice am (List.length lm) cm), (14, ni i), (19, .slice (some ⟨bk17, 0, none⟩) 2 2), (20, .int .i64 2), (21, .int .i64 2), (37, .slice (some ⟨bk108, 0, none⟩) 2 2), (38, .int .i64 2), (39, .int .i64 1), (43, ni i)] [ni i, ni i] 2 En190 (by kernel_rfl) (by kernel_rfl) rfl ?_
   intro ac192 En193
   refine from_end (by kernel_rfl) ?_
   refine then_normal ?_
   have hbn : List.length bl ≤ List.length la + List.length lm + 40 + i := by rw [heb, List.length_append, len8_len]; omega
   refine region_from ?_
   refine d_pures [(2, .slice aa (List.length la) ca), (3, .slice am (List.length lm) cm), (4, pt bk1), (5, pt bk6), (8, .slice none 0 0), (9, .slice ab (List.length bl) cb), (11, .slice am (List.length lm) cm), (13, .slice am (List.length lm) cm), (14, ni i), (19, .slice (some ⟨bk17, 0, none⟩) 2 2), (20, .int .i64 2), (21, .int .i64 2), (37, .slice (some ⟨bk108, 0, none⟩) 2 2), (38, .int .i64 2), (39, .int .i64 1), (43, ni i), (46, .slice ab (List.length bl) cb), (49, .int .u64 (IntKind.wrap .u64 ((List.length lm : Nat) : Int)))] [.slice ab (List.length bl) cb, .slice am (List.length lm) cm, .int .i64 ((List.length lm : Nat) : Int), .int .u64 (IntKind.wrap .u64 ((List.length lm : Nat) : Int))] 4 En193 (by kernel_rfl) (by kernel_rfl) rfl ?_
   intro ac194 En195
   rw [Go.Dbr.nat_to_u64 (a := ((List.length lm : Nat) : Int)) (n := List.length lm) rfl] at En195
   refine d_pures [(2, .slice aa (List.length la) ca), (3, .slice am (List.length lm) cm), (4, pt bk1), (5, pt bk6), (8, .slice none 0 0), (9, .slice ab (List.length bl) cb), (11, .slice am (List.length lm) cm), (13, .slice am (List.length lm) cm), (19, .slice (some ⟨bk17, 0, none⟩) 2 2), (20, .int .i64 2), (21, .int .i64 2), (37, .slice (some ⟨bk108, 0, none⟩) 2 2), (38, .int .i64 2), (39, .int .i64 1), (43, ni i), (46, .slice ab (List.length bl) cb), (49, .int .u64 ((UInt64.toNat (UInt64.ofNat (List.length lm)) : Nat) : Int)), (51, .int .i64 (IntKind.wrap .i64 ((8 : Int) * ((i : Nat) : Int))))] [ni i, .int .i64 (IntKind.wrap .i64 ((8 : Int) * ((i : Nat) : Int)))] 6 En195 (by kernel_rfl) (by kernel_rfl) rfl ?_
   intro ac196 En197
   rw [Go.Dbr.wr64 (e := (8 : Int) * ((i : Nat) : Int)) (x := ((8 * i : Nat) : Int)) (by omega) (by omega) (by omega)] at En197
   refine from_op (by kernel_rfl) ?_
   refine op_val (d := some 52) (x := Op.shift .shr .u64 ((UInt64.toNat (UInt64.ofNat (List.length lm)) : Nat) : Int) .i64 ((8 * i : Nat) : Int)) (v := .int .u64 ((UInt64.toNat ((UInt64.ofNat (List.length lm)) >>> UInt64.ofNat (8 * i)) : Nat) : Int)) En197 (by kernel_rfl) (Go.Dbr.run_shr_u64 (UInt64.ofNat (List.length lm)) .i64 (8 * i) (by omega) _) ?_
   intro ac198 En199
   refine d_pures [(2, .slice aa (List.length la) ca), (3, .slice am (List.length lm) cm), (4, pt bk1), (5, pt bk6), (8, .slice none 0 0), (9, .slice ab (List.length bl) cb), (11, .slice am (List.length lm) cm), (13, .slice am (List.length lm) cm), (19, .slice (some ⟨bk17, 0, none⟩) 2 2), (20, .int .i64 2), (21, .int .i64 2), (37, .slice (some ⟨bk108, 0, none⟩) 2 2), (38, .int .i64 2), (39, .int .i64 1), (43, ni i), (46, .slice ab (List.length bl) cb), (53, .int .u8 (IntKind.wrap .u8 ((UInt64.toNat ((UInt64.ofNat (List.length lm)) >>> UInt64.ofNat (8 * i)) : Nat) : Int)))] [.int .u8 (IntKind.wrap .u8 ((UInt64.toNat ((UInt64.ofNat (List.length lm)) >>> UInt64.ofNat (8 * i)) : Nat) : Int))] 8 En199 (by kernel_rfl) (by kernel_rfl) rfl ?_
   intro ac200 En201
   rw [Go.Dbr.u64_to_u8 (a := ((UInt64.toNat ((UInt64.ofNat (List.length lm)) >>> UInt64.ofNat (8 * i)) : Nat) : Int)) (x := (UInt64.ofNat (List.length lm)) >>> UInt64.ofNat (8 * i)) rfl] at En201
   refine from_op (by kernel_rfl) ?_
   refine op_lit (d := some 54) (t := 25) (T := 5) (m := 1) (parts := #[(0, .int .u8 ((UInt8.toNat (UInt64.toUInt8 ((UInt64.ofNat (List.length lm)) >>> UInt64.ofNat (8 * i))) : Nat) : Int))]) (xs := bys [UInt64.toUInt8 ((UInt64.ofNat (List.length lm)) >>> UInt64.ofNat (8 * i))]) (sz := 1) En201 (by kernel_rfl) (by kernel_rfl) rfl (by decide) Hv187 ?_
   intro ac203 wo204 bk202 En205 Hv206
   refine from_op (by kernel_rfl) ?_
   refine op_append (d := some 55) (t := 25) (tx := 25) (ty := 25) (k := 0) (p := List.length bl) (m := 1) (x := .slice (some ⟨bk202, 0, none⟩) 1 1) (bytes := 1) En205 (by kernel_rfl) Hv206 rfl (bys_len _) (Reads.src (size := 1) (tx := 25) (e' := 5) (by kernel_rfl) (Hv206.heap.reads (k := 5) rfl) rfl (fun e => by cases e) (bys_one _)) (by kernel_rfl) (z := .int .u8 0) (by kernel_rfl) rfl (by decide) (by omega) (by unfold maxLen; omega) ?_
   intro ac211 wo212 ao207 cp208 En213 Hv214 _ _
   rw [← bys_append] at Hv214
   have ehz209 : (List.length bl) + 1 = List.length (bl ++ [UInt64.toUInt8 ((UInt64.ofNat (List.length lm)) >>> UInt64.ofNat (8 * i))]) := (by first | (simp; done) | (simp; omega) | omega)
   rw [ehz209] at En213
   refine d_pures [(2, .slice aa (List.length la) ca), (3, .slice am (List.length lm) cm), (4, pt bk1), (5, pt bk6), (8, .slice none 0 0), (9, .slice ao207 (List.length (bl ++ [UInt64.toUInt8 ((UInt64.ofNat (List.length lm)) >>> UInt64.ofNat (8 * i))])) cp208), (11, .slice am (List.length lm) cm), (13, .slice am (List.length lm) cm), (19, .slice (some ⟨bk17, 0, none⟩) 2 2), (20, .int .i64 2), (21, .int .i64 2), (37, .slice (some ⟨bk108, 0, none⟩) 2 2), (38, .int .i64 2), (39, .int .i64 1), (43, ni i)] [.slice ao207 (List.length (bl ++ [UInt64.toUInt8 ((UInt64.ofNat (List.length lm)) >>> UInt64.ofNat (8 * i))])) cp208] 11 En213 (by kernel_rfl) (by kernel_rfl) rfl ?_
   intro ac215 En216
   refine from_end (by kernel_rfl) ?_
   refine block_normal ?_
   refine then_normal ?_
   refine region_from ?_
   refine d_pures [(2, .slice aa (List.length la) ca), (3, .slice am (List.length lm) cm), (4, pt bk1), (5, pt bk6), (8, .slice none 0 0), (9, .slice ao207 (List.length (bl ++ [UInt64.toUInt8 ((UInt64.ofNat (List.length lm)) >>> UInt64.ofNat (8 * i))])) cp208), (11, .slice am (List.length lm) cm), (13, .slice am (List.length lm) cm), (19, .slice (some ⟨bk17, 0, none⟩) 2 2), (20, .int .i64 2), (21, .int .i64 2), (37, .slice (some ⟨bk108, 0, none⟩) 2 2), (38, .int .i64 2), (39, .int .i64 1), (43, ni i), (56, .int .i64 (IntKind.wrap .i64 (((i : Nat) : Int) + (1 : Int))))] [.int .i64 (IntKind.wrap .i64 (((i : Nat) : Int) + (1 : Int)))] 1 En216 (by kernel_rfl) (by kernel_rfl) rfl ?_
   intro ac217 En218
   rw [Go.Dbr.wr64 (e := ((i : Nat) : Int) + (1 : Int)) (x := ((i + 1 : Nat) : Int)) (by omega) (by omega) (by omega)] at En218
   refine d_pures [(2, .slice aa (List.length la) ca), (3, .slice am (List.length lm) cm), (4, pt bk1), (5, pt bk6), (8, .slice none 0 0), (9, .slice ao207 (List.length (bl ++ [UInt64.toUInt8 ((UInt64.ofNat (List.length lm)) >>> UInt64.ofNat (8 * i))])) cp208), (11, .slice am (List.length lm) cm), (13, .slice am (List.length lm) cm), (19, .slice (some ⟨bk17, 0, none⟩) 2 2), (20, .int .i64 2), (21, .int .i64 2), (37, .slice (some ⟨bk108, 0, none⟩) 2 2), (38, .int .i64 2), (39, .int .i64 1), (43, .int .i64 ((i + 1 : Nat) : Int))] [.int .i64 ((i + 1 : Nat) : Int)] 2 En218 (by kernel_rfl) (by kernel_rfl) rfl ?_
   intro ac219 En220
   refine from_end (by kernel_rfl) ?_
   refine then_normal ?_
   refine ⟨_, ⟨i + 1, ao207, cp208, (bl ++ [UInt64.toUInt8 ((UInt64.ofNat (List.length lm)) >>> UInt64.ofNat (8 * i))]), rfl, En220.sub (by kernel_rfl), Hv214.pick [0, 1, 2, 3, 4] (by kernel_rfl) (by decide), by omega, by rw [heb]; exact len8_step⟩, ?_⟩
   omega
  ·
   replace hc191 : ¬ (((i : Nat) : Int) < (8 : Int)) := of_decide_eq_false hc191
   refine wp_exit ?_
   refine then_exit ?_
   refine then_exit ?_
   refine block_exit ?_
   refine block_normal ?_
   refine then_normal ?_
   have hi8 : i = 8 := by omega
   have hbq : bl = taggedF la lm := by rw [heb, hi8] <;> rfl
   subst hbq
   have hTG : List.length (taggedF la lm) ≤ List.length la + List.length lm + 46 := by unfold taggedF; rw [List.length_append, len8_len]; omega
   refine region_from ?_
   refine d_pures [(2, .slice aa (List.length la) ca), (3, .slice am (List.length lm) cm), (4, pt bk1), (5, pt bk6), (8, .slice none 0 0), (9, .slice ab (List.length (taggedF la lm)) cb), (11, .slice am (List.length lm) cm), (13, .slice am (List.length lm) cm), (19, .slice (some ⟨bk17, 0, none⟩) 2 2), (20, .int .i64 2), (21, .int .i64 2), (37, .slice (some ⟨bk108, 0, none⟩) 2 2), (38, .int .i64 2), (39, .int .i64 2), (43, ni i)] [.int .i64 2, .int .i64 2] 2 En190 (by kernel_rfl) (by kernel_rfl) rfl ?_
   intro ac221 En222
   refine from_end (by kernel_rfl) ?_
   refine then_normal ?_
   refine loop_once ?_
   refine wp_seq ?_
   refine region_from ?_
   refine d_pures [(2, .slice aa (List.length la) ca), (3, .slice am (List.length lm) cm), (4, pt bk1), (5, pt bk6), (8, .slice none 0 0), (9, .slice ab (List.length (taggedF la lm)) cb), (11, .slice am (List.length lm) cm), (13, .slice am (List.length lm) cm), (19, .slice (some ⟨bk17, 0, none⟩) 2 2), (20, .int .i64 2), (21, .int .i64 2), (37, .slice (some ⟨bk108, 0, none⟩) 2 2), (38, .int .i64 2), (39, .int .i64 2), (40, .bool false), (43, ni i)] [.bool false] 1 En222 (by kernel_rfl) (by kernel_rfl) rfl ?_
   intro ac223 En224
   refine from_end (by kernel_rfl) ?_
   refine then_normal ?_
   refine wp_seq ?_
   refine cond_false En224 (t := false) (by kernel_rfl) rfl ?_
   refine wp_exit ?_
   refine then_exit ?_
   refine then_exit ?_
   refine block_exit ?_
   refine then_normal ?_
   refine wp_seq ?_
   refine region_from ?_
   refine from_op (by kernel_rfl) ?_
   refine op_loadaggbox (d := some 58) (t := 22) (b := bk1) (off := 0) (k := 1) (m := 32) (xs := bys lk) En224 (by kernel_rfl) Hv187 rfl (load_whole (bys_lenh hk)) (bys_lenh hk) (by kernel_rfl) (by kernel_rfl) ?_
   intro ac225 En226
   refine from_op (by kernel_rfl) ?_
   refine op_loadaggbox (d := some 59) (t := 24) (b := bk6) (off := 0) (k := 2) (m := 12) (xs := bys ln) En226 (by kernel_rfl) Hv187 rfl (load_whole (bys_lenh hn)) (bys_lenh hn) (by kernel_rfl) (by kernel_rfl) ?_
   intro ac227 En228
   refine from_op (by kernel_rfl) ?_
   have hM229 : Heap wo185 [] := Hv187.heap.pick [] (by kernel_rfl) (by decide)
   refine op_call (d := some 60) (f := 11) (args := #[.agg (List.toArray (bys lk)), .int .u32 0, .agg (List.toArray (bys ln))]) En228 (by kernel_rfl) ((block_go _ lk hk (0 : UInt32) ln hn).mono ?_)
   rintro _ wo231 ⟨rfl, he234⟩
   refine ⟨_, rfl, ?_⟩
   intro ac230 En232
   have Hv233 : Ev w [] wo231 [.vec ab cb 1 (bys (taggedF la lm)) 5, .box bk1 (bys lk) 22, .box bk6 (bys ln) 24, .vec (some ⟨bk17, 0, none⟩) 2 1 [.slice aa (List.length la) ca, .slice am (List.length lm) cm] 25, .vec (some ⟨bk108, 0, none⟩) 2 1 [.slice aa (List.length la) ca, .slice am (List.length lm) cm] 25] := Hv187.trans (Ev.call (R := [.vec ab cb 1 (bys (taggedF la lm)) 5, .box bk1 (bys lk) 22, .box bk6 (bys ln) 24, .vec (some ⟨bk17, 0, none⟩) 2 1 [.slice aa (List.length la) ca, .slice am (List.length lm) cm] 25, .vec (some ⟨bk108, 0, none⟩) 2 1 [.slice aa (List.length la) ca, .slice am (List.length lm) cm] 25]) Hv187.heap [0, 1, 2, 3, 4] (by kernel_rfl) (by decide) he234)
   clear hM229 he234
   refine from_op (by kernel_rfl) ?_
   refine op_alloc (d := some 15) (T := 28) (x := .tuple #[]) (z := .agg (List.toArray (bys (List.replicate 64 0)))) (cs := bys (List.replicate 64 0)) En232 (by kernel_rfl) (by kernel_rfl) (by kernel_rfl) Hv233 ?_
   intro ac236 wo237 bk235 En238 Hv239
   refine from_op (by kernel_rfl) ?_
   refine op_storeaggbox (d := none) (t := 28) (b := bk235) (off := 0) (k := 5) (m := 64) (xs := bys (blockF lk (0 : UInt32) ln)) (v := .agg (List.toArray (bys (blockF lk (0 : UInt32) ln)))) (cs' := bys (blockF lk (0 : UInt32) ln)) En238 (by kernel_rfl) Hv239 rfl rfl (bys_lenh (blockF_len _ _ _)) (by rw [(bys_lenh (List.length_replicate))]; decide) (by kernel_rfl) (bys_one _) (store_whole (bys_lenh (List.length_replicate))) (L' := [.vec ab cb 1 (bys (taggedF la lm)) 5, .box bk1 (bys lk) 22, .box bk6 (bys ln) 24, .vec (some ⟨bk17, 0, none⟩) 2 1 [.slice aa (List.length la) ca, .slice am (List.length lm) cm] 25, .vec (some ⟨bk108, 0, none⟩) 2 1 [.slice aa (List.length la) ca, .slice am (List.length lm) cm] 25, .box bk235 (bys (blockF lk (0 : UInt32) ln)) 28]) rfl ?_
   intro ac240 wo241  En242 Hv243
   refine from_end (by kernel_rfl) ?_
   have hbk := blockF_len lk 0 ln
   refine then_normal ?_
   refine wp_seq ?_
   refine region_from ?_
   refine from_op (by kernel_rfl) ?_
   refine op_slicearr (d := some 61) (t := 28) (e := 5) (sz := 1) (m := 64) (lo := 0) (hi := 32) (b := bk235) (off := 0) (lov := none) (hiv := (some (.int .i64 32))) (o := 0) En242 (by kernel_rfl) (by kernel_rfl) (by kernel_rfl) (by omega) (by omega) (by omega) (.inl ⟨rfl, rfl⟩) (.inr ⟨.i64, rfl⟩) (by omega) ?_
   intro ac244 En245
   refine from_op (by kernel_rfl) ?_
   refine op_val (d := some 62) (x := Instr.arrayAt 22 (.slice (some ⟨bk235, 0, none⟩) 32 64)) (v := pt bk235) En245 (by kernel_rfl) (Go.Dbr.run_toarr (e := 5) (m := 32) (by kernel_rfl) (by omega) _) ?_
   intro ac246 En247
   refine from_op (by kernel_rfl) ?_
   refine op_loadaggbox (d := some 63) (t := 22) (b := bk235) (off := 0) (k := 5) (m := 32) (xs := bys (List.take 32 (blockF lk (0 : UInt32) ln))) En247 (by kernel_rfl) Hv243 rfl (by simp [bys, List.map_take]) (bys_lenh (by rw [List.length_take, (blockF_len _ _ _)]; decide)) (by kernel_rfl) (by kernel_rfl) ?_
   intro ac248 En249
   refine d_pures [(2, .slice aa (List.length la) ca), (3, .slice am (List.length lm) cm), (8, .slice none 0 0), (9, .slice ab (List.length (taggedF la lm)) cb), (11, .slice am (List.length lm) cm), (13, .slice am (List.length lm) cm), (15, pt bk235), (19, .slice (some ⟨bk17, 0, none⟩) 2 2), (20, .int .i64 2), (21, .int .i64 2), (37, .slice (some ⟨bk108, 0, none⟩) 2 2), (38, .int .i64 2), (39, .int .i64 2), (43, ni i), (63, .agg (List.toArray (bys (List.take 32 (blockF lk (0 : UInt32) ln))))), (64, .slice ab (List.length (taggedF la lm)) cb)] [.slice ab (List.length (taggedF la lm)) cb] 4 En249 (by kernel_rfl) (by kernel_rfl) rfl ?_
   intro ac250 En251
   refine from_op (by kernel_rfl) ?_
   have hM252 : Heap wo241 [] := Hv243.heap.pick [] (by kernel_rfl) (by decide)
   refine op_call (d := some 65) (f := 13) (args := #[.agg (List.toArray (bys (List.take 32 (blockF lk (0 : UInt32) ln)))), .slice ab (List.length (taggedF la lm)) cb]) En251 (by kernel_rfl) ((poly_go _ (List.take 32 (blockF lk (0 : UInt32) ln)) (by rw [List.length_take, (blockF_len _ _ _)]; decide) ab (List.length (taggedF la lm)) cb (taggedF la lm) (by first | rfl | (simp; done) | (simp; omega) | omega) (bys_in Hv243.heap (k := 0) rfl [] (by kernel_rfl) rfl (by first | omega | (simp; done) | (simp; omega)))).mono ?_)
   rintro _ wo254 ⟨rfl, he257⟩
   refine ⟨_, rfl, ?_⟩
   intro ac253 En255
   have Hv256 : Ev w [] wo254 [.vec ab cb 1 (bys (taggedF la lm)) 5, .box bk1 (bys lk) 22, .box bk6 (bys ln) 24, .vec (some ⟨bk17, 0, none⟩) 2 1 [.slice aa (List.length la) ca, .slice am (List.length lm) cm] 25, .vec (some ⟨bk108, 0, none⟩) 2 1 [.slice aa (List.length la) ca, .slice am (List.length lm) cm] 25, .box bk235 (bys (blockF lk (0 : UInt32) ln)) 28] := Hv243.trans (Ev.call (R := [.vec ab cb 1 (bys (taggedF la lm)) 5, .box bk1 (bys lk) 22, .box bk6 (bys ln) 24, .vec (some ⟨bk17, 0, none⟩) 2 1 [.slice aa (List.length la) ca, .slice am (List.length lm) cm] 25, .vec (some ⟨bk108, 0, none⟩) 2 1 [.slice aa (List.length la) ca, .slice am (List.length lm) cm] 25, .box bk235 (bys (blockF lk (0 : UInt32) ln)) 28]) Hv243.heap [0, 1, 2, 3, 4, 5] (by kernel_rfl) (by decide) he257)
   clear hM252 he257
   refine from_op (by kernel_rfl) ?_
   refine op_alloc (d := some 16) (T := 31) (x := .tuple #[]) (z := .agg (List.toArray (bys (List.replicate 16 0)))) (cs := bys (List.replicate 16 0)) En255 (by kernel_rfl) (by kernel_rfl) (by kernel_rfl) Hv256 ?_
   intro ac259 wo260 bk258 En261 Hv262
   refine from_op (by kernel_rfl) ?_
   refine op_storeaggbox (d := none) (t := 31) (b := bk258) (off := 0) (k := 6) (m := 16) (xs := bys (polyF (List.take 32 (blockF lk (0 : UInt32) ln)) (taggedF la lm))) (v := .agg (List.toArray (bys (polyF (List.take 32 (blockF lk (0 : UInt32) ln)) (taggedF la lm))))) (cs' := bys (polyF (List.take 32 (blockF lk (0 : UInt32) ln)) (taggedF la lm))) En261 (by kernel_rfl) Hv262 rfl rfl (bys_lenh (polyF_len _ _)) (by rw [(bys_lenh (List.length_replicate))]; decide) (by kernel_rfl) (bys_one _) (store_whole (bys_lenh (List.length_replicate))) (L' := [.vec ab cb 1 (bys (taggedF la lm)) 5, .box bk1 (bys lk) 22, .box bk6 (bys ln) 24, .vec (some ⟨bk17, 0, none⟩) 2 1 [.slice aa (List.length la) ca, .slice am (List.length lm) cm] 25, .vec (some ⟨bk108, 0, none⟩) 2 1 [.slice aa (List.length la) ca, .slice am (List.length lm) cm] 25, .box bk235 (bys (blockF lk (0 : UInt32) ln)) 28, .box bk258 (bys (polyF (List.take 32 (blockF lk (0 : UInt32) ln)) (taggedF la lm))) 31]) rfl ?_
   intro ac263 wo264  En265 Hv266
   refine from_end (by kernel_rfl) ?_
   refine then_normal ?_
   refine wp_seq ?_
   refine region_from ?_
   refine from_op (by kernel_rfl) ?_
   refine op_slicearr (d := some 66) (t := 31) (e := 5) (sz := 1) (m := 16) (lo := 0) (hi := 16) (b := bk258) (off := 0) (lov := none) (hiv := none) (o := 0) En265 (by kernel_rfl) (by kernel_rfl) (by kernel_rfl) (by omega) (by omega) (by omega) (.inl ⟨rfl, rfl⟩) (.inl ⟨rfl, rfl⟩) (by omega) ?_
   intro ac267 En268
   refine d_pures [(2, .slice aa (List.length la) ca), (3, .slice am (List.length lm) cm), (8, .slice (some ⟨bk258, 0, none⟩) 16 16), (9, .slice ab (List.length (taggedF la lm)) cb), (11, .slice am (List.length lm) cm), (13, .slice am (List.length lm) cm), (15, pt bk235), (16, pt bk258), (19, .slice (some ⟨bk17, 0, none⟩) 2 2), (20, .int .i64 2), (21, .int .i64 2), (37, .slice (some ⟨bk108, 0, none⟩) 2 2), (38, .int .i64 2), (39, .int .i64 2), (43, ni i)] [.slice (some ⟨bk258, 0, none⟩) 16 16] 2 En268 (by kernel_rfl) (by kernel_rfl) rfl ?_
   intro ac269 En270
   refine from_end (by kernel_rfl) ?_
   refine then_normal ?_
   refine wp_ret ?_
   refine d_ret1 (t := 8) (v := .slice (some ⟨bk258, 0, none⟩) 16 16) En270 (by kernel_rfl) (by kernel_rfl) ?_
   exact ⟨_, rfl, Hv266.pick [6] (by kernel_rfl) (by decide)⟩

theorem pad_step {B : List UInt8} {j : Nat} : (B ++ List.replicate j 0) ++ [0] = B ++ List.replicate (j + 1) 0 := by rw [List.append_assoc, List.replicate_succ']
theorem pad_start (B : List UInt8) : B = B ++ List.replicate 0 0 := by simp
theorem pads_eq2 (a m : List UInt8) : (pad16 a ++ m) ++ List.replicate ((16 - (pad16 a ++ m).length % 16) % 16) 0 = pad16 a ++ pad16 m := by
  have h := (pad16_le a).2
  rw [List.length_append, show (16 - ((pad16 a).length + m.length) % 16) % 16 = (16 - m.length % 16) % 16 by omega, List.append_assoc]
  rfl

theorem tagged_ref (w : World) (aa : Option Addr) (na ca : Nat) (la : List UInt8) (ea : na = List.length la) (ia : InB w [] aa ca la) (am : Option Addr) (nm cm : Nat) (lm : List UInt8) (em : nm = List.length lm) (im : InB w [] am cm lm) (hB : List.length la + List.length lm ≤ 1099511627776) : Calls Try.prog 38 #[.slice aa na ca, .slice am nm cm] w fun e w' => ∃ ao co, e = .returned (.slice ao (List.length (taggedF la lm)) co) ∧ Ev w [] w' [.vec ao co 1 (bys (taggedF la lm)) 5] := by
 subst ea
 subst em
 have hsa := ia.small
 have hca := ia.cap
 have hsm := im.small
 have hcm := im.cap
 refine d_start [(0, .slice aa (List.length la) ca), (1, .slice am (List.length lm) cm)] 54 Go.Proofs.Try.func38 Go.Proofs.Try.ntmps38 rfl (by kernel_rfl) (by kernel_rfl) ?_
 intro act0 En0
 have Hv0 : Ev w [] w [] := Ev.refl (Heap.nil _)
 refine wp_seq ?_
 refine region_from ?_
 refine d_pures [(0, .slice aa (List.length la) ca), (1, .slice am (List.length lm) cm), (4, .slice none 0 0)] [.slice none 0 0] 1 En0 (by kernel_rfl) (by kernel_rfl) rfl ?_
 intro ac1 En2
 refine from_end (by kernel_rfl) ?_
 refine then_normal ?_
 refine wp_seq ?_
 refine region_from ?_
 refine from_op (by kernel_rfl) ?_
 refine op_lit (d := some 9) (t := 25) (T := 5) (m := 0) (parts := #[]) (xs := bys []) (sz := 1) En2 (by kernel_rfl) (by kernel_rfl) rfl (by decide) Hv0 ?_
 intro ac4 wo5 bk3 En6 Hv7
 refine d_pures [(0, .slice aa (List.length la) ca), (1, .slice am (List.length lm) cm), (4, .slice none 0 0), (9, .slice (some ⟨bk3, 0, none⟩) 0 0), (10, .slice aa (List.length la) ca)] [.slice aa (List.length la) ca] 2 En6 (by kernel_rfl) (by kernel_rfl) rfl ?_
 intro ac8 En9
 refine from_op (by kernel_rfl) ?_
 have hsm10 := ia.small
 refine op_append (d := some 11) (t := 25) (tx := 25) (ty := 25) (k := 0) (p := 0) (m := List.length la) (x := .slice aa (List.length la) ca) (bytes := 1) En9 (by kernel_rfl) Hv7 rfl rfl (Reads.src (size := 1) (tx := 25) (e' := 5) (by kernel_rfl) (ia.ev Hv7).reads (bys_len _) ia.nz (bys_one _)) (by kernel_rfl) (z := .int .u8 0) (by kernel_rfl) rfl (by decide) (by omega) (by unfold maxLen; omega) ?_
 intro ac15 wo16 ao11 cp12 En17 Hv18 _ _
 rw [bys_nil_append] at Hv18
 have ehz13 : 0 + (List.length la) = List.length la := (by first | (simp; done) | (simp; omega) | omega)
 rw [ehz13] at En17
 refine d_pures [(0, .slice aa (List.length la) ca), (1, .slice am (List.length lm) cm), (4, .slice none 0 0), (5, .slice ao11 (List.length la) cp12)] [.slice ao11 (List.length la) cp12] 4 En17 (by kernel_rfl) (by kernel_rfl) rfl ?_
 intro ac19 En20
 refine from_end (by kernel_rfl) ?_
 refine then_normal ?_
 refine wp_seq ?_
 refine wp_block ?_
 refine loop_m (fun ms21 ac wo => ∃ (j : Nat) (ap : Option Addr) (cp : Nat) (p : List UInt8), ms21 = ((16 - List.length la % 16) % 16 - j : Nat) ∧ Env ac 54 [(0, .slice aa (List.length la) ca), (1, .slice am (List.length lm) cm), (4, .slice none 0 0), (5, .slice ap (List.length p) cp)] ∧ Ev w [] wo [.vec ap cp 1 (bys p) 5] ∧ (j ≤ (16 - List.length la % 16) % 16) ∧ (p = la ++ List.replicate j 0)) ⟨_, 0, ao11, cp12, la, rfl, En20.sub (by kernel_rfl), Hv18.pick [0] (by kernel_rfl) (by decide), by omega, pad_start _⟩ ?_
 rintro mm27 ac23 wo24 ⟨j, ap, cp, p, rfl, En25, Hv26, hjp, hep⟩
 refine wp_seq ?_
 refine wp_seq ?_
 have hpl : List.length p = List.length la + j := by rw [hep]; simp
 refine region_from ?_
 refine d_pures [(0, .slice aa (List.length la) ca), (1, .slice am (List.length lm) cm), (4, .slice none 0 0), (5, .slice ap (List.length p) cp), (14, .int .i64 (Int.tmod ((List.length p : Nat) : Int) (16 : Int)))] [.slice ap (List.length p) cp, .int .i64 ((List.length p : Nat) : Int), .int .i64 (Int.tmod ((List.length p : Nat) : Int) (16 : Int))] 3 En25 (by kernel_rfl) (by kernel_rfl) rfl ?_
 intro ac28 En29
 rw [show Int.tmod ((List.length p : Nat) : Int) (16 : Int) = (((List.length p) % 16 : Nat) : Int) from Go.Dbr.i64_rem_nat (a := ((List.length p : Nat) : Int)) (n := List.length p) (m := 16) rfl (by omega)] at En29
 refine d_pures [(0, .slice aa (List.length la) ca), (1, .slice am (List.length lm) cm), (4, .slice none 0 0), (5, .slice ap (List.length p) cp), (15, .bool ((((List.length p) % 16 : Nat) : Int) != (0 : Int)))] [.bool ((((List.length p) % 16 : Nat) : Int) != (0 : Int))] 4 En29 (by kernel_rfl) (by kernel_rfl) rfl ?_
 intro ac30 En31
 refine from_end (by kernel_rfl) ?_
 refine then_normal ?_
 refine cond_at En31 (t := (((List.length p) % 16 : Nat) : Int) != (0 : Int)) (by kernel_rfl) (fun hc32 => ?_) (fun hc32 => ?_)
 ·
  replace hc32 : ¬ ((((List.length p) % 16 : Nat) : Int) = (0 : Int)) := by simpa using hc32
  refine wp_skip ?_
  refine then_normal ?_
  refine wp_block ?_
  refine region_from ?_
  refine d_pures [(0, .slice aa (List.length la) ca), (1, .slice am (List.length lm) cm), (4, .slice none 0 0), (5, .slice ap (List.length p) cp), (16, .slice ap (List.length p) cp)] [.slice ap (List.length p) cp] 1 En31 (by kernel_rfl) (by kernel_rfl) rfl ?_
  intro ac33 En34
  refine from_op (by kernel_rfl) ?_
  refine op_lit (d := some 17) (t := 25) (T := 5) (m := 1) (parts := #[(0, .int .u8 0)]) (xs := bys [(0 : UInt8)]) (sz := 1) En34 (by kernel_rfl) (by kernel_rfl) rfl (by decide) Hv26 ?_
  intro ac36 wo37 bk35 En38 Hv39
  refine from_op (by kernel_rfl) ?_
  have hpl : List.length p = List.length la + j := by rw [hep]; simp
  refine op_append (d := some 18) (t := 25) (tx := 25) (ty := 25) (k := 0) (p := List.length p) (m := 1) (x := .slice (some ⟨bk35, 0, none⟩) 1 1) (bytes := 1) En38 (by kernel_rfl) Hv39 rfl (bys_len _) (Reads.src (size := 1) (tx := 25) (e' := 5) (by kernel_rfl) (Hv39.heap.reads (k := 1) rfl) rfl (fun e => by cases e) (bys_one _)) (by kernel_rfl) (z := .int .u8 0) (by kernel_rfl) rfl (by decide) (by omega) (by unfold maxLen; omega) ?_
  intro ac44 wo45 ao40 cp41 En46 Hv47 _ _
  rw [← bys_append] at Hv47
  have ehz42 : (List.length p) + 1 = List.length (p ++ [(0 : UInt8)]) := (by first | (simp; done) | (simp; omega) | omega)
  rw [ehz42] at En46
  refine d_pures [(0, .slice aa (List.length la) ca), (1, .slice am (List.length lm) cm), (4, .slice none 0 0), (5, .slice ao40 (List.length (p ++ [(0 : UInt8)])) cp41)] [.slice ao40 (List.length (p ++ [(0 : UInt8)])) cp41] 4 En46 (by kernel_rfl) (by kernel_rfl) rfl ?_
  intro ac48 En49
  refine from_end (by kernel_rfl) ?_
  refine block_normal ?_
  refine then_normal ?_
  refine ⟨_, ⟨j + 1, ao40, cp41, (p ++ [(0 : UInt8)]), rfl, En49.sub (by kernel_rfl), Hv47.pick [0] (by kernel_rfl) (by decide), by omega, by rw [hep]; exact pad_step⟩, ?_⟩
  omega
 ·
  replace hc32 : (((List.length p) % 16 : Nat) : Int) = (0 : Int) := by simpa using hc32
  refine wp_exit ?_
  refine then_exit ?_
  refine then_exit ?_
  refine block_exit ?_
  refine then_normal ?_
  refine wp_seq ?_
  have hpl : List.length p = List.length la + j := by rw [hep]; simp
  have hjp : j = (16 - List.length la % 16) % 16 := by omega
  have heq0 : p = pad16 la := by rw [hep, hjp] <;> rfl
  subst heq0
  have hP1 := (pad16_le la).1
  refine region_from ?_
  refine d_pures [(0, .slice aa (List.length la) ca), (1, .slice am (List.length lm) cm), (4, .slice none 0 0), (5, .slice ap (List.length (pad16 la)) cp), (19, .slice ap (List.length (pad16 la)) cp), (20, .slice am (List.length lm) cm)] [.slice ap (List.length (pad16 la)) cp, .slice am (List.length lm) cm] 2 En31 (by kernel_rfl) (by kernel_rfl) rfl ?_
  intro ac50 En51
  refine from_op (by kernel_rfl) ?_
  have hsm52 := im.small
  refine op_append (d := some 21) (t := 25) (tx := 25) (ty := 25) (k := 0) (p := List.length (pad16 la)) (m := List.length lm) (x := .slice am (List.length lm) cm) (bytes := 1) En51 (by kernel_rfl) Hv26 rfl (bys_len _) (Reads.src (size := 1) (tx := 25) (e' := 5) (by kernel_rfl) (im.ev Hv26).reads (bys_len _) im.nz (bys_one _)) (by kernel_rfl) (z := .int .u8 0) (by kernel_rfl) rfl (by decide) (by omega) (by unfold maxLen; omega) ?_
  intro ac57 wo58 ao53 cp54 En59 Hv60 _ _
  rw [← bys_append] at Hv60
  have ehz55 : (List.length (pad16 la)) + (List.length lm) = List.length ((pad16 la) ++ lm) := (by first | (simp; done) | (simp; omega) | omega)
  rw [ehz55] at En59
  refine d_pures [(0, .slice aa (List.length la) ca), (1, .slice am (List.length lm) cm), (4, .slice none 0 0), (5, .slice ao53 (List.length ((pad16 la) ++ lm)) cp54)] [.slice ao53 (List.length ((pad16 la) ++ lm)) cp54] 4 En59 (by kernel_rfl) (by kernel_rfl) rfl ?_
  intro ac61 En62
  refine from_end (by kernel_rfl) ?_
  refine then_normal ?_
  refine wp_seq ?_
  refine wp_block ?_
  refine loop_m (fun ms63 ac wo => ∃ (j : Nat) (aq : Option Addr) (cq : Nat) (q : List UInt8), ms63 = ((16 - List.length ((pad16 la) ++ lm) % 16) % 16 - j : Nat) ∧ Env ac 54 [(0, .slice aa (List.length la) ca), (1, .slice am (List.length lm) cm), (4, .slice none 0 0), (5, .slice aq (List.length q) cq)] ∧ Ev w [] wo [.vec aq cq 1 (bys q) 5] ∧ (j ≤ (16 - List.length ((pad16 la) ++ lm) % 16) % 16) ∧ (q = ((pad16 la) ++ lm) ++ List.replicate j 0)) ⟨_, 0, ao53, cp54, ((pad16 la) ++ lm), rfl, En62.sub (by kernel_rfl), Hv60.pick [0] (by kernel_rfl) (by decide), by omega, pad_start _⟩ ?_
  rintro mm69 ac65 wo66 ⟨j, aq, cq, q, rfl, En67, Hv68, hjq, heq⟩
  refine wp_seq ?_
  refine wp_seq ?_
  have hql : List.length q = List.length (pad16 la ++ lm) + j := by rw [heq]; simp; omega
  have hP2 : List.length (pad16 la ++ lm) = List.length (pad16 la) + List.length lm := by simp
  refine region_from ?_
  refine d_pures [(0, .slice aa (List.length la) ca), (1, .slice am (List.length lm) cm), (4, .slice none 0 0), (5, .slice aq (List.length q) cq), (24, .int .i64 (Int.tmod ((List.length q : Nat) : Int) (16 : Int)))] [.slice aq (List.length q) cq, .int .i64 ((List.length q : Nat) : Int), .int .i64 (Int.tmod ((List.length q : Nat) : Int) (16 : Int))] 3 En67 (by kernel_rfl) (by kernel_rfl) rfl ?_
  intro ac70 En71
  rw [show Int.tmod ((List.length q : Nat) : Int) (16 : Int) = (((List.length q) % 16 : Nat) : Int) from Go.Dbr.i64_rem_nat (a := ((List.length q : Nat) : Int)) (n := List.length q) (m := 16) rfl (by omega)] at En71
  refine d_pures [(0, .slice aa (List.length la) ca), (1, .slice am (List.length lm) cm), (4, .slice none 0 0), (5, .slice aq (List.length q) cq), (25, .bool ((((List.length q) % 16 : Nat) : Int) != (0 : Int)))] [.bool ((((List.length q) % 16 : Nat) : Int) != (0 : Int))] 4 En71 (by kernel_rfl) (by kernel_rfl) rfl ?_
  intro ac72 En73
  refine from_end (by kernel_rfl) ?_
  refine then_normal ?_
  refine cond_at En73 (t := (((List.length q) % 16 : Nat) : Int) != (0 : Int)) (by kernel_rfl) (fun hc74 => ?_) (fun hc74 => ?_)
  ·
   replace hc74 : ¬ ((((List.length q) % 16 : Nat) : Int) = (0 : Int)) := by simpa using hc74
   refine wp_skip ?_
   refine then_normal ?_
   refine wp_block ?_
   refine region_from ?_
   refine d_pures [(0, .slice aa (List.length la) ca), (1, .slice am (List.length lm) cm), (4, .slice none 0 0), (5, .slice aq (List.length q) cq), (26, .slice aq (List.length q) cq)] [.slice aq (List.length q) cq] 1 En73 (by kernel_rfl) (by kernel_rfl) rfl ?_
   intro ac75 En76
   refine from_op (by kernel_rfl) ?_
   refine op_lit (d := some 27) (t := 25) (T := 5) (m := 1) (parts := #[(0, .int .u8 0)]) (xs := bys [(0 : UInt8)]) (sz := 1) En76 (by kernel_rfl) (by kernel_rfl) rfl (by decide) Hv68 ?_
   intro ac78 wo79 bk77 En80 Hv81
   refine from_op (by kernel_rfl) ?_
   have hql : List.length q = List.length (pad16 la ++ lm) + j := by rw [heq]; simp; omega
   have hP2 : List.length (pad16 la ++ lm) = List.length (pad16 la) + List.length lm := by simp
   refine op_append (d := some 28) (t := 25) (tx := 25) (ty := 25) (k := 0) (p := List.length q) (m := 1) (x := .slice (some ⟨bk77, 0, none⟩) 1 1) (bytes := 1) En80 (by kernel_rfl) Hv81 rfl (bys_len _) (Reads.src (size := 1) (tx := 25) (e' := 5) (by kernel_rfl) (Hv81.heap.reads (k := 1) rfl) rfl (fun e => by cases e) (bys_one _)) (by kernel_rfl) (z := .int .u8 0) (by kernel_rfl) rfl (by decide) (by omega) (by unfold maxLen; omega) ?_
   intro ac86 wo87 ao82 cp83 En88 Hv89 _ _
   rw [← bys_append] at Hv89
   have ehz84 : (List.length q) + 1 = List.length (q ++ [(0 : UInt8)]) := (by first | (simp; done) | (simp; omega) | omega)
   rw [ehz84] at En88
   refine d_pures [(0, .slice aa (List.length la) ca), (1, .slice am (List.length lm) cm), (4, .slice none 0 0), (5, .slice ao82 (List.length (q ++ [(0 : UInt8)])) cp83)] [.slice ao82 (List.length (q ++ [(0 : UInt8)])) cp83] 4 En88 (by kernel_rfl) (by kernel_rfl) rfl ?_
   intro ac90 En91
   refine from_end (by kernel_rfl) ?_
   refine block_normal ?_
   refine then_normal ?_
   refine ⟨_, ⟨j + 1, ao82, cp83, (q ++ [(0 : UInt8)]), rfl, En91.sub (by kernel_rfl), Hv89.pick [0] (by kernel_rfl) (by decide), by omega, by rw [heq]; exact pad_step⟩, ?_⟩
   omega
  ·
   replace hc74 : (((List.length q) % 16 : Nat) : Int) = (0 : Int) := by simpa using hc74
   refine wp_exit ?_
   refine then_exit ?_
   refine then_exit ?_
   refine block_exit ?_
   refine then_normal ?_
   refine wp_seq ?_
   refine wp_seq ?_
   have hql : List.length q = List.length (pad16 la ++ lm) + j := by rw [heq]; simp; omega
   have hjq : j = (16 - List.length (pad16 la ++ lm) % 16) % 16 := by omega
   have heq1 : q = pad16 la ++ pad16 lm := by rw [heq, hjq, pads_eq2]
   subst heq1
   have hPA : List.length (pad16 la ++ pad16 lm) ≤ List.length la + List.length lm + 30 := by rw [List.length_append]; have := (pad16_le la).1; have := (pad16_le lm).1; omega
   refine region_from ?_
   refine d_pures [(0, .slice aa (List.length la) ca), (1, .slice am (List.length lm) cm), (4, .slice none 0 0), (5, .slice aq (List.length (pad16 la ++ pad16 lm)) cq), (30, .int .i64 ((List.length la : Nat) : Int)), (32, .int .i64 ((List.length lm : Nat) : Int))] [.slice aa (List.length la) ca, .int .i64 ((List.length la : Nat) : Int), .slice am (List.length lm) cm, .int .i64 ((List.length lm : Nat) : Int)] 4 En73 (by kernel_rfl) (by kernel_rfl) rfl ?_
   intro ac92 En93
   refine from_op (by kernel_rfl) ?_
   refine op_lit (d := some 33) (t := 72) (T := 3) (m := 2) (parts := #[(0, .int .i64 ((List.length la : Nat) : Int)), (1, .int .i64 ((List.length lm : Nat) : Int))]) (xs := [.int .i64 ((List.length la : Nat) : Int), .int .i64 ((List.length lm : Nat) : Int)]) (sz := 1) En93 (by kernel_rfl) (by kernel_rfl) rfl (by decide) Hv68 ?_
   intro ac95 wo96 bk94 En97 Hv98
   refine d_pures [(0, .slice aa (List.length la) ca), (1, .slice am (List.length lm) cm), (4, .slice none 0 0), (5, .slice aq (List.length (pad16 la ++ pad16 lm)) cq), (33, .slice (some ⟨bk94, 0, none⟩) 2 2), (34, .int .i64 2), (35, .int .i64 0)] [.int .i64 2, .int .i64 0] 7 En97 (by kernel_rfl) (by kernel_rfl) rfl ?_
   intro ac99 En100
   refine from_end (by kernel_rfl) ?_
   refine then_normal ?_
   refine wp_block ?_
   refine loop_enter ?_
   refine loop_once ?_
   refine wp_seq ?_
   refine region_from ?_
   refine d_pures [(0, .slice aa (List.length la) ca), (1, .slice am (List.length lm) cm), (4, .slice none 0 0), (5, .slice aq (List.length (pad16 la ++ pad16 lm)) cq), (33, .slice (some ⟨bk94, 0, none⟩) 2 2), (34, .int .i64 2), (35, .int .i64 0), (36, .bool true)] [.bool true] 1 En100 (by kernel_rfl) (by kernel_rfl) rfl ?_
   intro ac101 En102
   refine from_end (by kernel_rfl) ?_
   refine then_normal ?_
   refine wp_seq ?_
   refine cond_true En102 (t := true) (by kernel_rfl) rfl ?_
   refine wp_skip ?_
   refine then_normal ?_
   refine wp_seq ?_
   refine wp_block ?_
   refine wp_seq ?_
   refine region_from ?_
   have hb105 : 0 < 2 := (by omega)
   refine from_op (by kernel_rfl) ?_
   refine op_val (d := some 37) (x := Instr.indexAt 72 (.slice (some ⟨bk94, 0, none⟩) 2 2) (.int .i64 0)) (v := .pointer (some (Addr.add ⟨bk94, 0, none⟩ 0))) En102 (by kernel_rfl) (Go.Dbr.run_indexsl (e := 3) (sz := 1) (j := 0) (jo := 0) rfl (by kernel_rfl) (by kernel_rfl) (by omega) hb105 (Nat.mul_one _) _) ?_
   intro ac106 En107
   refine from_op (by kernel_rfl) ?_
   refine op_loadel (d := some 38) (t := 3) (ad := ⟨bk94, 0, none⟩) (ao := some ⟨bk94, 0, none⟩) (xs := [.int .i64 ((List.length la : Nat) : Int), .int .i64 ((List.length lm : Nat) : Int)]) (j := 0) (v := .int .i64 ((List.length la : Nat) : Int)) En107 (by kernel_rfl) (Hv98.heap.reads (k := 1) rfl) rfl rfl (by kernel_rfl) ?_
   intro ac108 En109
   refine d_pures [(0, .slice aa (List.length la) ca), (1, .slice am (List.length lm) cm), (4, .slice none 0 0), (5, .slice aq (List.length (pad16 la ++ pad16 lm)) cq), (7, .int .i64 ((List.length la : Nat) : Int)), (33, .slice (some ⟨bk94, 0, none⟩) 2 2), (34, .int .i64 2), (35, .int .i64 0)] [.int .i64 ((List.length la : Nat) : Int)] 3 En109 (by kernel_rfl) (by kernel_rfl) rfl ?_
   intro ac110 En111
   refine from_end (by kernel_rfl) ?_
   refine then_normal ?_
   refine wp_seq ?_
   refine region_from ?_
   refine d_pures [(0, .slice aa (List.length la) ca), (1, .slice am (List.length lm) cm), (4, .slice none 0 0), (5, .slice aq (List.length (pad16 la ++ pad16 lm)) cq), (7, .int .i64 ((List.length la : Nat) : Int)), (8, .int .i64 0), (33, .slice (some ⟨bk94, 0, none⟩) 2 2), (34, .int .i64 2), (35, .int .i64 0)] [.int .i64 0] 1 En111 (by kernel_rfl) (by kernel_rfl) rfl ?_
   intro ac112 En113
   refine from_end (by kernel_rfl) ?_
   refine then_normal ?_
   refine wp_block ?_
   refine loop_m (fun ms114 ac wo => ∃ (i : Nat) (ab : Option Addr) (cb : Nat) (bl : List UInt8), ms114 = (8 - i : Nat) ∧ Env ac 54 [(0, .slice aa (List.length la) ca), (1, .slice am (List.length lm) cm), (4, .slice none 0 0), (5, .slice ab (List.length bl) cb), (7, .int .i64 ((List.length la : Nat) : Int)), (8, ni i), (33, .slice (some ⟨bk94, 0, none⟩) 2 2), (34, .int .i64 2), (35, .int .i64 0)] ∧ Ev w [] wo [.vec ab cb 1 (bys bl) 5, .vec (some ⟨bk94, 0, none⟩) 2 1 [.int .i64 ((List.length la : Nat) : Int), .int .i64 ((List.length lm : Nat) : Int)] 3] ∧ (i ≤ 8) ∧ (bl = (pad16 la ++ pad16 lm) ++ len8 (List.length la) i)) ⟨_, 0, aq, cq, (pad16 la ++ pad16 lm), rfl, En113.sub (by kernel_rfl), Hv98.pick [0, 1] (by kernel_rfl) (by decide), by omega, len8_start _ _⟩ ?_
   rintro mm120 ac116 wo117 ⟨i, ab, cb, bl, rfl, En118, Hv119, hi, heb⟩
   refine wp_seq ?_
   refine wp_seq ?_
   refine region_from ?_
   refine d_pures [(0, .slice aa (List.length la) ca), (1, .slice am (List.length lm) cm), (4, .slice none 0 0), (5, .slice ab (List.length bl) cb), (7, .int .i64 ((List.length la : Nat) : Int)), (8, ni i), (33, .slice (some ⟨bk94, 0, none⟩) 2 2), (34, .int .i64 2), (35, .int .i64 0), (40, .bool (decide (((i : Nat) : Int) < (8 : Int))))] [ni i, .bool (decide (((i : Nat) : Int) < (8 : Int)))] 2 En118 (by kernel_rfl) (by kernel_rfl) rfl ?_
   intro ac121 En122
   refine from_end (by kernel_rfl) ?_
   refine then_normal ?_
   refine cond_at En122 (t := decide (((i : Nat) : Int) < (8 : Int))) (by kernel_rfl) (fun hc123 => ?_) (fun hc123 => ?_)
   ·
    replace hc123 : ((i : Nat) : Int) < (8 : Int) := of_decide_eq_true hc123
    refine wp_skip ?_
    refine then_normal ?_
    refine wp_seq ?_
    refine wp_block ?_
    have hbn : List.length bl ≤ List.length la + List.length lm + 40 + i := by rw [heb, List.length_append, len8_len]; omega
    refine region_from ?_
    refine d_pures [(0, .slice aa (List.length la) ca), (1, .slice am (List.length lm) cm), (4, .slice none 0 0), (5, .slice ab (List.length bl) cb), (7, .int .i64 ((List.length la : Nat) : Int)), (8, ni i), (33, .slice (some ⟨bk94, 0, none⟩) 2 2), (34, .int .i64 2), (35, .int .i64 0), (43, .slice ab (List.length bl) cb), (45, .int .u64 (IntKind.wrap .u64 ((List.length la : Nat) : Int)))] [.slice ab (List.length bl) cb, .int .i64 ((List.length la : Nat) : Int), .int .u64 (IntKind.wrap .u64 ((List.length la : Nat) : Int))] 3 En122 (by kernel_rfl) (by kernel_rfl) rfl ?_
    intro ac124 En125
    rw [Go.Dbr.nat_to_u64 (a := ((List.length la : Nat) : Int)) (n := List.length la) rfl] at En125
    refine d_pures [(0, .slice aa (List.length la) ca), (1, .slice am (List.length lm) cm), (4, .slice none 0 0), (5, .slice ab (List.length bl) cb), (7, .int .i64 ((List.length la : Nat) : Int)), (8, ni i), (33, .slice (some ⟨bk94, 0, none⟩) 2 2), (34, .int .i64 2), (35, .int .i64 0), (43, .slice ab (List.length bl) cb), (45, .int .u64 ((UInt64.toNat (UInt64.ofNat (List.length la)) : Nat) : Int)), (47, .int .i64 (IntKind.wrap .i64 ((8 : Int) * ((i : Nat) : Int))))] [ni i, .int .i64 (IntKind.wrap .i64 ((8 : Int) * ((i : Nat) : Int)))] 5 En125 (by kernel_rfl) (by kernel_rfl) rfl ?_
    intro ac126 En127
    rw [Go.Dbr.wr64 (e := (8 : Int) * ((i : Nat) : Int)) (x := ((8 * i : Nat) : Int)) (by omega) (by omega) (by omega)] at En127
    refine from_op (by kernel_rfl) ?_
    refine op_val (d := some 48) (x := Op.shift .shr .u64 ((UInt64.toNat (UInt64.ofNat (List.length la)) : Nat) : Int) .i64 ((8 * i : Nat) : Int)) (v := .int .u64 ((UInt64.toNat ((UInt64.ofNat (List.length la)) >>> UInt64.ofNat (8 * i)) : Nat) : Int)) En127 (by kernel_rfl) (Go.Dbr.run_shr_u64 (UInt64.ofNat (List.length la)) .i64 (8 * i) (by omega) _) ?_
    intro ac128 En129
    refine d_pures [(0, .slice aa (List.length la) ca), (1, .slice am (List.length lm) cm), (4, .slice none 0 0), (5, .slice ab (List.length bl) cb), (7, .int .i64 ((List.length la : Nat) : Int)), (8, ni i), (33, .slice (some ⟨bk94, 0, none⟩) 2 2), (34, .int .i64 2), (35, .int .i64 0), (43, .slice ab (List.length bl) cb), (49, .int .u8 (IntKind.wrap .u8 ((UInt64.toNat ((UInt64.ofNat (List.length la)) >>> UInt64.ofNat (8 * i)) : Nat) : Int)))] [.int .u8 (IntKind.wrap .u8 ((UInt64.toNat ((UInt64.ofNat (List.length la)) >>> UInt64.ofNat (8 * i)) : Nat) : Int))] 7 En129 (by kernel_rfl) (by kernel_rfl) rfl ?_
    intro ac130 En131
    rw [Go.Dbr.u64_to_u8 (a := ((UInt64.toNat ((UInt64.ofNat (List.length la)) >>> UInt64.ofNat (8 * i)) : Nat) : Int)) (x := (UInt64.ofNat (List.length la)) >>> UInt64.ofNat (8 * i)) rfl] at En131
    refine from_op (by kernel_rfl) ?_
    refine op_lit (d := some 50) (t := 25) (T := 5) (m := 1) (parts := #[(0, .int .u8 ((UInt8.toNat (UInt64.toUInt8 ((UInt64.ofNat (List.length la)) >>> UInt64.ofNat (8 * i))) : Nat) : Int))]) (xs := bys [UInt64.toUInt8 ((UInt64.ofNat (List.length la)) >>> UInt64.ofNat (8 * i))]) (sz := 1) En131 (by kernel_rfl) (by kernel_rfl) rfl (by decide) Hv119 ?_
    intro ac133 wo134 bk132 En135 Hv136
    refine from_op (by kernel_rfl) ?_
    refine op_append (d := some 51) (t := 25) (tx := 25) (ty := 25) (k := 0) (p := List.length bl) (m := 1) (x := .slice (some ⟨bk132, 0, none⟩) 1 1) (bytes := 1) En135 (by kernel_rfl) Hv136 rfl (bys_len _) (Reads.src (size := 1) (tx := 25) (e' := 5) (by kernel_rfl) (Hv136.heap.reads (k := 2) rfl) rfl (fun e => by cases e) (bys_one _)) (by kernel_rfl) (z := .int .u8 0) (by kernel_rfl) rfl (by decide) (by omega) (by unfold maxLen; omega) ?_
    intro ac141 wo142 ao137 cp138 En143 Hv144 _ _
    rw [← bys_append] at Hv144
    have ehz139 : (List.length bl) + 1 = List.length (bl ++ [UInt64.toUInt8 ((UInt64.ofNat (List.length la)) >>> UInt64.ofNat (8 * i))]) := (by first | (simp; done) | (simp; omega) | omega)
    rw [ehz139] at En143
    refine d_pures [(0, .slice aa (List.length la) ca), (1, .slice am (List.length lm) cm), (4, .slice none 0 0), (5, .slice ao137 (List.length (bl ++ [UInt64.toUInt8 ((UInt64.ofNat (List.length la)) >>> UInt64.ofNat (8 * i))])) cp138), (7, .int .i64 ((List.length la : Nat) : Int)), (8, ni i), (33, .slice (some ⟨bk94, 0, none⟩) 2 2), (34, .int .i64 2), (35, .int .i64 0)] [.slice ao137 (List.length (bl ++ [UInt64.toUInt8 ((UInt64.ofNat (List.length la)) >>> UInt64.ofNat (8 * i))])) cp138] 10 En143 (by kernel_rfl) (by kernel_rfl) rfl ?_
    intro ac145 En146
    refine from_end (by kernel_rfl) ?_
    refine block_normal ?_
    refine then_normal ?_
    refine region_from ?_
    refine d_pures [(0, .slice aa (List.length la) ca), (1, .slice am (List.length lm) cm), (4, .slice none 0 0), (5, .slice ao137 (List.length (bl ++ [UInt64.toUInt8 ((UInt64.ofNat (List.length la)) >>> UInt64.ofNat (8 * i))])) cp138), (7, .int .i64 ((List.length la : Nat) : Int)), (8, ni i), (33, .slice (some ⟨bk94, 0, none⟩) 2 2), (34, .int .i64 2), (35, .int .i64 0), (42, .int .i64 (IntKind.wrap .i64 (((i : Nat) : Int) + (1 : Int))))] [ni i, .int .i64 (IntKind.wrap .i64 (((i : Nat) : Int) + (1 : Int)))] 2 En146 (by kernel_rfl) (by kernel_rfl) rfl ?_
    intro ac147 En148
    rw [Go.Dbr.wr64 (e := ((i : Nat) : Int) + (1 : Int)) (x := ((i + 1 : Nat) : Int)) (by omega) (by omega) (by omega)] at En148
    refine d_pures [(0, .slice aa (List.length la) ca), (1, .slice am (List.length lm) cm), (4, .slice none 0 0), (5, .slice ao137 (List.length (bl ++ [UInt64.toUInt8 ((UInt64.ofNat (List.length la)) >>> UInt64.ofNat (8 * i))])) cp138), (7, .int .i64 ((List.length la : Nat) : Int)), (8, .int .i64 ((i + 1 : Nat) : Int)), (33, .slice (some ⟨bk94, 0, none⟩) 2 2), (34, .int .i64 2), (35, .int .i64 0)] [.int .i64 ((i + 1 : Nat) : Int)] 3 En148 (by kernel_rfl) (by kernel_rfl) rfl ?_
    intro ac149 En150
    refine from_end (by kernel_rfl) ?_
    refine then_normal ?_
    refine ⟨_, ⟨i + 1, ao137, cp138, (bl ++ [UInt64.toUInt8 ((UInt64.ofNat (List.length la)) >>> UInt64.ofNat (8 * i))]), rfl, En150.sub (by kernel_rfl), Hv144.pick [0, 1] (by kernel_rfl) (by decide), by omega, by rw [heb]; exact len8_step⟩, ?_⟩
    omega
   ·
    replace hc123 : ¬ (((i : Nat) : Int) < (8 : Int)) := of_decide_eq_false hc123
    refine wp_exit ?_
    refine then_exit ?_
    refine then_exit ?_
    refine block_exit ?_
    refine block_normal ?_
    refine then_normal ?_
    have hi8 : i = 8 := by omega
    have heq2 : bl = (pad16 la ++ pad16 lm) ++ len8 (List.length la) 8 := by rw [heb, hi8] <;> rfl
    subst heq2
    have hPB : List.length ((pad16 la ++ pad16 lm) ++ len8 (List.length la) 8) ≤ List.length la + List.length lm + 38 := by rw [List.length_append, len8_len]; omega
    refine region_from ?_
    refine d_pures [(0, .slice aa (List.length la) ca), (1, .slice am (List.length lm) cm), (4, .slice none 0 0), (5, .slice ab (List.length ((pad16 la ++ pad16 lm) ++ len8 (List.length la) 8)) cb), (7, .int .i64 ((List.length la : Nat) : Int)), (8, ni i), (33, .slice (some ⟨bk94, 0, none⟩) 2 2), (34, .int .i64 2), (35, .int .i64 1)] [.int .i64 1, .int .i64 1] 2 En122 (by kernel_rfl) (by kernel_rfl) rfl ?_
    intro ac151 En152
    refine from_end (by kernel_rfl) ?_
    refine then_normal ?_
    refine loop_once ?_
    refine wp_seq ?_
    refine region_from ?_
    refine d_pures [(0, .slice aa (List.length la) ca), (1, .slice am (List.length lm) cm), (4, .slice none 0 0), (5, .slice ab (List.length ((pad16 la ++ pad16 lm) ++ len8 (List.length la) 8)) cb), (7, .int .i64 ((List.length la : Nat) : Int)), (8, ni i), (33, .slice (some ⟨bk94, 0, none⟩) 2 2), (34, .int .i64 2), (35, .int .i64 1), (36, .bool true)] [.bool true] 1 En152 (by kernel_rfl) (by kernel_rfl) rfl ?_
    intro ac153 En154
    refine from_end (by kernel_rfl) ?_
    refine then_normal ?_
    refine wp_seq ?_
    refine cond_true En154 (t := true) (by kernel_rfl) rfl ?_
    refine wp_skip ?_
    refine then_normal ?_
    refine wp_seq ?_
    refine wp_block ?_
    refine wp_seq ?_
    refine region_from ?_
    have hb157 : 1 < 2 := (by omega)
    refine from_op (by kernel_rfl) ?_
    refine op_val (d := some 37) (x := Instr.indexAt 72 (.slice (some ⟨bk94, 0, none⟩) 2 2) (.int .i64 1)) (v := .pointer (some (Addr.add ⟨bk94, 0, none⟩ 1))) En154 (by kernel_rfl) (Go.Dbr.run_indexsl (e := 3) (sz := 1) (j := 1) (jo := 1) rfl (by kernel_rfl) (by kernel_rfl) (by omega) hb157 (Nat.mul_one _) _) ?_
    intro ac158 En159
    refine from_op (by kernel_rfl) ?_
    refine op_loadel (d := some 38) (t := 3) (ad := ⟨bk94, 0, none⟩) (ao := some ⟨bk94, 0, none⟩) (xs := [.int .i64 ((List.length la : Nat) : Int), .int .i64 ((List.length lm : Nat) : Int)]) (j := 1) (v := .int .i64 ((List.length lm : Nat) : Int)) En159 (by kernel_rfl) (Hv119.heap.reads (k := 1) rfl) rfl rfl (by kernel_rfl) ?_
    intro ac160 En161
    refine d_pures [(0, .slice aa (List.length la) ca), (1, .slice am (List.length lm) cm), (4, .slice none 0 0), (5, .slice ab (List.length ((pad16 la ++ pad16 lm) ++ len8 (List.length la) 8)) cb), (7, .int .i64 ((List.length lm : Nat) : Int)), (8, ni i), (33, .slice (some ⟨bk94, 0, none⟩) 2 2), (34, .int .i64 2), (35, .int .i64 1)] [.int .i64 ((List.length lm : Nat) : Int)] 3 En161 (by kernel_rfl) (by kernel_rfl) rfl ?_
    intro ac162 En163
    refine from_end (by kernel_rfl) ?_
    refine then_normal ?_
    refine wp_seq ?_
    refine region_from ?_
    refine d_pures [(0, .slice aa (List.length la) ca), (1, .slice am (List.length lm) cm), (4, .slice none 0 0), (5, .slice ab (List.length ((pad16 la ++ pad16 lm) ++ len8 (List.length la) 8)) cb), (7, .int .i64 ((List.length lm : Nat) : Int)), (8, .int .i64 0), (33, .slice (some ⟨bk94, 0, none⟩) 2 2), (34, .int .i64 2), (35, .int .i64 1)] [.int .i64 0] 1 En163 (by kernel_rfl) (by kernel_rfl) rfl ?_
    intro ac164 En165
    refine from_end (by kernel_rfl) ?_
    refine then_normal ?_
    refine wp_block ?_
    refine loop_m (fun ms166 ac wo => ∃ (i : Nat) (ab : Option Addr) (cb : Nat) (bl : List UInt8), ms166 = (8 - i : Nat) ∧ Env ac 54 [(0, .slice aa (List.length la) ca), (1, .slice am (List.length lm) cm), (4, .slice none 0 0), (5, .slice ab (List.length bl) cb), (7, .int .i64 ((List.length lm : Nat) : Int)), (8, ni i), (33, .slice (some ⟨bk94, 0, none⟩) 2 2), (34, .int .i64 2), (35, .int .i64 1)] ∧ Ev w [] wo [.vec ab cb 1 (bys bl) 5, .vec (some ⟨bk94, 0, none⟩) 2 1 [.int .i64 ((List.length la : Nat) : Int), .int .i64 ((List.length lm : Nat) : Int)] 3] ∧ (i ≤ 8) ∧ (bl = ((pad16 la ++ pad16 lm) ++ len8 (List.length la) 8) ++ len8 (List.length lm) i)) ⟨_, 0, ab, cb, ((pad16 la ++ pad16 lm) ++ len8 (List.length la) 8), rfl, En165.sub (by kernel_rfl), Hv119.pick [0, 1] (by kernel_rfl) (by decide), by omega, len8_start _ _⟩ ?_
    rintro mm172 ac168 wo169 ⟨i, ab, cb, bl, rfl, En170, Hv171, hi, heb⟩
    refine wp_seq ?_
    refine wp_seq ?_
    refine region_from ?_
    refine d_pures [(0, .slice aa (List.length la) ca), (1, .slice am (List.length lm) cm), (4, .slice none 0 0), (5, .slice ab (List.length bl) cb), (7, .int .i64 ((List.length lm : Nat) : Int)), (8, ni i), (33, .slice (some ⟨bk94, 0, none⟩) 2 2), (34, .int .i64 2), (35, .int .i64 1), (40, .bool (decide (((i : Nat) : Int) < (8 : Int))))] [ni i, .bool (decide (((i : Nat) : Int) < (8 : Int)))] 2 En170 (by kernel_rfl) (by kernel_rfl) rfl ?_
    intro ac173 En174
    refine from_end (by kernel_rfl) ?_
    refine then_normal ?_
    refine cond_at En174 (t := decide (((i : Nat) : Int) < (8 : Int))) (by kernel_rfl) (fun hc175 => ?_) (fun hc175 => ?_)
    ·
     replace hc175 : ((i : Nat) : Int) < (8 : Int) := of_decide_eq_true hc175
     refine wp_skip ?_
     refine then_normal ?_
     refine wp_seq ?_
     refine wp_block ?_
     have hbn : List.length bl ≤ List.length la + List.length lm + 40 + i := by rw [heb, List.length_append, len8_len]; omega
     refine region_from ?_
     refine d_pures [(0, .slice aa (List.length la) ca), (1, .slice am (List.length lm) cm), (4, .slice none 0 0), (5, .slice ab (List.length bl) cb), (7, .int .i64 ((List.length lm : Nat) : Int)), (8, ni i), (33, .slice (some ⟨bk94, 0, none⟩) 2 2), (34, .int .i64 2), (35, .int .i64 1), (43, .slice ab (List.length bl) cb), (45, .int .u64 (IntKind.wrap .u64 ((List.length lm : Nat) : Int)))] [.slice ab (List.length bl) cb, .int .i64 ((List.length lm : Nat) : Int), .int .u64 (IntKind.wrap .u64 ((List.length lm : Nat) : Int))] 3 En174 (by kernel_rfl) (by kernel_rfl) rfl ?_
     intro ac176 En177
     rw [Go.Dbr.nat_to_u64 (a := ((List.length lm : Nat) : Int)) (n := List.length lm) rfl] at En177
     refine d_pures [(0, .slice aa (List.length la) ca), (1, .slice am (List.length lm) cm), (4, .slice none 0 0), (5, .slice ab (List.length bl) cb), (7, .int .i64 ((List.length lm : Nat) : Int)), (8, ni i), (33, .slice (some ⟨bk94, 0, none⟩) 2 2), (34, .int .i64 2), (35, .int .i64 1), (43, .slice ab (List.length bl) cb), (45, .int .u64 ((UInt64.toNat (UInt64.ofNat (List.length lm)) : Nat) : Int)), (47, .int .i64 (IntKind.wrap .i64 ((8 : Int) * ((i : Nat) : Int))))] [ni i, .int .i64 (IntKind.wrap .i64 ((8 : Int) * ((i : Nat) : Int)))] 5 En177 (by kernel_rfl) (by kernel_rfl) rfl ?_
     intro ac178 En179
     rw [Go.Dbr.wr64 (e := (8 : Int) * ((i : Nat) : Int)) (x := ((8 * i : Nat) : Int)) (by omega) (by omega) (by omega)] at En179
     refine from_op (by kernel_rfl) ?_
     refine op_val (d := some 48) (x := Op.shift .shr .u64 ((UInt64.toNat (UInt64.ofNat (List.length lm)) : Nat) : Int) .i64 ((8 * i : Nat) : Int)) (v := .int .u64 ((UInt64.toNat ((UInt64.ofNat (List.length lm)) >>> UInt64.ofNat (8 * i)) : Nat) : Int)) En179 (by kernel_rfl) (Go.Dbr.run_shr_u64 (UInt64.ofNat (List.length lm)) .i64 (8 * i) (by omega) _) ?_
     intro ac180 En181
     refine d_pures [(0, .slice aa (List.length la) ca), (1, .slice am (List.length lm) cm), (4, .slice none 0 0), (5, .slice ab (List.length bl) cb), (7, .int .i64 ((List.length lm : Nat) : Int)), (8, ni i), (33, .slice (some ⟨bk94, 0, none⟩) 2 2), (34, .int .i64 2), (35, .int .i64 1), (43, .slice ab (List.length bl) cb), (49, .int .u8 (IntKind.wrap .u8 ((UInt64.toNat ((UInt64.ofNat (List.length lm)) >>> UInt64.ofNat (8 * i)) : Nat) : Int)))] [.int .u8 (IntKind.wrap .u8 ((UInt64.toNat ((UInt64.ofNat (List.length lm)) >>> UInt64.ofNat (8 * i)) : Nat) : Int))] 7 En181 (by kernel_rfl) (by kernel_rfl) rfl ?_
     intro ac182 En183
     rw [Go.Dbr.u64_to_u8 (a := ((UInt64.toNat ((UInt64.ofNat (List.length lm)) >>> UInt64.ofNat (8 * i)) : Nat) : Int)) (x := (UInt64.ofNat (List.length lm)) >>> UInt64.ofNat (8 * i)) rfl] at En183
     refine from_op (by kernel_rfl) ?_
     refine op_lit (d := some 50) (t := 25) (T := 5) (m := 1) (parts := #[(0, .int .u8 ((UInt8.toNat (UInt64.toUInt8 ((UInt64.ofNat (List.length lm)) >>> UInt64.ofNat (8 * i))) : Nat) : Int))]) (xs := bys [UInt64.toUInt8 ((UInt64.ofNat (List.length lm)) >>> UInt64.ofNat (8 * i))]) (sz := 1) En183 (by kernel_rfl) (by kernel_rfl) rfl (by decide) Hv171 ?_
     intro ac185 wo186 bk184 En187 Hv188
     refine from_op (by kernel_rfl) ?_
     refine op_append (d := some 51) (t := 25) (tx := 25) (ty := 25) (k := 0) (p := List.length bl) (m := 1) (x := .slice (some ⟨bk184, 0, none⟩) 1 1) (bytes := 1) En187 (by kernel_rfl) Hv188 rfl (bys_len _) (Reads.src (size := 1) (tx := 25) (e' := 5) (by kernel_rfl) (Hv188.heap.reads (k := 2) rfl) rfl (fun e => by cases e) (bys_one _)) (by kernel_rfl) (z := .int .u8 0) (by kernel_rfl) rfl (by decide) (by omega) (by unfold maxLen; omega) ?_
     intro ac193 wo194 ao189 cp190 En195 Hv196 _ _
     rw [← bys_append] at Hv196
     have ehz191 : (List.length bl) + 1 = List.length (bl ++ [UInt64.toUInt8 ((UInt64.ofNat (List.length lm)) >>> UInt64.ofNat (8 * i))]) := (by first | (simp; done) | (simp; omega) | omega)
     rw [ehz191] at En195
     refine d_pures [(0, .slice aa (List.length la) ca), (1, .slice am (List.length lm) cm), (4, .slice none 0 0), (5, .slice ao189 (List.length (bl ++ [UInt64.toUInt8 ((UInt64.ofNat (List.length lm)) >>> UInt64.ofNat (8 * i))])) cp190), (7, .int .i64 ((List.length lm : Nat) : Int)), (8, ni i), (33, .slice (some ⟨bk94, 0, none⟩) 2 2), (34, .int .i64 2), (35, .int .i64 1)] [.slice ao189 (List.length (bl ++ [UInt64.toUInt8 ((UInt64.ofNat (List.length lm)) >>> UInt64.ofNat (8 * i))])) cp190] 10 En195 (by kernel_rfl) (by kernel_rfl) rfl ?_
     intro ac197 En198
     refine from_end (by kernel_rfl) ?_
     refine block_normal ?_
     refine then_normal ?_
     refine region_from ?_
     refine d_pures [(0, .slice aa (List.length la) ca), (1, .slice am (List.length lm) cm), (4, .slice none 0 0), (5, .slice ao189 (List.length (bl ++ [UInt64.toUInt8 ((UInt64.ofNat (List.length lm)) >>> UInt64.ofNat (8 * i))])) cp190), (7, .int .i64 ((List.length lm : Nat) : Int)), (8, ni i), (33, .slice (some ⟨bk94, 0, none⟩) 2 2), (34, .int .i64 2), (35, .int .i64 1), (42, .int .i64 (IntKind.wrap .i64 (((i : Nat) : Int) + (1 : Int))))] [ni i, .int .i64 (IntKind.wrap .i64 (((i : Nat) : Int) + (1 : Int)))] 2 En198 (by kernel_rfl) (by kernel_rfl) rfl ?_
     intro ac199 En200
     rw [Go.Dbr.wr64 (e := ((i : Nat) : Int) + (1 : Int)) (x := ((i + 1 : Nat) : Int)) (by omega) (by omega) (by omega)] at En200
     refine d_pures [(0, .slice aa (List.length la) ca), (1, .slice am (List.length lm) cm), (4, .slice none 0 0), (5, .slice ao189 (List.length (bl ++ [UInt64.toUInt8 ((UInt64.ofNat (List.length lm)) >>> UInt64.ofNat (8 * i))])) cp190), (7, .int .i64 ((List.length lm : Nat) : Int)), (8, .int .i64 ((i + 1 : Nat) : Int)), (33, .slice (some ⟨bk94, 0, none⟩) 2 2), (34, .int .i64 2), (35, .int .i64 1)] [.int .i64 ((i + 1 : Nat) : Int)] 3 En200 (by kernel_rfl) (by kernel_rfl) rfl ?_
     intro ac201 En202
     refine from_end (by kernel_rfl) ?_
     refine then_normal ?_
     refine ⟨_, ⟨i + 1, ao189, cp190, (bl ++ [UInt64.toUInt8 ((UInt64.ofNat (List.length lm)) >>> UInt64.ofNat (8 * i))]), rfl, En202.sub (by kernel_rfl), Hv196.pick [0, 1] (by kernel_rfl) (by decide), by omega, by rw [heb]; exact len8_step⟩, ?_⟩
     omega
    ·
     replace hc175 : ¬ (((i : Nat) : Int) < (8 : Int)) := of_decide_eq_false hc175
     refine wp_exit ?_
     refine then_exit ?_
     refine then_exit ?_
     refine block_exit ?_
     refine block_normal ?_
     refine then_normal ?_
     have hi8 : i = 8 := by omega
     have heq3 : bl = taggedF la lm := by rw [heb, hi8] <;> rfl
     subst heq3
     have hTG : List.length (taggedF la lm) ≤ List.length la + List.length lm + 46 := by unfold taggedF; rw [List.length_append, len8_len]; omega
     refine region_from ?_
     refine d_pures [(0, .slice aa (List.length la) ca), (1, .slice am (List.length lm) cm), (4, .slice none 0 0), (5, .slice ab (List.length (taggedF la lm)) cb), (7, .int .i64 ((List.length lm : Nat) : Int)), (8, ni i), (33, .slice (some ⟨bk94, 0, none⟩) 2 2), (34, .int .i64 2), (35, .int .i64 2)] [.int .i64 2, .int .i64 2] 2 En174 (by kernel_rfl) (by kernel_rfl) rfl ?_
     intro ac203 En204
     refine from_end (by kernel_rfl) ?_
     refine then_normal ?_
     refine loop_once ?_
     refine wp_seq ?_
     refine region_from ?_
     refine d_pures [(0, .slice aa (List.length la) ca), (1, .slice am (List.length lm) cm), (4, .slice none 0 0), (5, .slice ab (List.length (taggedF la lm)) cb), (7, .int .i64 ((List.length lm : Nat) : Int)), (8, ni i), (33, .slice (some ⟨bk94, 0, none⟩) 2 2), (34, .int .i64 2), (35, .int .i64 2), (36, .bool false)] [.bool false] 1 En204 (by kernel_rfl) (by kernel_rfl) rfl ?_
     intro ac205 En206
     refine from_end (by kernel_rfl) ?_
     refine then_normal ?_
     refine wp_seq ?_
     refine cond_false En206 (t := false) (by kernel_rfl) rfl ?_
     refine wp_exit ?_
     refine then_exit ?_
     refine then_exit ?_
     refine block_exit ?_
     refine then_normal ?_
     refine wp_seq ?_
     refine region_from ?_
     refine d_pures [(0, .slice aa (List.length la) ca), (1, .slice am (List.length lm) cm), (4, .slice ab (List.length (taggedF la lm)) cb), (5, .slice ab (List.length (taggedF la lm)) cb), (7, .int .i64 ((List.length lm : Nat) : Int)), (8, ni i), (33, .slice (some ⟨bk94, 0, none⟩) 2 2), (34, .int .i64 2), (35, .int .i64 2)] [.slice ab (List.length (taggedF la lm)) cb, .slice ab (List.length (taggedF la lm)) cb] 2 En206 (by kernel_rfl) (by kernel_rfl) rfl ?_
     intro ac207 En208
     refine from_end (by kernel_rfl) ?_
     refine then_normal ?_
     refine wp_ret ?_
     refine d_ret1 (t := 4) (v := .slice ab (List.length (taggedF la lm)) cb) En208 (by kernel_rfl) (by kernel_rfl) ?_
     have Hf209 := Hv171.pick [0] (by kernel_rfl) (by decide) (M := [.vec ab cb 1 (bys (taggedF la lm)) 5])
     exact ⟨_, _, rfl, Hf209⟩

def firstF (l : List UInt8) : Nat → List UInt8
  | 0 => List.replicate 32 0
  | i + 1 => List.set (firstF l i) i (List.getD l i 0)
theorem firstF_len (l : List UInt8) (i : Nat) : (firstF l i).length = 32 := by
  induction i with
  | zero => rfl
  | succ i ih => simp [firstF, ih]
theorem firstF_at (l : List UInt8) : ∀ i, i ≤ 32 → ∀ j, j < 32 → List.getD (firstF l i) j 0 = if j < i then List.getD l j 0 else 0
  | 0, _, j, _ => by rw [firstF, getD_replicate, if_neg (Nat.not_lt_zero j)]
  | i + 1, h, j, hj => by
    rw [firstF, getD_set, firstF_at l i (by omega) j hj, firstF_len]
    by_cases e : i = j
    · subst e; rw [if_pos ⟨rfl, hj⟩, if_pos (by omega)]
    · rw [if_neg (fun q => e q.1)]
      by_cases h2 : j < i
      · rw [if_pos h2, if_pos (by omega)]
      · rw [if_neg h2, if_neg (by omega)]
theorem first_eq {l : List UInt8} (h : 32 ≤ l.length) : firstF l 32 = List.take 32 l := by
  apply List.ext_getElem (by rw [firstF_len, List.length_take]; omega)
  intro i h1 h2
  rw [firstF_len] at h1
  have := firstF_at l 32 (Nat.le_refl _) i h1
  rw [if_pos h1] at this
  simp only [List.getD, List.getElem?_eq_getElem (show i < (firstF l 32).length by rw [firstF_len]; exact h1), List.getElem?_eq_getElem (show i < l.length by omega), Option.getD_some] at this
  rw [List.getElem_take, this]

theorem tag_ref (w : World) (lk : List UInt8) (hk : List.length lk = 32) (ln : List UInt8) (hn : List.length ln = 12) (aa : Option Addr) (na ca : Nat) (la : List UInt8) (ea : na = List.length la) (ia : InB w [] aa ca la) (am : Option Addr) (nm cm : Nat) (lm : List UInt8) (em : nm = List.length lm) (im : InB w [] am cm lm) (hB : List.length la + List.length lm ≤ 1099511627776) : Calls Try.prog 32 #[.agg (List.toArray (bys lk)), .agg (List.toArray (bys ln)), .slice aa na ca, .slice am nm cm] w fun e w' => ∃ ao co, e = .returned (.slice ao 16 co) ∧ Ev w [] w' [.vec ao co 1 (bys (tagF lk ln la lm)) 5] := by
 subst ea
 subst em
 have hsa := ia.small
 have hca := ia.cap
 have hsm := im.small
 have hcm := im.cap
 refine d_start [(0, .agg (List.toArray (bys lk))), (1, .agg (List.toArray (bys ln))), (2, .slice aa (List.length la) ca), (3, .slice am (List.length lm) cm)] 33 Go.Proofs.Try.func32 Go.Proofs.Try.ntmps32 rfl (by kernel_rfl) (by kernel_rfl) ?_
 intro act0 En0
 have Hv0 : Ev w [] w [] := Ev.refl (Heap.nil _)
 refine wp_seq ?_
 refine region_from ?_
 refine from_op (by kernel_rfl) ?_
 refine op_newbox (d := some 4) (T := 22) (v := .agg (List.toArray (bys lk))) (cs := bys lk) En0 (by kernel_rfl) rfl Hv0 ?_
 intro ac2 wo3 bk1 En4 Hv5
 refine from_op (by kernel_rfl) ?_
 refine op_newbox (d := some 5) (T := 24) (v := .agg (List.toArray (bys ln))) (cs := bys ln) En4 (by kernel_rfl) rfl Hv5 ?_
 intro ac7 wo8 bk6 En9 Hv10
 refine d_pures [(2, .slice aa (List.length la) ca), (3, .slice am (List.length lm) cm), (4, pt bk1), (5, pt bk6), (8, .slice none 0 0)] [.slice none 0 0] 3 En9 (by kernel_rfl) (by kernel_rfl) rfl ?_
 intro ac11 En12
 refine from_end (by kernel_rfl) ?_
 refine then_normal ?_
 refine wp_seq ?_
 refine region_from ?_
 refine from_op (by kernel_rfl) ?_
 refine op_loadaggbox (d := some 13) (t := 22) (b := bk1) (off := 0) (k := 0) (m := 32) (xs := bys lk) En12 (by kernel_rfl) Hv10 rfl (load_whole (bys_lenh hk)) (bys_lenh hk) (by kernel_rfl) (by kernel_rfl) ?_
 intro ac13 En14
 refine from_op (by kernel_rfl) ?_
 refine op_loadaggbox (d := some 14) (t := 24) (b := bk6) (off := 0) (k := 1) (m := 12) (xs := bys ln) En14 (by kernel_rfl) Hv10 rfl (load_whole (bys_lenh hn)) (bys_lenh hn) (by kernel_rfl) (by kernel_rfl) ?_
 intro ac15 En16
 refine from_op (by kernel_rfl) ?_
 have hM17 : Heap wo8 [] := Hv10.heap.pick [] (by kernel_rfl) (by decide)
 refine op_call (d := some 15) (f := 12) (args := #[.agg (List.toArray (bys lk)), .int .u32 0, .agg (List.toArray (bys ln))]) En16 (by kernel_rfl) ((block_ref _ lk hk (0 : UInt32) ln hn).mono ?_)
 rintro _ wo19 ⟨rfl, he22⟩
 refine ⟨_, rfl, ?_⟩
 intro ac18 En20
 have Hv21 : Ev w [] wo19 [.box bk1 (bys lk) 22, .box bk6 (bys ln) 24] := Hv10.trans (Ev.call (R := [.box bk1 (bys lk) 22, .box bk6 (bys ln) 24]) Hv10.heap [0, 1] (by kernel_rfl) (by decide) he22)
 clear hM17 he22
 refine from_op (by kernel_rfl) ?_
 refine op_alloc (d := some 9) (T := 28) (x := .tuple #[]) (z := .agg (List.toArray (bys (List.replicate 64 0)))) (cs := bys (List.replicate 64 0)) En20 (by kernel_rfl) (by kernel_rfl) (by kernel_rfl) Hv21 ?_
 intro ac24 wo25 bk23 En26 Hv27
 refine from_op (by kernel_rfl) ?_
 refine op_storeaggbox (d := none) (t := 28) (b := bk23) (off := 0) (k := 2) (m := 64) (xs := bys (blockF lk (0 : UInt32) ln)) (v := .agg (List.toArray (bys (blockF lk (0 : UInt32) ln)))) (cs' := bys (blockF lk (0 : UInt32) ln)) En26 (by kernel_rfl) Hv27 rfl rfl (bys_lenh (blockF_len _ _ _)) (by rw [(bys_lenh (List.length_replicate))]; decide) (by kernel_rfl) (bys_one _) (store_whole (bys_lenh (List.length_replicate))) (L' := [.box bk1 (bys lk) 22, .box bk6 (bys ln) 24, .box bk23 (bys (blockF lk (0 : UInt32) ln)) 28]) rfl ?_
 intro ac28 wo29  En30 Hv31
 refine from_end (by kernel_rfl) ?_
 have hbk := blockF_len lk 0 ln
 have htl := tagF_len lk ln la lm
 have hTG := taggedF_le la lm
 refine then_normal ?_
 refine wp_seq ?_
 refine region_from ?_
 refine from_op (by kernel_rfl) ?_
 refine op_alloc (d := some 10) (T := 22) (x := .tuple #[]) (z := .agg (List.toArray (bys (List.replicate 32 0)))) (cs := bys (List.replicate 32 0)) En30 (by kernel_rfl) (by kernel_rfl) (by kernel_rfl) Hv31 ?_
 intro ac33 wo34 bk32 En35 Hv36
 refine from_end (by kernel_rfl) ?_
 refine then_normal ?_
 refine wp_seq ?_
 refine wp_seq ?_
 refine region_from ?_
 refine d_pures [(2, .slice aa (List.length la) ca), (3, .slice am (List.length lm) cm), (8, .slice none 0 0), (9, pt bk23), (10, pt bk32), (11, .int .i64 0)] [.int .i64 0] 1 En35 (by kernel_rfl) (by kernel_rfl) rfl ?_
 intro ac37 En38
 refine from_end (by kernel_rfl) ?_
 refine then_normal ?_
 refine wp_block ?_
 refine loop_m (fun ms39 ac wo => ∃ (i : Nat) (z : List UInt8), ms39 = (32 - i : Nat) ∧ Env ac 33 [(2, .slice aa (List.length la) ca), (3, .slice am (List.length lm) cm), (8, .slice none 0 0), (9, pt bk23), (10, pt bk32), (11, ni i)] ∧ Ev w [] wo [.box bk32 (bys z) 22, .box bk23 (bys (blockF lk (0 : UInt32) ln)) 28] ∧ (i ≤ 32) ∧ (List.length z = 32) ∧ (z = firstF (blockF lk 0 ln) i)) ⟨_, 0, List.replicate 32 0, rfl, En38.sub (by kernel_rfl), Hv36.pick [3, 2] (by kernel_rfl) (by decide), by omega, (List.length_replicate), rfl⟩ ?_
 rintro mm45 ac41 wo42 ⟨i, z, rfl, En43, Hv44, hiz, hlz, hez⟩
 refine wp_seq ?_
 refine wp_seq ?_
 refine region_from ?_
 refine d_pures [(2, .slice aa (List.length la) ca), (3, .slice am (List.length lm) cm), (8, .slice none 0 0), (9, pt bk23), (10, pt bk32), (11, ni i), (17, .bool (decide (((i : Nat) : Int) < (32 : Int))))] [ni i, .bool (decide (((i : Nat) : Int) < (32 : Int)))] 2 En43 (by kernel_rfl) (by kernel_rfl) rfl ?_
 intro ac46 En47
 refine from_end (by kernel_rfl) ?_
 refine then_normal ?_
 refine cond_at En47 (t := decide (((i : Nat) : Int) < (32 : Int))) (by kernel_rfl) (fun hc48 => ?_) (fun hc48 => ?_)
 ·
  replace hc48 : ((i : Nat) : Int) < (32 : Int) := of_decide_eq_true hc48
  refine wp_skip ?_
  refine then_normal ?_
  refine wp_seq ?_
  refine wp_block ?_
  refine region_from ?_
  refine d_pures [(2, .slice aa (List.length la) ca), (3, .slice am (List.length lm) cm), (8, .slice none 0 0), (9, pt bk23), (10, pt bk32), (11, ni i), (20, ni i), (21, ni i)] [ni i, ni i] 2 En47 (by kernel_rfl) (by kernel_rfl) rfl ?_
  intro ac49 En50
  refine from_op (by kernel_rfl) ?_
  refine op_val (d := some 22) (x := Instr.indexAt 28 (pt bk23) (ni i)) (v := .pointer (some ⟨bk23, i, none⟩)) En50 (by kernel_rfl) (Go.Dbr.run_indexarr (e := 5) (sz := 1) (m := 64) (j := i) (o := i) (by kernel_rfl) (by kernel_rfl) (by omega) (by omega) (by omega) _) ?_
  intro ac51 En52
  refine from_op (by kernel_rfl) ?_
  have hb53 : i < List.length (blockF lk (0 : UInt32) ln) := by rw [(blockF_len _ _ _)]; omega
  refine op_loadbox (d := some 23) (t := 5) (b := bk23) (off := i) (k := 1) (v := .int .u8 ((UInt8.toNat (List.getD (blockF lk (0 : UInt32) ln) i 0) : Nat) : Int)) En52 (by kernel_rfl) Hv44 rfl (bys_getD hb53) (by kernel_rfl) ?_
  intro ac54 En55
  refine from_op (by kernel_rfl) ?_
  refine op_val (d := some 24) (x := Instr.indexAt 22 (pt bk32) (ni i)) (v := .pointer (some ⟨bk32, i, none⟩)) En55 (by kernel_rfl) (Go.Dbr.run_indexarr (e := 5) (sz := 1) (m := 32) (j := i) (o := i) (by kernel_rfl) (by kernel_rfl) (by omega) (by omega) (by omega) _) ?_
  intro ac56 En57
  refine from_op (by kernel_rfl) ?_
  have hb58 : i < List.length z := by rw [hlz]; omega
  refine op_storebox2 (d := none) (t := 5) (b := bk32) (off := i) (k := 0) (v := .int .u8 ((UInt8.toNat (List.getD (blockF lk (0 : UInt32) ln) i 0) : Nat) : Int)) En57 (by kernel_rfl) Hv44 rfl (bys_getD hb58) (by kernel_rfl) rfl (bys_set _ _ _) (L' := [.box bk32 (bys (List.set z i (List.getD (blockF lk (0 : UInt32) ln) i 0))) 22, .box bk23 (bys (blockF lk (0 : UInt32) ln)) 28]) rfl ?_
  intro ac59 wo60  En61 Hv62
  refine from_end (by kernel_rfl) ?_
  refine block_normal ?_
  refine then_normal ?_
  refine region_from ?_
  refine d_pures [(2, .slice aa (List.length la) ca), (3, .slice am (List.length lm) cm), (8, .slice none 0 0), (9, pt bk23), (10, pt bk32), (11, ni i), (19, .int .i64 (IntKind.wrap .i64 (((i : Nat) : Int) + (1 : Int))))] [ni i, .int .i64 (IntKind.wrap .i64 (((i : Nat) : Int) + (1 : Int)))] 2 En61 (by kernel_rfl) (by kernel_rfl) rfl ?_
  intro ac63 En64
  rw [Go.Dbr.wr64 (e := ((i : Nat) : Int) + (1 : Int)) (x := ((i + 1 : Nat) : Int)) (by omega) (by omega) (by omega)] at En64
  refine d_pures [(2, .slice aa (List.length la) ca), (3, .slice am (List.length lm) cm), (8, .slice none 0 0), (9, pt bk23), (10, pt bk32), (11, .int .i64 ((i + 1 : Nat) : Int))] [.int .i64 ((i + 1 : Nat) : Int)] 3 En64 (by kernel_rfl) (by kernel_rfl) rfl ?_
  intro ac65 En66
  refine from_end (by kernel_rfl) ?_
  refine then_normal ?_
  refine ⟨_, ⟨i + 1, (List.set z i (List.getD (blockF lk (0 : UInt32) ln) i 0)), rfl, En66.sub (by kernel_rfl), Hv62.pick [0, 1] (by kernel_rfl) (by decide), by omega, (List.length_set.trans hlz), by first | (rw [hez]; rfl) | (rw [hez, hc2]; rfl) | rfl⟩, ?_⟩
  omega
 ·
  replace hc48 : ¬ (((i : Nat) : Int) < (32 : Int)) := of_decide_eq_false hc48
  refine wp_exit ?_
  refine then_exit ?_
  refine then_exit ?_
  refine block_exit ?_
  refine then_normal ?_
  refine wp_seq ?_
  have hnz : i = 32 := by omega
  have hfz : z = firstF (blockF lk 0 ln) 32 := by rw [hez, hnz] <;> rfl
  rw [show z = (firstF (blockF lk 0 ln) 32) from hfz] at Hv44
  rw [show (firstF (blockF lk 0 ln) 32) = (List.take 32 (blockF lk 0 ln)) from first_eq (by rw [blockF_len]; decide)] at Hv44
  refine region_cut (F := fun ac wo => ∃ (bk192 : Nat), Env ac 33 [(8, .slice none 0 0), (9, pt bk23), (10, pt bk32), (11, ni i), (12, pt bk192)] ∧ Ev w [] wo [.box bk32 (bys (List.take 32 (blockF lk 0 ln))) 22, .box bk23 (bys (blockF lk (0 : UInt32) ln)) 28, .box bk192 (bys (polyF (List.take 32 (blockF lk 0 ln)) (taggedF la lm))) 31]) ?_ ?_
  ·
   refine h_start (fun wv => Ev w [] wv [.box bk32 (bys (List.take 32 (blockF lk 0 ln))) 22]) [] (by kernel_rfl) 7 (by kernel_rfl) ?_
   have wo67 := Hv44.trans (Ev.drew Hv44.heap)
   refine h_name fun G hG => ?_
   have nd238 : ∀ (ac : Act) (wo : World), Env ac 33 [(8, .slice none 0 0), (9, pt bk23), (10, pt bk32), (11, ni i), (29, .agg (List.toArray (bys (polyF (List.take 32 (blockF lk 0 ln)) (taggedF la lm)))))] → Ev w [] wo [.box bk32 (bys (List.take 32 (blockF lk 0 ln))) 22, .box bk23 (bys (blockF lk (0 : UInt32) ln)) 28] → G 2 #[true, true, true, true, true, false, false] ac wo := by
    intro ac239 wo240 En241 Hv242
    refine h_from hG ?_
    refine h_at 5 (by kernel_rfl) rfl ?_
    refine op_alloc (d := some 12) (T := 31) (x := .tuple #[]) (z := .agg (List.toArray (bys (List.replicate 16 0)))) (cs := bys (List.replicate 16 0)) En241 (by kernel_rfl) (by kernel_rfl) (by kernel_rfl) Hv242 ?_
    intro ac244 wo245 bk243 En246 Hv247
    refine ⟨fun _ => Hv247.pick [0] (by kernel_rfl) (by decide), ?_⟩
    refine h_at 6 (by kernel_rfl) rfl ?_
    refine op_storeaggbox (d := none) (t := 31) (b := bk243) (off := 0) (k := 2) (m := 16) (xs := bys (polyF (List.take 32 (blockF lk 0 ln)) (taggedF la lm))) (v := .agg (List.toArray (bys (polyF (List.take 32 (blockF lk 0 ln)) (taggedF la lm))))) (cs' := bys (polyF (List.take 32 (blockF lk 0 ln)) (taggedF la lm))) En246 (by kernel_rfl) Hv247 rfl rfl (bys_lenh (polyF_len _ _)) (by rw [(bys_lenh (List.length_replicate))]; decide) (by kernel_rfl) (bys_one _) (store_whole (bys_lenh (List.length_replicate))) (L' := [.box bk32 (bys (List.take 32 (blockF lk 0 ln))) 22, .box bk23 (bys (blockF lk (0 : UInt32) ln)) 28, .box bk243 (bys (polyF (List.take 32 (blockF lk 0 ln)) (taggedF la lm))) 31]) rfl ?_
    intro ac248 wo249  En250 Hv251
    refine ⟨fun _ => Hv251.pick [0] (by kernel_rfl) (by decide), ?_⟩
    exact h_end (by kernel_rfl) ⟨bk243, En250.sub (by kernel_rfl), Hv251.pick [0, 1, 2] (by kernel_rfl) (by decide)⟩
   have nd252 : ∀ (ac : Act) (wo : World) (aoq179 : _) (coq179 : _) (bk201 : Nat), Env ac 33 [(8, .slice none 0 0), (9, pt bk23), (10, pt bk32), (11, ni i), (12, pt bk201), (25, .agg (List.toArray (bys (List.take 32 (blockF lk 0 ln))))), (28, .slice aoq179 (List.length (taggedF la lm)) coq179)] → Ev w [] wo [.vec aoq179 coq179 1 (bys (taggedF la lm)) 5, .box bk32 (bys (List.take 32 (blockF lk 0 ln))) 22, .box bk23 (bys (blockF lk (0 : UInt32) ln)) 28, .box bk201 (bys (List.replicate 16 0)) 31] → G 2 #[true, true, true, true, false, true, false] ac wo := by
    intro ac253 wo254 aoq179 coq179 bk201 En255 Hv256
    refine h_from hG ?_
    refine h_at 4 (by kernel_rfl) rfl ?_
    have hM257 : Heap wo254 [] := Hv256.heap.pick [] (by kernel_rfl) (by decide)
    refine op_call (d := some 29) (f := 14) (args := #[.agg (List.toArray (bys (List.take 32 (blockF lk 0 ln)))), .slice aoq179 (List.length (taggedF la lm)) coq179]) En255 (by kernel_rfl) ((poly_ref _ (List.take 32 (blockF lk 0 ln)) (by rw [List.length_take, blockF_len]; decide) aoq179 (List.length (taggedF la lm)) coq179 (taggedF la lm) (by first | rfl | (simp; done) | (simp; omega) | omega) (bys_in Hv256.heap (k := 0) rfl [] (by kernel_rfl) rfl (by first | omega | (simp; done) | (simp; omega)))).mono ?_)
    rintro _ wo259 ⟨rfl, he262⟩
    refine ⟨_, rfl, ?_⟩
    intro ac258 En260
    have Hv261 : Ev w [] wo259 [.vec aoq179 coq179 1 (bys (taggedF la lm)) 5, .box bk32 (bys (List.take 32 (blockF lk 0 ln))) 22, .box bk23 (bys (blockF lk (0 : UInt32) ln)) 28, .box bk201 (bys (List.replicate 16 0)) 31] := Hv256.trans (Ev.call (R := [.vec aoq179 coq179 1 (bys (taggedF la lm)) 5, .box bk32 (bys (List.take 32 (blockF lk 0 ln))) 22, .box bk23 (bys (blockF lk (0 : UInt32) ln)) 28, .box bk201 (bys (List.replicate 16 0)) 31]) Hv256.heap [0, 1, 2, 3] (by kernel_rfl) (by decide) he262)
    clear hM257 he262
    refine ⟨fun _ => Hv261.pick [1] (by kernel_rfl) (by decide), ?_⟩
    refine h_at 6 (by kernel_rfl) rfl ?_
    refine op_storeaggbox (d := none) (t := 31) (b := bk201) (off := 0) (k := 3) (m := 16) (xs := bys (polyF (List.take 32 (blockF lk 0 ln)) (taggedF la lm))) (v := .agg (List.toArray (bys (polyF (List.take 32 (blockF lk 0 ln)) (taggedF la lm))))) (cs' := bys (polyF (List.take 32 (blockF lk 0 ln)) (taggedF la lm))) En260 (by kernel_rfl) Hv261 rfl rfl (bys_lenh (polyF_len _ _)) (by rw [(bys_lenh (List.length_replicate))]; decide) (by kernel_rfl) (bys_one _) (store_whole (bys_lenh (List.length_replicate))) (L' := [.vec aoq179 coq179 1 (bys (taggedF la lm)) 5, .box bk32 (bys (List.take 32 (blockF lk 0 ln))) 22, .box bk23 (bys (blockF lk (0 : UInt32) ln)) 28, .box bk201 (bys (polyF (List.take 32 (blockF lk 0 ln)) (taggedF la lm))) 31]) rfl ?_
    intro ac263 wo264  En265 Hv266
    refine ⟨fun _ => Hv266.pick [1] (by kernel_rfl) (by decide), ?_⟩
    exact h_end (by kernel_rfl) ⟨bk201, En265.sub (by kernel_rfl), Hv266.pick [1, 2, 3] (by kernel_rfl) (by decide)⟩
   have nd267 : ∀ (ac : Act) (wo : World) (aoq179 : _) (coq179 : _), Env ac 33 [(8, .slice none 0 0), (9, pt bk23), (10, pt bk32), (11, ni i), (25, .agg (List.toArray (bys (List.take 32 (blockF lk 0 ln))))), (28, .slice aoq179 (List.length (taggedF la lm)) coq179)] → Ev w [] wo [.vec aoq179 coq179 1 (bys (taggedF la lm)) 5, .box bk32 (bys (List.take 32 (blockF lk 0 ln))) 22, .box bk23 (bys (blockF lk (0 : UInt32) ln)) 28] → G 3 #[true, true, true, true, false, false, false] ac wo := by
    intro ac268 wo269 aoq179 coq179 En270 Hv271
    refine h_from hG ?_
    refine h_ways [4, 5] (by kernel_rfl) rfl ?_
    refine ⟨?_, ?_, trivial⟩
    ·
     rintro _ rfl
     have hM272 : Heap wo269 [] := Hv271.heap.pick [] (by kernel_rfl) (by decide)
     refine op_call (d := some 29) (f := 14) (args := #[.agg (List.toArray (bys (List.take 32 (blockF lk 0 ln)))), .slice aoq179 (List.length (taggedF la lm)) coq179]) En270 (by kernel_rfl) ((poly_ref _ (List.take 32 (blockF lk 0 ln)) (by rw [List.length_take, blockF_len]; decide) aoq179 (List.length (taggedF la lm)) coq179 (taggedF la lm) (by first | rfl | (simp; done) | (simp; omega) | omega) (bys_in Hv271.heap (k := 0) rfl [] (by kernel_rfl) rfl (by first | omega | (simp; done) | (simp; omega)))).mono ?_)
     rintro _ wo274 ⟨rfl, he277⟩
     refine ⟨_, rfl, ?_⟩
     intro ac273 En275
     have Hv276 : Ev w [] wo274 [.vec aoq179 coq179 1 (bys (taggedF la lm)) 5, .box bk32 (bys (List.take 32 (blockF lk 0 ln))) 22, .box bk23 (bys (blockF lk (0 : UInt32) ln)) 28] := Hv271.trans (Ev.call (R := [.vec aoq179 coq179 1 (bys (taggedF la lm)) 5, .box bk32 (bys (List.take 32 (blockF lk 0 ln))) 22, .box bk23 (bys (blockF lk (0 : UInt32) ln)) 28]) Hv271.heap [0, 1, 2] (by kernel_rfl) (by decide) he277)
     clear hM272 he277
     refine ⟨fun _ => Hv276.pick [1] (by kernel_rfl) (by decide), ?_⟩
     exact h_to hG (by kernel_rfl) (nd238 _ _ (En275.sub (by kernel_rfl)) (Hv276.pick [1, 2] (by kernel_rfl) (by decide)))
    ·
     rintro _ rfl
     refine op_alloc (d := some 12) (T := 31) (x := .tuple #[]) (z := .agg (List.toArray (bys (List.replicate 16 0)))) (cs := bys (List.replicate 16 0)) En270 (by kernel_rfl) (by kernel_rfl) (by kernel_rfl) Hv271 ?_
     intro ac279 wo280 bk278 En281 Hv282
     refine ⟨fun _ => Hv282.pick [1] (by kernel_rfl) (by decide), ?_⟩
     exact h_to hG (by kernel_rfl) (nd252 _ _ aoq179 coq179 bk278 (En281.sub (by kernel_rfl)) (Hv282.pick [0, 1, 2, 3] (by kernel_rfl) (by decide)))
   have nd283 : ∀ (ac : Act) (wo : World) (bk216 : Nat), Env ac 33 [(8, .slice none 0 0), (9, pt bk23), (10, pt bk32), (11, ni i), (12, pt bk216), (25, .agg (List.toArray (bys (List.take 32 (blockF lk 0 ln))))), (26, .slice aa (List.length la) ca), (27, .slice am (List.length lm) cm)] → Ev w [] wo [.box bk32 (bys (List.take 32 (blockF lk 0 ln))) 22, .box bk23 (bys (blockF lk (0 : UInt32) ln)) 28, .box bk216 (bys (List.replicate 16 0)) 31] → G 3 #[true, true, true, false, false, true, false] ac wo := by
    intro ac284 wo285 bk216 En286 Hv287
    refine h_from hG ?_
    refine h_at 3 (by kernel_rfl) rfl ?_
    have hM289 : Heap wo285 [] := Hv287.heap.pick [] (by kernel_rfl) (by decide)
    refine op_call (d := some 28) (f := 38) (args := #[.slice aa (List.length la) ca, .slice am (List.length lm) cm]) En286 (by kernel_rfl) ((tagged_ref _ aa (List.length la) ca la (by first | rfl | (simp; done) | (simp; omega) | omega) ((ia.ev Hv287).pick [] (by kernel_rfl)) am (List.length lm) cm lm (by first | rfl | (simp; done) | (simp; omega) | omega) ((im.ev Hv287).pick [] (by kernel_rfl)) (by first | omega | (simp; omega))).mono ?_)
    rintro _ wo291 ⟨aoq288, coq288, rfl, he294⟩
    refine ⟨_, rfl, ?_⟩
    intro ac290 En292
    have Hv293 : Ev w [] wo291 [.vec aoq288 coq288 1 (bys (taggedF la lm)) 5, .box bk32 (bys (List.take 32 (blockF lk 0 ln))) 22, .box bk23 (bys (blockF lk (0 : UInt32) ln)) 28, .box bk216 (bys (List.replicate 16 0)) 31] := Hv287.trans (Ev.call (R := [.box bk32 (bys (List.take 32 (blockF lk 0 ln))) 22, .box bk23 (bys (blockF lk (0 : UInt32) ln)) 28, .box bk216 (bys (List.replicate 16 0)) 31]) Hv287.heap [0, 1, 2] (by kernel_rfl) (by decide) he294)
    clear hM289 he294
    refine ⟨fun _ => Hv293.pick [1] (by kernel_rfl) (by decide), ?_⟩
    refine h_at 4 (by kernel_rfl) rfl ?_
    have hM295 : Heap wo291 [] := Hv293.heap.pick [] (by kernel_rfl) (by decide)
    refine op_call (d := some 29) (f := 14) (args := #[.agg (List.toArray (bys (List.take 32 (blockF lk 0 ln)))), .slice aoq288 (List.length (taggedF la lm)) coq288]) En292 (by kernel_rfl) ((poly_ref _ (List.take 32 (blockF lk 0 ln)) (by rw [List.length_take, blockF_len]; decide) aoq288 (List.length (taggedF la lm)) coq288 (taggedF la lm) (by first | rfl | (simp; done) | (simp; omega) | omega) (bys_in Hv293.heap (k := 0) rfl [] (by kernel_rfl) rfl (by first | omega | (simp; done) | (simp; omega)))).mono ?_)
    rintro _ wo297 ⟨rfl, he300⟩
    refine ⟨_, rfl, ?_⟩
    intro ac296 En298
    have Hv299 : Ev w [] wo297 [.vec aoq288 coq288 1 (bys (taggedF la lm)) 5, .box bk32 (bys (List.take 32 (blockF lk 0 ln))) 22, .box bk23 (bys (blockF lk (0 : UInt32) ln)) 28, .box bk216 (bys (List.replicate 16 0)) 31] := Hv293.trans (Ev.call (R := [.vec aoq288 coq288 1 (bys (taggedF la lm)) 5, .box bk32 (bys (List.take 32 (blockF lk 0 ln))) 22, .box bk23 (bys (blockF lk (0 : UInt32) ln)) 28, .box bk216 (bys (List.replicate 16 0)) 31]) Hv293.heap [0, 1, 2, 3] (by kernel_rfl) (by decide) he300)
    clear hM295 he300
    refine ⟨fun _ => Hv299.pick [1] (by kernel_rfl) (by decide), ?_⟩
    refine h_at 6 (by kernel_rfl) rfl ?_
    refine op_storeaggbox (d := none) (t := 31) (b := bk216) (off := 0) (k := 3) (m := 16) (xs := bys (polyF (List.take 32 (blockF lk 0 ln)) (taggedF la lm))) (v := .agg (List.toArray (bys (polyF (List.take 32 (blockF lk 0 ln)) (taggedF la lm))))) (cs' := bys (polyF (List.take 32 (blockF lk 0 ln)) (taggedF la lm))) En298 (by kernel_rfl) Hv299 rfl rfl (bys_lenh (polyF_len _ _)) (by rw [(bys_lenh (List.length_replicate))]; decide) (by kernel_rfl) (bys_one _) (store_whole (bys_lenh (List.length_replicate))) (L' := [.vec aoq288 coq288 1 (bys (taggedF la lm)) 5, .box bk32 (bys (List.take 32 (blockF lk 0 ln))) 22, .box bk23 (bys (blockF lk (0 : UInt32) ln)) 28, .box bk216 (bys (polyF (List.take 32 (blockF lk 0 ln)) (taggedF la lm))) 31]) rfl ?_
    intro ac301 wo302  En303 Hv304
    refine ⟨fun _ => Hv304.pick [1] (by kernel_rfl) (by decide), ?_⟩
    exact h_end (by kernel_rfl) ⟨bk216, En303.sub (by kernel_rfl), Hv304.pick [1, 2, 3] (by kernel_rfl) (by decide)⟩
   refine h_from hG ?_
   refine h_read (d := some 25) (s := nv (Instr.loadAt 22 (pt bk32))) En47 (v := .agg (List.toArray (bys (List.take 32 (blockF lk 0 ln))))) 0 (by kernel_rfl) (fun w hS => run_nv (run_loadAgg2 (m := 32) (cs := bys (List.take 32 (blockF lk 0 ln))) (bys_lenh (by rw [List.length_take, blockF_len]; decide)) (by kernel_rfl) (by kernel_rfl) (hS.heap.cells (k := 0) (off := 0) (m := 32) rfl (load_whole (bys_lenh (by rw [List.length_take, blockF_len]; decide)))))) (by kernel_rfl) rfl (wo67.pick [0] (by kernel_rfl) (by decide)) ?_
   intro ac305 En306
   refine h_pureR (d := some 26) En306 (v := .slice aa (List.length la) ca) 1 (by kernel_rfl) (by kernel_rfl) rfl (fun _ => wo67.pick [0] (by kernel_rfl) (by decide)) ?_
   intro ac307 En308
   refine h_pureR (d := some 27) En308 (v := .slice am (List.length lm) cm) 2 (by kernel_rfl) (by kernel_rfl) rfl (fun _ => wo67.pick [0] (by kernel_rfl) (by decide)) ?_
   intro ac309 En310
   refine h_ways [3, 5] (by kernel_rfl) rfl ?_
   refine ⟨?_, ?_, trivial⟩
   ·
    rintro _ rfl
    have hM312 : Heap wo42.drew [] := wo67.heap.pick [] (by kernel_rfl) (by decide)
    refine op_call (d := some 28) (f := 38) (args := #[.slice aa (List.length la) ca, .slice am (List.length lm) cm]) En310 (by kernel_rfl) ((tagged_ref _ aa (List.length la) ca la (by first | rfl | (simp; done) | (simp; omega) | omega) ((ia.ev wo67).pick [] (by kernel_rfl)) am (List.length lm) cm lm (by first | rfl | (simp; done) | (simp; omega) | omega) ((im.ev wo67).pick [] (by kernel_rfl)) (by first | omega | (simp; omega))).mono ?_)
    rintro _ wo314 ⟨aoq311, coq311, rfl, he317⟩
    refine ⟨_, rfl, ?_⟩
    intro ac313 En315
    have Hv316 : Ev w [] wo314 [.vec aoq311 coq311 1 (bys (taggedF la lm)) 5, .box bk32 (bys (List.take 32 (blockF lk 0 ln))) 22, .box bk23 (bys (blockF lk (0 : UInt32) ln)) 28] := wo67.trans (Ev.call (R := [.box bk32 (bys (List.take 32 (blockF lk 0 ln))) 22, .box bk23 (bys (blockF lk (0 : UInt32) ln)) 28]) wo67.heap [0, 1] (by kernel_rfl) (by decide) he317)
    clear hM312 he317
    refine ⟨fun _ => Hv316.pick [1] (by kernel_rfl) (by decide), ?_⟩
    exact h_to hG (by kernel_rfl) (nd267 _ _ aoq311 coq311 (En315.sub (by kernel_rfl)) (Hv316.pick [0, 1, 2] (by kernel_rfl) (by decide)))
   ·
    rintro _ rfl
    refine op_alloc (d := some 12) (T := 31) (x := .tuple #[]) (z := .agg (List.toArray (bys (List.replicate 16 0)))) (cs := bys (List.replicate 16 0)) En310 (by kernel_rfl) (by kernel_rfl) (by kernel_rfl) wo67 ?_
    intro ac319 wo320 bk318 En321 Hv322
    refine ⟨fun _ => Hv322.pick [0] (by kernel_rfl) (by decide), ?_⟩
    exact h_to hG (by kernel_rfl) (nd283 _ _ bk318 (En321.sub (by kernel_rfl)) (Hv322.pick [0, 1, 2] (by kernel_rfl) (by decide)))
  rintro ac323 wo324 ⟨bk192, En325, Hv326⟩
  replace Hv326 : Ev w [] wo324 [.box bk32 (bys (List.take 32 (blockF lk 0 ln))) 22, .box bk23 (bys (blockF lk (0 : UInt32) ln)) 28, .box bk192 (bys (tagF lk ln la lm)) 31] := Hv326
  refine then_normal ?_
  refine wp_seq ?_
  refine region_from ?_
  refine from_op (by kernel_rfl) ?_
  refine op_lit (d := some 30) (t := 25) (T := 5) (m := 0) (parts := #[]) (xs := bys []) (sz := 1) En325 (by kernel_rfl) (by kernel_rfl) rfl (by decide) Hv326 ?_
  intro ac328 wo329 bk327 En330 Hv331
  refine from_op (by kernel_rfl) ?_
  refine op_slicearr (d := some 31) (t := 31) (e := 5) (sz := 1) (m := 16) (lo := 0) (hi := 16) (b := bk192) (off := 0) (lov := none) (hiv := none) (o := 0) En330 (by kernel_rfl) (by kernel_rfl) (by kernel_rfl) (by omega) (by omega) (by omega) (.inl ⟨rfl, rfl⟩) (.inl ⟨rfl, rfl⟩) (by omega) ?_
  intro ac332 En333
  refine from_op (by kernel_rfl) ?_
  refine op_append (d := some 32) (t := 25) (tx := 25) (ty := 25) (k := 3) (p := 0) (m := 16) (x := .slice (some ⟨bk192, 0, none⟩) 16 16) (bytes := 1) En333 (by kernel_rfl) Hv331 rfl rfl (Reads.src (size := 1) (tx := 25) (e' := 5) (by kernel_rfl) (Hv331.heap.readsBox (k := 2) (m := 16) rfl (load_whole (bys_lenh (tagF_len _ _ _ _)))) (bys_lenn (by first | (rw [(tagF_len _ _ _ _)]) | (simp [(tagF_len _ _ _ _)]; done) | (simp [(tagF_len _ _ _ _)]; omega))) (fun e => by cases e) (bys_one _)) (by kernel_rfl) (z := .int .u8 0) (by kernel_rfl) rfl (by decide) (by omega) (by unfold maxLen; omega) ?_
  intro ac338 wo339 ao334 cp335 En340 Hv341 _ _
  rw [bys_nil_append] at Hv341
  have ehz336 : 0 + 16 = List.length (tagF lk ln la lm) := (by first | (simp; done) | (simp; omega) | omega)
  rw [ehz336] at En340
  refine d_pures [(8, .slice ao334 (List.length (tagF lk ln la lm)) cp335), (9, pt bk23), (10, pt bk32), (11, ni i), (12, pt bk192)] [.slice ao334 (List.length (tagF lk ln la lm)) cp335] 4 En340 (by kernel_rfl) (by kernel_rfl) rfl ?_
  intro ac342 En343
  refine from_end (by kernel_rfl) ?_
  refine then_normal ?_
  refine wp_ret ?_
  refine d_ret1 (t := 8) (v := .slice ao334 (List.length (tagF lk ln la lm)) cp335) En343 (by kernel_rfl) (by kernel_rfl) ?_
  have Hf344 := Hv341.pick [3] (by kernel_rfl) (by decide) (M := [.vec ao334 cp335 1 (bys (tagF lk ln la lm)) 5])
  exact ⟨_, _, rfl, Hf344⟩

end Go.Proofs.Ytnahplggflhdaaa
