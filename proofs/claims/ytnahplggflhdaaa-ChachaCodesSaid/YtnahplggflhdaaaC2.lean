/- Layer 9: blocks. -/
import Derived.Test.YtnahplggflhdaaaC1
namespace Go.Proofs.Ytnahplggflhdaaa
open Go.Dbr
set_option maxRecDepth 100000
set_option maxHeartbeats 2000000
set_option linter.unusedVariables false
set_option linter.unusedSimpArgs false

theorem partW_cut (l : List UInt8) (i : Nat) : partW (List.take 4 (List.drop (4 * i) l)) 0 4 = partW l i 4 := by
  have key : ∀ k, k < 4 → List.getD (List.take 4 (List.drop (4 * i) l)) (4 * 0 + k) 0 = List.getD l (4 * i + k) 0 := fun k hk => by
    simp only [List.getD, List.getElem?_take, List.getElem?_drop]
    rw [if_pos (by omega)]
    simp
  simp only [partW, key 0 (by decide), key 1 (by decide), key 2 (by decide), key 3 (by decide)]
theorem wordsF8 {l : List UInt8} (h : l.length = 32) : wordsF l = [partW l 0 4, partW l 1 4, partW l 2 4, partW l 3 4, partW l 4 4, partW l 5 4, partW l 6 4, partW l 7 4] := by
  unfold wordsF
  rw [h]
  rfl
theorem wordsF3 {l : List UInt8} (h : l.length = 12) : wordsF l = [partW l 0 4, partW l 1 4, partW l 2 4] := by
  unfold wordsF
  rw [h]
  rfl
def initW (key : List UInt8) (count : UInt32) (nonce : List UInt8) : List UInt32 :=
  [1634760805, 857760878, 2036477234, 1797285236, partW key 0 4, partW key 1 4, partW key 2 4, partW key 3 4, partW key 4 4, partW key 5 4, partW key 6 4, partW key 7 4, count, partW nonce 0 4, partW nonce 1 4, partW nonce 2 4]
theorem initW_len (key : List UInt8) (count : UInt32) (nonce : List UInt8) : (initW key count nonce).length = 16 := rfl
def round (v : List UInt32) : List UInt32 :=
  quart (quart (quart (quart (quart (quart (quart (quart v 0 4 8 12) 1 5 9 13) 2 6 10 14) 3 7 11 15) 0 5 10 15) 1 6 11 12) 2 7 8 13) 3 4 9 14
def rounds (w : List UInt32) : Nat → List UInt32
  | 0 => w
  | i + 1 => round (rounds w i)
def byteAt (v w : List UInt32) (j : Nat) : UInt8 := UInt32.toUInt8 ((List.getD v (j / 4) 0 + List.getD w (j / 4) 0) >>> UInt32.ofNat (8 * (j % 4)))
def blockF (key : List UInt8) (count : UInt32) (nonce : List UInt8) : List UInt8 := (List.range 64).map (byteAt (rounds (initW key count nonce) 10) (initW key count nonce))
theorem blockF_len (key : List UInt8) (count : UInt32) (nonce : List UInt8) : (blockF key count nonce).length = 64 := by simp [blockF]
theorem upto_set {α : Type} {o : List α} {n i : Nat} {d : α} {f g : Nat → α} (hl : o.length = n) (h : ∀ j, j < n → o.getD j d = if j < i then f j else g j) (hi : i < n) : ∀ j, j < n → (o.set i (f i)).getD j d = if j < i + 1 then f j else g j := fun j hj => by
  rw [getD_set]
  by_cases e : i = j
  · subst e; rw [if_pos ⟨rfl, by omega⟩, if_pos (by omega)]
  · rw [if_neg (fun q => e q.1), h j hj]
    by_cases h2 : j < i
    · rw [if_pos h2, if_pos (by omega)]
    · rw [if_neg h2, if_neg (by omega)]
theorem getD_replicate {α : Type} (n j : Nat) (x : α) : (List.replicate n x).getD j x = x := by
  simp only [List.getD, List.getElem?_replicate]
  split <;> rfl

theorem words_go (w : World) (ax : Option Addr) (nx cx : Nat) (lx : List UInt8) (ex : nx = List.length lx) (ix : InB w [] ax cx lx) : Calls Try.prog 19 #[.slice ax nx cx] w fun e w' => ∃ ao co, e = .returned (.slice ao (List.length (wordsF lx)) co) ∧ Ev w [] w' [.vec ao co 1 (u32s (wordsF lx)) 23] := by
  subst ex
  have hs := ix.small
  have hcx := ix.cap
  refine d_start [(0, .slice ax (List.length lx) cx)] 38 Go.Proofs.Try.func19 Go.Proofs.Try.ntmps19 rfl (by kernel_rfl) (by kernel_rfl) ?_
  intro act0 En0
  have Hv0 : Ev w [] w [] := Ev.refl (Heap.nil _)
  refine wp_seq ?_
  refine region_from ?_  -- region 0
  refine d_pures [(0, .slice ax (List.length lx) cx), (2, .slice none 0 0)] [.slice none 0 0] 1 En0 (by kernel_rfl) (by kernel_rfl) rfl ?_
  intro ac1 En2
  refine from_end (by kernel_rfl) ?_
  refine then_normal ?_
  refine wp_seq ?_
  refine region_from ?_  -- region 1
  refine d_pures [(0, .slice ax (List.length lx) cx), (2, .slice none 0 0), (8, .int .i64 (IntKind.wrap .i64 (Int.tdiv ((List.length lx : Nat) : Int) (4 : Int))))] [.slice ax (List.length lx) cx, .int .i64 ((List.length lx : Nat) : Int), .int .i64 (IntKind.wrap .i64 (Int.tdiv ((List.length lx : Nat) : Int) (4 : Int)))] 3 En2 (by kernel_rfl) (by kernel_rfl) rfl ?_
  intro ac3 En4
  rw [show IntKind.wrap .i64 (Int.tdiv ((List.length lx : Nat) : Int) (4 : Int)) = (((List.length lx) / 4 : Nat) : Int) from Go.Dbr.i64_quo_nat (a := ((List.length lx : Nat) : Int)) (n := List.length lx) (m := 4) rfl (by omega)] at En4
  refine from_op (by kernel_rfl) ?_
  refine op_makeslice (d := some 9) (t := 43) (T := 23) (m := (List.length lx) / 4) (kl := .i64) (kc := .i64) (z := .int .u32 0) (bytes := 4) En4 (by kernel_rfl) Hv0 (by kernel_rfl) (by kernel_rfl) (by kernel_rfl) (by omega) (by unfold maxLen; omega) ?_
  intro ac6 wo7 bk5 En8 Hv9
  rw [show List.replicate ((List.length lx) / 4) (Value.int .u32 0) = u32s (List.replicate ((List.length lx) / 4) 0) from (u32s_replicate _).symm] at Hv9
  refine d_pures [(0, .slice ax (List.length lx) cx), (2, .slice none 0 0), (3, .slice (some ⟨bk5, 0, none⟩) ((List.length lx) / 4) ((List.length lx) / 4))] [.slice (some ⟨bk5, 0, none⟩) ((List.length lx) / 4) ((List.length lx) / 4)] 5 En8 (by kernel_rfl) (by kernel_rfl) rfl ?_
  intro ac10 En11
  refine from_end (by kernel_rfl) ?_
  refine then_normal ?_
  refine wp_seq ?_
  refine wp_seq ?_
  refine region_from ?_  -- region 2
  refine d_pures [(0, .slice ax (List.length lx) cx), (2, .slice none 0 0), (3, .slice (some ⟨bk5, 0, none⟩) ((List.length lx) / 4) ((List.length lx) / 4)), (11, .int .i64 (((List.length lx) / 4 : Nat) : Int)), (12, .int .i64 0)] [.slice (some ⟨bk5, 0, none⟩) ((List.length lx) / 4) ((List.length lx) / 4), .int .i64 (((List.length lx) / 4 : Nat) : Int), .int .i64 0] 3 En11 (by kernel_rfl) (by kernel_rfl) rfl ?_
  intro ac12 En13
  refine from_end (by kernel_rfl) ?_
  refine then_normal ?_
  refine wp_block ?_
  refine loop_m (fun ms14 ac wo => ∃ (i : Nat) (o : List UInt32), ms14 = (List.length lx / 4 - i : Nat) ∧ Env ac 38 [(0, .slice ax (List.length lx) cx), (2, .slice none 0 0), (3, .slice (some ⟨bk5, 0, none⟩) ((List.length lx) / 4) ((List.length lx) / 4)), (11, .int .i64 (((List.length lx) / 4 : Nat) : Int)), (12, .int .i64 ((i : Nat) : Int))] ∧ Ev w [] wo [.vec (some ⟨bk5, 0, none⟩) ((List.length lx) / 4) 1 (u32s o) 23] ∧ (i ≤ List.length lx / 4) ∧ (List.length o = List.length lx / 4) ∧ (∀ j, j < List.length lx / 4 → List.getD o j 0 = if j < i then partW lx j 4 else 0)) ⟨_, 0, List.replicate ((List.length lx) / 4) 0, rfl, En13.sub (by kernel_rfl), Hv9.pick [0] (by kernel_rfl) (by decide), by omega, by simp, fun j hj => by rw [getD_replicate, if_neg (by omega)]⟩ ?_
  rintro mm20 ac16 wo17 ⟨i, o, rfl, En18, Hv19, hi, ho, hp⟩
  refine wp_seq ?_
  refine region_from ?_  -- region 3
  refine d_pures [(0, .slice ax (List.length lx) cx), (2, .slice none 0 0), (3, .slice (some ⟨bk5, 0, none⟩) ((List.length lx) / 4) ((List.length lx) / 4)), (11, .int .i64 (((List.length lx) / 4 : Nat) : Int)), (12, .int .i64 ((i : Nat) : Int)), (13, .bool (decide (((i : Nat) : Int) < (((List.length lx) / 4 : Nat) : Int))))] [.bool (decide (((i : Nat) : Int) < (((List.length lx) / 4 : Nat) : Int)))] 1 En18 (by kernel_rfl) (by kernel_rfl) rfl ?_
  intro ac21 En22
  refine from_end (by kernel_rfl) ?_
  refine then_normal ?_
  refine wp_seq ?_
  refine cond_at En22 (t := decide (((i : Nat) : Int) < (((List.length lx) / 4 : Nat) : Int))) (by kernel_rfl) (fun hc23 => ?_) (fun hc23 => ?_)
  ·
    replace hc23 : ((i : Nat) : Int) < (((List.length lx) / 4 : Nat) : Int) := of_decide_eq_true hc23
    refine wp_skip ?_
    refine then_normal ?_
    refine wp_seq ?_
    refine wp_block ?_
    refine wp_seq ?_
    refine region_from ?_  -- region 4
    refine d_pures [(0, .slice ax (List.length lx) cx), (2, .slice none 0 0), (3, .slice (some ⟨bk5, 0, none⟩) ((List.length lx) / 4) ((List.length lx) / 4)), (4, .int .i64 ((i : Nat) : Int)), (11, .int .i64 (((List.length lx) / 4 : Nat) : Int)), (12, .int .i64 ((i : Nat) : Int))] [.int .i64 ((i : Nat) : Int), .int .i64 ((i : Nat) : Int)] 2 En22 (by kernel_rfl) (by kernel_rfl) rfl ?_
    intro ac24 En25
    refine from_end (by kernel_rfl) ?_
    refine then_normal ?_
    refine wp_seq ?_
    refine region_from ?_  -- region 5
    refine d_pures [(0, .slice ax (List.length lx) cx), (2, .slice none 0 0), (3, .slice (some ⟨bk5, 0, none⟩) ((List.length lx) / 4) ((List.length lx) / 4)), (4, .int .i64 ((i : Nat) : Int)), (11, .int .i64 (((List.length lx) / 4 : Nat) : Int)), (12, .int .i64 ((i : Nat) : Int)), (15, .int .i64 0)] [.int .i64 0] 1 En25 (by kernel_rfl) (by kernel_rfl) rfl ?_
    intro ac26 En27
    refine from_end (by kernel_rfl) ?_
    refine then_normal ?_
    refine wp_block ?_
    refine loop_m (fun ms28 ac wo => ∃ (k : Nat) (o2 : List UInt32), ms28 = (4 - k : Nat) ∧ Env ac 38 [(0, .slice ax (List.length lx) cx), (2, .slice none 0 0), (3, .slice (some ⟨bk5, 0, none⟩) ((List.length lx) / 4) ((List.length lx) / 4)), (4, .int .i64 ((i : Nat) : Int)), (11, .int .i64 (((List.length lx) / 4 : Nat) : Int)), (12, .int .i64 ((i : Nat) : Int)), (15, .int .i64 ((k : Nat) : Int))] ∧ Ev w [] wo [.vec (some ⟨bk5, 0, none⟩) ((List.length lx) / 4) 1 (u32s o2) 23] ∧ (k ≤ 4) ∧ (List.length o2 = List.length lx / 4) ∧ (∀ j, j < List.length lx / 4 → List.getD o2 j 0 = if j < i then partW lx j 4 else if j = i then partW lx i k else 0)) ⟨_, 0, o, rfl, En27.sub (by kernel_rfl), Hv19.pick [0] (by kernel_rfl) (by decide), by omega, ho, fun j hj => by rw [hp j hj]; split; rfl; split; rfl; rfl⟩ ?_
    rintro mm34 ac30 wo31 ⟨k, o2, rfl, En32, Hv33, hk, ho2, hp2⟩
    refine wp_seq ?_
    refine region_from ?_  -- region 6
    refine d_pures [(0, .slice ax (List.length lx) cx), (2, .slice none 0 0), (3, .slice (some ⟨bk5, 0, none⟩) ((List.length lx) / 4) ((List.length lx) / 4)), (4, .int .i64 ((i : Nat) : Int)), (11, .int .i64 (((List.length lx) / 4 : Nat) : Int)), (12, .int .i64 ((i : Nat) : Int)), (15, .int .i64 ((k : Nat) : Int)), (16, .bool (decide (((k : Nat) : Int) < (4 : Int))))] [.bool (decide (((k : Nat) : Int) < (4 : Int)))] 1 En32 (by kernel_rfl) (by kernel_rfl) rfl ?_
    intro ac35 En36
    refine from_end (by kernel_rfl) ?_
    refine then_normal ?_
    refine wp_seq ?_
    refine cond_at En36 (t := decide (((k : Nat) : Int) < (4 : Int))) (by kernel_rfl) (fun hc37 => ?_) (fun hc37 => ?_)
    ·
      replace hc37 : ((k : Nat) : Int) < (4 : Int) := of_decide_eq_true hc37
      refine wp_skip ?_
      refine then_normal ?_
      refine wp_seq ?_
      refine wp_block ?_
      refine wp_seq ?_
      refine region_from ?_  -- region 7
      refine d_pures [(0, .slice ax (List.length lx) cx), (2, .slice none 0 0), (3, .slice (some ⟨bk5, 0, none⟩) ((List.length lx) / 4) ((List.length lx) / 4)), (4, .int .i64 ((i : Nat) : Int)), (5, .int .i64 ((k : Nat) : Int)), (11, .int .i64 (((List.length lx) / 4 : Nat) : Int)), (12, .int .i64 ((i : Nat) : Int)), (15, .int .i64 ((k : Nat) : Int))] [.int .i64 ((k : Nat) : Int), .int .i64 ((k : Nat) : Int)] 2 En36 (by kernel_rfl) (by kernel_rfl) rfl ?_
      intro ac38 En39
      refine from_end (by kernel_rfl) ?_
      refine then_normal ?_
      refine region_cut (F := fun ac wo => Env ac 38 [(0, .slice ax (List.length lx) cx), (2, .slice none 0 0), (3, .slice (some ⟨bk5, 0, none⟩) ((List.length lx) / 4) ((List.length lx) / 4)), (4, .int .i64 ((i : Nat) : Int)), (11, .int .i64 (((List.length lx) / 4 : Nat) : Int)), (12, .int .i64 ((i : Nat) : Int)), (15, .int .i64 ((k : Nat) : Int))] ∧ Ev w [] wo [.vec (some ⟨bk5, 0, none⟩) ((List.length lx) / 4) 1 (u32s (List.set o2 i ((List.getD o2 i 0) ||| ((UInt8.toUInt32 (List.getD lx ((4 * i) + k) 0)) <<< UInt32.ofNat (8 * k))))) 23]) ?_ ?_
      ·
        refine draw_any (by kernel_rfl) 18 (by kernel_rfl) ?_  -- region 8
        have wo40 := Hv33.trans (Ev.drew Hv33.heap)
        refine any_name fun G hG => ?_
        have nd111 : ∀ (ac : Act) (wo : World) (adr60 : Addr) (had61 : ax = some adr60), Env ac 38 [(0, .slice ax (List.length lx) cx), (2, .slice none 0 0), (3, .slice (some ⟨bk5, 0, none⟩) ((List.length lx) / 4) ((List.length lx) / 4)), (4, .int .i64 ((i : Nat) : Int)), (11, .int .i64 (((List.length lx) / 4 : Nat) : Int)), (12, .int .i64 ((i : Nat) : Int)), (15, .int .i64 ((k : Nat) : Int)), (18, .slice (some ⟨bk5, 0, none⟩) ((List.length lx) / 4) ((List.length lx) / 4)), (19, .int .i64 ((i : Nat) : Int)), (21, .int .u32 ((UInt32.toNat (List.getD o2 i 0) : Nat) : Int)), (27, .pointer (some (Addr.add adr60 ((4 * i) + k)))), (31, .int .i64 ((8 * k : Nat) : Int))] → Ev w [] wo [.vec (some ⟨bk5, 0, none⟩) ((List.length lx) / 4) 1 (u32s o2) 23] → G 6 #[true, true, true, true, true, true, true, true, true, true, false, false, true, true, false, false, false, false] ac wo := by
          intro ac112 wo113 adr60 had61 En114 Hv115
          refine any_from hG ?_
          refine any_at 10 (by kernel_rfl) rfl ?_
          have hb116 : (4 * i) + k < List.length lx := by omega
          refine op_loadel (d := some 28) (t := 5) (ad := adr60) (ao := ax) (xs := bys lx) (j := (4 * i) + k) (v := .int .u8 ((UInt8.toNat (List.getD lx ((4 * i) + k) 0) : Nat) : Int)) En114 (by kernel_rfl) (ix.ev Hv115).reads had61 (bys_getD hb116) (by kernel_rfl) ?_
          intro ac117 En118
          refine any_pureR (d := some 29) En118 (v := .int .u32 (IntKind.wrap .u32 ((UInt8.toNat (List.getD lx ((4 * i) + k) 0) : Nat) : Int))) 11 (by kernel_rfl) (by kernel_rfl) rfl ?_
          intro ac119 En120
          rw [Go.Dbr.u8_to_u32 (a := ((UInt8.toNat (List.getD lx ((4 * i) + k) 0) : Nat) : Int)) (x := List.getD lx ((4 * i) + k) 0) rfl] at En120
          refine any_pure (d := some 32) (s := nv (Op.shift .shl .u32 ((UInt32.toNat (UInt8.toUInt32 (List.getD lx ((4 * i) + k) 0)) : Nat) : Int) .i64 ((8 * k : Nat) : Int))) En120 (v := .int .u32 ((UInt32.toNat ((UInt8.toUInt32 (List.getD lx ((4 * i) + k) 0)) <<< UInt32.ofNat (8 * k)) : Nat) : Int)) 14 (by kernel_rfl) (funext fun _ => run_nv (Go.Dbr.run_shl_u32 (UInt8.toUInt32 (List.getD lx ((4 * i) + k) 0)) .i64 (8 * k) (by omega) _)) (by kernel_rfl) rfl ?_
          intro ac121 En122
          refine any_pureR (d := some 33) En122 (v := .int .u32 (IntKind.wrap .u32 ((BitVec.ofInt (IntKind.bits .u32) ((UInt32.toNat (List.getD o2 i 0) : Nat) : Int) ||| BitVec.ofInt (IntKind.bits .u32) ((UInt32.toNat ((UInt8.toUInt32 (List.getD lx ((4 * i) + k) 0)) <<< UInt32.ofNat (8 * k)) : Nat) : Int)).toNat : Int))) 15 (by kernel_rfl) (by kernel_rfl) rfl ?_
          intro ac123 En124
          rw [Go.Dbr.u32_or (a := ((UInt32.toNat (List.getD o2 i 0) : Nat) : Int)) (b := ((UInt32.toNat ((UInt8.toUInt32 (List.getD lx ((4 * i) + k) 0)) <<< UInt32.ofNat (8 * k)) : Nat) : Int)) (x := List.getD o2 i 0) (y := (UInt8.toUInt32 (List.getD lx ((4 * i) + k) 0)) <<< UInt32.ofNat (8 * k)) rfl rfl] at En124
          have hb127 : i < (List.length lx) / 4 := (by omega)
          refine any_pure (d := some 34) (s := nv (Instr.indexAt 43 (.slice (some ⟨bk5, 0, none⟩) ((List.length lx) / 4) ((List.length lx) / 4)) (.int .i64 ((i : Nat) : Int)))) En124 (v := .pointer (some (Addr.add ⟨bk5, 0, none⟩ i))) 16 (by kernel_rfl) (funext fun _ => run_nv (Go.Dbr.run_indexsl (e := 23) (sz := 1) (j := i) (jo := i) rfl (by kernel_rfl) (by kernel_rfl) (by omega) hb127 (Nat.mul_one _) _)) (by kernel_rfl) rfl ?_
          intro ac128 En129
          refine any_at 17 (by kernel_rfl) rfl ?_
          refine op_storeel (d := none) (t := 23) (ad := ⟨bk5, 0, none⟩) (ao := some ⟨bk5, 0, none⟩) (k := 0) (cap := (List.length lx) / 4) (sz := 1) (j := i) (xs := u32s o2) (v := uv32 ((List.getD o2 i 0) ||| ((UInt8.toUInt32 (List.getD lx ((4 * i) + k) 0)) <<< UInt32.ofNat (8 * k)))) En129 (by kernel_rfl) Hv115 rfl rfl (by rw [u32s_length]; omega) (by kernel_rfl) rfl ?_
          intro ac130 wo131  En132 Hv133
          rw [u32s_set] at Hv133
          exact any_end (by kernel_rfl) ⟨En132.sub (by kernel_rfl), Hv133.pick [0] (by kernel_rfl) (by decide)⟩
        have nd134 : ∀ (ac : Act) (wo : World), Env ac 38 [(0, .slice ax (List.length lx) cx), (2, .slice none 0 0), (3, .slice (some ⟨bk5, 0, none⟩) ((List.length lx) / 4) ((List.length lx) / 4)), (4, .int .i64 ((i : Nat) : Int)), (11, .int .i64 (((List.length lx) / 4 : Nat) : Int)), (12, .int .i64 ((i : Nat) : Int)), (15, .int .i64 ((k : Nat) : Int)), (18, .slice (some ⟨bk5, 0, none⟩) ((List.length lx) / 4) ((List.length lx) / 4)), (19, .int .i64 ((i : Nat) : Int)), (20, .pointer (some (Addr.add ⟨bk5, 0, none⟩ i))), (28, .int .u8 ((UInt8.toNat (List.getD lx ((4 * i) + k) 0) : Nat) : Int)), (31, .int .i64 ((8 * k : Nat) : Int))] → Ev w [] wo [.vec (some ⟨bk5, 0, none⟩) ((List.length lx) / 4) 1 (u32s o2) 23] → G 6 #[true, true, true, false, true, true, true, true, true, true, true, false, true, true, false, false, false, false] ac wo := by
          intro ac135 wo136 En137 Hv138
          refine any_from hG ?_
          refine any_pureR (d := some 29) En137 (v := .int .u32 (IntKind.wrap .u32 ((UInt8.toNat (List.getD lx ((4 * i) + k) 0) : Nat) : Int))) 11 (by kernel_rfl) (by kernel_rfl) rfl ?_
          intro ac139 En140
          rw [Go.Dbr.u8_to_u32 (a := ((UInt8.toNat (List.getD lx ((4 * i) + k) 0) : Nat) : Int)) (x := List.getD lx ((4 * i) + k) 0) rfl] at En140
          refine any_pure (d := some 32) (s := nv (Op.shift .shl .u32 ((UInt32.toNat (UInt8.toUInt32 (List.getD lx ((4 * i) + k) 0)) : Nat) : Int) .i64 ((8 * k : Nat) : Int))) En140 (v := .int .u32 ((UInt32.toNat ((UInt8.toUInt32 (List.getD lx ((4 * i) + k) 0)) <<< UInt32.ofNat (8 * k)) : Nat) : Int)) 14 (by kernel_rfl) (funext fun _ => run_nv (Go.Dbr.run_shl_u32 (UInt8.toUInt32 (List.getD lx ((4 * i) + k) 0)) .i64 (8 * k) (by omega) _)) (by kernel_rfl) rfl ?_
          intro ac141 En142
          refine any_at 3 (by kernel_rfl) rfl ?_
          have hb143 : i < List.length o2 := by omega
          refine op_loadel (d := some 21) (t := 23) (ad := ⟨bk5, 0, none⟩) (ao := some ⟨bk5, 0, none⟩) (xs := u32s o2) (j := i) (v := .int .u32 ((UInt32.toNat (List.getD o2 i 0) : Nat) : Int)) En142 (by kernel_rfl) (Hv138.heap.reads (k := 0) rfl) rfl (u32s_getD hb143) (by kernel_rfl) ?_
          intro ac144 En145
          refine any_pureR (d := some 33) En145 (v := .int .u32 (IntKind.wrap .u32 ((BitVec.ofInt (IntKind.bits .u32) ((UInt32.toNat (List.getD o2 i 0) : Nat) : Int) ||| BitVec.ofInt (IntKind.bits .u32) ((UInt32.toNat ((UInt8.toUInt32 (List.getD lx ((4 * i) + k) 0)) <<< UInt32.ofNat (8 * k)) : Nat) : Int)).toNat : Int))) 15 (by kernel_rfl) (by kernel_rfl) rfl ?_
          intro ac146 En147
          rw [Go.Dbr.u32_or (a := ((UInt32.toNat (List.getD o2 i 0) : Nat) : Int)) (b := ((UInt32.toNat ((UInt8.toUInt32 (List.getD lx ((4 * i) + k) 0)) <<< UInt32.ofNat (8 * k)) : Nat) : Int)) (x := List.getD o2 i 0) (y := (UInt8.toUInt32 (List.getD lx ((4 * i) + k) 0)) <<< UInt32.ofNat (8 * k)) rfl rfl] at En147
          have hb150 : i < (List.length lx) / 4 := (by omega)
          refine any_pure (d := some 34) (s := nv (Instr.indexAt 43 (.slice (some ⟨bk5, 0, none⟩) ((List.length lx) / 4) ((List.length lx) / 4)) (.int .i64 ((i : Nat) : Int)))) En147 (v := .pointer (some (Addr.add ⟨bk5, 0, none⟩ i))) 16 (by kernel_rfl) (funext fun _ => run_nv (Go.Dbr.run_indexsl (e := 23) (sz := 1) (j := i) (jo := i) rfl (by kernel_rfl) (by kernel_rfl) (by omega) hb150 (Nat.mul_one _) _)) (by kernel_rfl) rfl ?_
          intro ac151 En152
          refine any_at 17 (by kernel_rfl) rfl ?_
          refine op_storeel (d := none) (t := 23) (ad := ⟨bk5, 0, none⟩) (ao := some ⟨bk5, 0, none⟩) (k := 0) (cap := (List.length lx) / 4) (sz := 1) (j := i) (xs := u32s o2) (v := uv32 ((List.getD o2 i 0) ||| ((UInt8.toUInt32 (List.getD lx ((4 * i) + k) 0)) <<< UInt32.ofNat (8 * k)))) En152 (by kernel_rfl) Hv138 rfl rfl (by rw [u32s_length]; omega) (by kernel_rfl) rfl ?_
          intro ac153 wo154  En155 Hv156
          rw [u32s_set] at Hv156
          exact any_end (by kernel_rfl) ⟨En155.sub (by kernel_rfl), Hv156.pick [0] (by kernel_rfl) (by decide)⟩
        refine any_from hG ?_
        refine any_pureR (d := some 18) En39 (v := .slice (some ⟨bk5, 0, none⟩) ((List.length lx) / 4) ((List.length lx) / 4)) 0 (by kernel_rfl) (by kernel_rfl) rfl ?_
        intro ac157 En158
        refine any_pureR (d := some 19) En158 (v := .int .i64 ((i : Nat) : Int)) 1 (by kernel_rfl) (by kernel_rfl) rfl ?_
        intro ac159 En160
        have hb163 : i < (List.length lx) / 4 := (by omega)
        refine any_pure (d := some 20) (s := nv (Instr.indexAt 43 (.slice (some ⟨bk5, 0, none⟩) ((List.length lx) / 4) ((List.length lx) / 4)) (.int .i64 ((i : Nat) : Int)))) En160 (v := .pointer (some (Addr.add ⟨bk5, 0, none⟩ i))) 2 (by kernel_rfl) (funext fun _ => run_nv (Go.Dbr.run_indexsl (e := 23) (sz := 1) (j := i) (jo := i) rfl (by kernel_rfl) (by kernel_rfl) (by omega) hb163 (Nat.mul_one _) _)) (by kernel_rfl) rfl ?_
        intro ac164 En165
        refine any_pureR (d := some 22) En165 (v := .slice ax (List.length lx) cx) 4 (by kernel_rfl) (by kernel_rfl) rfl ?_
        intro ac166 En167
        refine any_pureR (d := some 23) En167 (v := .int .i64 ((i : Nat) : Int)) 5 (by kernel_rfl) (by kernel_rfl) rfl ?_
        intro ac168 En169
        refine any_pureR (d := some 24) En169 (v := .int .i64 (IntKind.wrap .i64 ((4 : Int) * ((i : Nat) : Int)))) 6 (by kernel_rfl) (by kernel_rfl) rfl ?_
        intro ac170 En171
        rw [Go.Dbr.wr64 (e := (4 : Int) * ((i : Nat) : Int)) (x := ((4 * i : Nat) : Int)) (by omega) (by omega) (by omega)] at En171
        refine any_pureR (d := some 25) En171 (v := .int .i64 ((k : Nat) : Int)) 7 (by kernel_rfl) (by kernel_rfl) rfl ?_
        intro ac172 En173
        refine any_pureR (d := some 26) En173 (v := .int .i64 (IntKind.wrap .i64 (((4 * i : Nat) : Int) + ((k : Nat) : Int)))) 8 (by kernel_rfl) (by kernel_rfl) rfl ?_
        intro ac174 En175
        rw [Go.Dbr.wr64 (e := ((4 * i : Nat) : Int) + ((k : Nat) : Int)) (x := (((4 * i) + k : Nat) : Int)) (by omega) (by omega) (by omega)] at En175
        have hb178 : (4 * i) + k < List.length lx := (by omega)
        obtain ⟨adr176, had177⟩ := some_of ix.nz hb178
        refine any_pure (d := some 27) (s := nv (Instr.indexAt 25 (.slice ax (List.length lx) cx) (.int .i64 (((4 * i) + k : Nat) : Int)))) En175 (v := .pointer (some (Addr.add adr176 ((4 * i) + k)))) 9 (by kernel_rfl) (funext fun _ => run_nv (Go.Dbr.run_indexsl (e := 5) (sz := 1) (j := (4 * i) + k) (jo := (4 * i) + k) had177 (by kernel_rfl) (by kernel_rfl) (by omega) hb178 (Nat.mul_one _) _)) (by kernel_rfl) rfl ?_
        intro ac179 En180
        refine any_pureR (d := some 30) En180 (v := .int .i64 ((k : Nat) : Int)) 12 (by kernel_rfl) (by kernel_rfl) rfl ?_
        intro ac181 En182
        refine any_pureR (d := some 31) En182 (v := .int .i64 (IntKind.wrap .i64 ((8 : Int) * ((k : Nat) : Int)))) 13 (by kernel_rfl) (by kernel_rfl) rfl ?_
        intro ac183 En184
        rw [Go.Dbr.wr64 (e := (8 : Int) * ((k : Nat) : Int)) (x := ((8 * k : Nat) : Int)) (by omega) (by omega) (by omega)] at En184
        refine any_two 3 10 (by kernel_rfl) ?_ ?_
        · rintro _ rfl
          have hb185 : i < List.length o2 := by omega
          refine op_loadel (d := some 21) (t := 23) (ad := ⟨bk5, 0, none⟩) (ao := some ⟨bk5, 0, none⟩) (xs := u32s o2) (j := i) (v := .int .u32 ((UInt32.toNat (List.getD o2 i 0) : Nat) : Int)) En184 (by kernel_rfl) (wo40.heap.reads (k := 0) rfl) rfl (u32s_getD hb185) (by kernel_rfl) ?_
          intro ac186 En187
          exact any_to hG (by kernel_rfl) (nd111 _ _ adr176 had177 (En187.sub (by kernel_rfl)) (wo40.pick [0] (by kernel_rfl) (by decide)))
        · rintro _ rfl
          have hb188 : (4 * i) + k < List.length lx := by omega
          refine op_loadel (d := some 28) (t := 5) (ad := adr176) (ao := ax) (xs := bys lx) (j := (4 * i) + k) (v := .int .u8 ((UInt8.toNat (List.getD lx ((4 * i) + k) 0) : Nat) : Int)) En184 (by kernel_rfl) (ix.ev wo40).reads had177 (bys_getD hb188) (by kernel_rfl) ?_
          intro ac189 En190
          exact any_to hG (by kernel_rfl) (nd134 _ _ (En190.sub (by kernel_rfl)) (wo40.pick [0] (by kernel_rfl) (by decide)))
      rintro ac191 wo192 ⟨En193, Hv194⟩
      refine block_normal ?_
      refine then_normal ?_
      refine region_from ?_  -- region 9
      refine d_pures [(0, .slice ax (List.length lx) cx), (2, .slice none 0 0), (3, .slice (some ⟨bk5, 0, none⟩) ((List.length lx) / 4) ((List.length lx) / 4)), (4, .int .i64 ((i : Nat) : Int)), (11, .int .i64 (((List.length lx) / 4 : Nat) : Int)), (12, .int .i64 ((i : Nat) : Int)), (15, .int .i64 ((k : Nat) : Int)), (35, .int .i64 (IntKind.wrap .i64 (((k : Nat) : Int) + (1 : Int))))] [.int .i64 (IntKind.wrap .i64 (((k : Nat) : Int) + (1 : Int)))] 1 En193 (by kernel_rfl) (by kernel_rfl) rfl ?_
      intro ac195 En196
      rw [Go.Dbr.wr64 (e := ((k : Nat) : Int) + (1 : Int)) (x := ((k + 1 : Nat) : Int)) (by omega) (by omega) (by omega)] at En196
      refine d_pures [(0, .slice ax (List.length lx) cx), (2, .slice none 0 0), (3, .slice (some ⟨bk5, 0, none⟩) ((List.length lx) / 4) ((List.length lx) / 4)), (4, .int .i64 ((i : Nat) : Int)), (11, .int .i64 (((List.length lx) / 4 : Nat) : Int)), (12, .int .i64 ((i : Nat) : Int)), (15, .int .i64 ((k + 1 : Nat) : Int))] [.int .i64 ((k + 1 : Nat) : Int)] 2 En196 (by kernel_rfl) (by kernel_rfl) rfl ?_
      intro ac197 En198
      refine from_end (by kernel_rfl) ?_
      refine then_normal ?_
      refine ⟨_, ⟨k + 1, List.set o2 i ((List.getD o2 i 0) ||| ((UInt8.toUInt32 (List.getD lx ((4 * i) + k) 0)) <<< UInt32.ofNat (8 * k))), rfl, En198.sub (by kernel_rfl), Hv194.pick [0] (by kernel_rfl) (by decide), by omega, by simp [ho2], fun j hj => by rw [getD_set]; by_cases h1 : i = j; subst h1; rw [if_pos ⟨rfl, by omega⟩, hp2 i hj, if_neg (by omega), if_pos rfl, if_neg (by omega), if_pos rfl]; rfl; rw [if_neg (fun q => h1 q.1), hp2 j hj]; by_cases h2 : j < i; rw [if_pos h2, if_pos h2]; rw [if_neg h2, if_neg h2, if_neg (fun q => h1 q.symm), if_neg (fun q => h1 q.symm)]⟩, ?_⟩
      omega
    ·
      replace hc37 : ¬ (((k : Nat) : Int) < (4 : Int)) := of_decide_eq_false hc37
      refine wp_exit ?_
      refine then_exit ?_
      refine then_exit ?_
      refine block_exit ?_
      refine block_normal ?_
      refine then_normal ?_
      refine region_from ?_  -- region 10
      refine d_pures [(0, .slice ax (List.length lx) cx), (2, .slice none 0 0), (3, .slice (some ⟨bk5, 0, none⟩) ((List.length lx) / 4) ((List.length lx) / 4)), (4, .int .i64 ((i : Nat) : Int)), (11, .int .i64 (((List.length lx) / 4 : Nat) : Int)), (12, .int .i64 ((i : Nat) : Int)), (15, .int .i64 ((k : Nat) : Int)), (36, .int .i64 (IntKind.wrap .i64 (((i : Nat) : Int) + (1 : Int))))] [.int .i64 (IntKind.wrap .i64 (((i : Nat) : Int) + (1 : Int)))] 1 En36 (by kernel_rfl) (by kernel_rfl) rfl ?_
      intro ac199 En200
      rw [Go.Dbr.wr64 (e := ((i : Nat) : Int) + (1 : Int)) (x := ((i + 1 : Nat) : Int)) (by omega) (by omega) (by omega)] at En200
      refine d_pures [(0, .slice ax (List.length lx) cx), (2, .slice none 0 0), (3, .slice (some ⟨bk5, 0, none⟩) ((List.length lx) / 4) ((List.length lx) / 4)), (4, .int .i64 ((i : Nat) : Int)), (11, .int .i64 (((List.length lx) / 4 : Nat) : Int)), (12, .int .i64 ((i + 1 : Nat) : Int)), (15, .int .i64 ((k : Nat) : Int))] [.int .i64 ((i + 1 : Nat) : Int)] 2 En200 (by kernel_rfl) (by kernel_rfl) rfl ?_
      intro ac201 En202
      refine from_end (by kernel_rfl) ?_
      refine then_normal ?_
      obtain rfl : k = 4 := by omega
      refine ⟨_, ⟨i + 1, o2, rfl, En202.sub (by kernel_rfl), Hv33.pick [0] (by kernel_rfl) (by decide), by omega, by omega, fun j hj => by rw [hp2 j hj]; by_cases h1 : j < i; rw [if_pos h1, if_pos (by omega)]; rw [if_neg h1]; by_cases h2 : j = i; rw [if_pos h2, if_pos (by omega), h2]; rw [if_neg h2, if_neg (by omega)]⟩, ?_⟩
      omega
  ·
    replace hc23 : ¬ (((i : Nat) : Int) < (((List.length lx) / 4 : Nat) : Int)) := of_decide_eq_false hc23
    refine wp_exit ?_
    refine then_exit ?_
    refine then_exit ?_
    refine block_exit ?_
    refine then_normal ?_
    refine wp_seq ?_
    refine region_from ?_  -- region 11
    refine d_pures [(0, .slice ax (List.length lx) cx), (2, .slice (some ⟨bk5, 0, none⟩) ((List.length lx) / 4) ((List.length lx) / 4)), (3, .slice (some ⟨bk5, 0, none⟩) ((List.length lx) / 4) ((List.length lx) / 4)), (11, .int .i64 (((List.length lx) / 4 : Nat) : Int)), (12, .int .i64 ((i : Nat) : Int))] [.slice (some ⟨bk5, 0, none⟩) ((List.length lx) / 4) ((List.length lx) / 4), .slice (some ⟨bk5, 0, none⟩) ((List.length lx) / 4) ((List.length lx) / 4)] 2 En22 (by kernel_rfl) (by kernel_rfl) rfl ?_
    intro ac203 En204
    refine from_end (by kernel_rfl) ?_
    refine then_normal ?_
    refine wp_ret ?_
    refine d_ret1 (t := 2) (v := .slice (some ⟨bk5, 0, none⟩) ((List.length lx) / 4) ((List.length lx) / 4)) En204 (by kernel_rfl) (by kernel_rfl) ?_
    obtain rfl : i = List.length lx / 4 := by omega
    have e : o = wordsF lx := eq_range_map 0 ho (fun j hj => by rw [hp j hj, if_pos hj])
    have e2 : List.length lx / 4 = List.length (wordsF lx) := by simp [wordsF]
    have Hf205 := Hv19.pick [0] (by kernel_rfl) (by decide) (M := [.vec (some ⟨bk5, 0, none⟩) ((List.length lx) / 4) 1 (u32s o) 23])
    rw [e] at Hf205
    exact ⟨_, _, by rw [e2], Hf205⟩

theorem word_ref (w : World) (ax : Option Addr) (nx cx : Nat) (lx : List UInt8) (ex : nx = List.length lx) (ix : InB w [] ax cx lx) (h4 : 4 ≤ List.length lx) : Calls Try.prog 23 #[.slice ax nx cx] w fun e w' => e = .returned (.int .u32 ((UInt32.toNat (partW lx 0 4) : Nat) : Int)) ∧ Ev w [] w' [] := by
  subst ex
  have hs := ix.small
  have hcx := ix.cap
  refine d_start [(0, .slice ax (List.length lx) cx)] 25 Go.Proofs.Try.func23 Go.Proofs.Try.ntmps23 rfl (by kernel_rfl) (by kernel_rfl) ?_
  intro act0 En0
  have Hv0 : Ev w [] w [] := Ev.refl (Heap.nil _)
  refine wp_seq ?_
  refine region_from ?_  -- region 0
  refine d_pures [(0, .slice ax (List.length lx) cx), (2, .int .u32 0)] [.int .u32 0] 1 En0 (by kernel_rfl) (by kernel_rfl) rfl ?_
  intro ac1 En2
  refine from_end (by kernel_rfl) ?_
  refine then_normal ?_
  refine wp_seq ?_
  refine region_cut (F := fun ac wo => Env ac 25 [(2, .int .u32 ((UInt32.toNat ((((UInt8.toUInt32 (List.getD lx 0 0)) ||| ((UInt8.toUInt32 (List.getD lx 1 0)) <<< UInt32.ofNat 8)) ||| ((UInt8.toUInt32 (List.getD lx 2 0)) <<< UInt32.ofNat 16)) ||| ((UInt8.toUInt32 (List.getD lx 3 0)) <<< UInt32.ofNat 24)) : Nat) : Int))] ∧ Ev w [] wo []) ?_ ?_
  ·
    refine draw_any (by kernel_rfl) 23 (by kernel_rfl) ?_  -- region 1
    have wo3 := Hv0.trans (Ev.drew Hv0.heap)
    refine any_name fun G hG => ?_
    have nd424 : ∀ (ac : Act) (wo : World) (adr27 : Addr) (had28 : ax = some adr27), Env ac 25 [(2, .int .u32 0), (12, .int .u32 ((UInt32.toNat ((UInt8.toUInt32 (List.getD lx 0 0)) ||| ((UInt8.toUInt32 (List.getD lx 1 0)) <<< UInt32.ofNat 8)) : Nat) : Int)), (15, .int .u8 ((UInt8.toNat (List.getD lx 2 0) : Nat) : Int)), (20, .pointer (some (Addr.add adr27 3)))] → Ev w [] wo [] → G 8 #[true, true, true, true, true, true, true, true, true, true, true, true, true, false, false, false, true, true, false, false, false, false, false] ac wo := by
      intro ac425 wo426 adr27 had28 En427 Hv428
      refine any_from hG ?_
      refine any_pureR (d := some 16) En427 (v := .int .u32 (IntKind.wrap .u32 ((UInt8.toNat (List.getD lx 2 0) : Nat) : Int))) 13 (by kernel_rfl) (by kernel_rfl) rfl ?_
      intro ac429 En430
      rw [Go.Dbr.u8_to_u32 (a := ((UInt8.toNat (List.getD lx 2 0) : Nat) : Int)) (x := List.getD lx 2 0) rfl] at En430
      refine any_pureR (d := some 17) En430 (v := .int .u32 (IntKind.wrap .u32 (((UInt32.toNat (UInt8.toUInt32 (List.getD lx 2 0)) : Nat) : Int) * 2 ^ 16))) 14 (by kernel_rfl) (by kernel_rfl) rfl ?_
      intro ac431 En432
      rw [Go.Dbr.u32_shl (a := ((UInt32.toNat (UInt8.toUInt32 (List.getD lx 2 0)) : Nat) : Int)) (x := UInt8.toUInt32 (List.getD lx 2 0)) (n := 16) rfl (by decide)] at En432
      refine any_pureR (d := some 18) En432 (v := .int .u32 (IntKind.wrap .u32 ((BitVec.ofInt (IntKind.bits .u32) ((UInt32.toNat ((UInt8.toUInt32 (List.getD lx 0 0)) ||| ((UInt8.toUInt32 (List.getD lx 1 0)) <<< UInt32.ofNat 8)) : Nat) : Int) ||| BitVec.ofInt (IntKind.bits .u32) ((UInt32.toNat ((UInt8.toUInt32 (List.getD lx 2 0)) <<< UInt32.ofNat 16) : Nat) : Int)).toNat : Int))) 15 (by kernel_rfl) (by kernel_rfl) rfl ?_
      intro ac433 En434
      rw [Go.Dbr.u32_or (a := ((UInt32.toNat ((UInt8.toUInt32 (List.getD lx 0 0)) ||| ((UInt8.toUInt32 (List.getD lx 1 0)) <<< UInt32.ofNat 8)) : Nat) : Int)) (b := ((UInt32.toNat ((UInt8.toUInt32 (List.getD lx 2 0)) <<< UInt32.ofNat 16) : Nat) : Int)) (x := (UInt8.toUInt32 (List.getD lx 0 0)) ||| ((UInt8.toUInt32 (List.getD lx 1 0)) <<< UInt32.ofNat 8)) (y := (UInt8.toUInt32 (List.getD lx 2 0)) <<< UInt32.ofNat 16) rfl rfl] at En434
      refine any_at 18 (by kernel_rfl) rfl ?_
      have hb435 : 3 < List.length lx := by omega
      refine op_loadel (d := some 21) (t := 5) (ad := adr27) (ao := ax) (xs := bys lx) (j := 3) (v := .int .u8 ((UInt8.toNat (List.getD lx 3 0) : Nat) : Int)) En434 (by kernel_rfl) (ix.ev Hv428).reads had28 (bys_getD hb435) (by kernel_rfl) ?_
      intro ac436 En437
      refine any_pureR (d := some 22) En437 (v := .int .u32 (IntKind.wrap .u32 ((UInt8.toNat (List.getD lx 3 0) : Nat) : Int))) 19 (by kernel_rfl) (by kernel_rfl) rfl ?_
      intro ac438 En439
      rw [Go.Dbr.u8_to_u32 (a := ((UInt8.toNat (List.getD lx 3 0) : Nat) : Int)) (x := List.getD lx 3 0) rfl] at En439
      refine any_pureR (d := some 23) En439 (v := .int .u32 (IntKind.wrap .u32 (((UInt32.toNat (UInt8.toUInt32 (List.getD lx 3 0)) : Nat) : Int) * 2 ^ 24))) 20 (by kernel_rfl) (by kernel_rfl) rfl ?_
      intro ac440 En441
      rw [Go.Dbr.u32_shl (a := ((UInt32.toNat (UInt8.toUInt32 (List.getD lx 3 0)) : Nat) : Int)) (x := UInt8.toUInt32 (List.getD lx 3 0)) (n := 24) rfl (by decide)] at En441
      refine any_pureR (d := some 24) En441 (v := .int .u32 (IntKind.wrap .u32 ((BitVec.ofInt (IntKind.bits .u32) ((UInt32.toNat (((UInt8.toUInt32 (List.getD lx 0 0)) ||| ((UInt8.toUInt32 (List.getD lx 1 0)) <<< UInt32.ofNat 8)) ||| ((UInt8.toUInt32 (List.getD lx 2 0)) <<< UInt32.ofNat 16)) : Nat) : Int) ||| BitVec.ofInt (IntKind.bits .u32) ((UInt32.toNat ((UInt8.toUInt32 (List.getD lx 3 0)) <<< UInt32.ofNat 24) : Nat) : Int)).toNat : Int))) 21 (by kernel_rfl) (by kernel_rfl) rfl ?_
      intro ac442 En443
      rw [Go.Dbr.u32_or (a := ((UInt32.toNat (((UInt8.toUInt32 (List.getD lx 0 0)) ||| ((UInt8.toUInt32 (List.getD lx 1 0)) <<< UInt32.ofNat 8)) ||| ((UInt8.toUInt32 (List.getD lx 2 0)) <<< UInt32.ofNat 16)) : Nat) : Int)) (b := ((UInt32.toNat ((UInt8.toUInt32 (List.getD lx 3 0)) <<< UInt32.ofNat 24) : Nat) : Int)) (x := ((UInt8.toUInt32 (List.getD lx 0 0)) ||| ((UInt8.toUInt32 (List.getD lx 1 0)) <<< UInt32.ofNat 8)) ||| ((UInt8.toUInt32 (List.getD lx 2 0)) <<< UInt32.ofNat 16)) (y := (UInt8.toUInt32 (List.getD lx 3 0)) <<< UInt32.ofNat 24) rfl rfl] at En443
      refine any_pureR (d := some 2) En443 (v := .int .u32 ((UInt32.toNat ((((UInt8.toUInt32 (List.getD lx 0 0)) ||| ((UInt8.toUInt32 (List.getD lx 1 0)) <<< UInt32.ofNat 8)) ||| ((UInt8.toUInt32 (List.getD lx 2 0)) <<< UInt32.ofNat 16)) ||| ((UInt8.toUInt32 (List.getD lx 3 0)) <<< UInt32.ofNat 24)) : Nat) : Int)) 22 (by kernel_rfl) (by kernel_rfl) rfl ?_
      intro ac444 En445
      exact any_end (by kernel_rfl) ⟨En445.sub (by kernel_rfl), Hv428.pick [] (by kernel_rfl) (by decide)⟩
    have nd446 : ∀ (ac : Act) (wo : World) (adr20 : Addr) (had21 : ax = some adr20), Env ac 25 [(2, .int .u32 0), (12, .int .u32 ((UInt32.toNat ((UInt8.toUInt32 (List.getD lx 0 0)) ||| ((UInt8.toUInt32 (List.getD lx 1 0)) <<< UInt32.ofNat 8)) : Nat) : Int)), (14, .pointer (some (Addr.add adr20 2))), (21, .int .u8 ((UInt8.toNat (List.getD lx 3 0) : Nat) : Int))] → Ev w [] wo [] → G 8 #[true, true, true, true, true, true, true, true, true, true, true, true, false, false, false, false, true, true, true, false, false, false, false] ac wo := by
      intro ac447 wo448 adr20 had21 En449 Hv450
      refine any_from hG ?_
      refine any_pureR (d := some 22) En449 (v := .int .u32 (IntKind.wrap .u32 ((UInt8.toNat (List.getD lx 3 0) : Nat) : Int))) 19 (by kernel_rfl) (by kernel_rfl) rfl ?_
      intro ac451 En452
      rw [Go.Dbr.u8_to_u32 (a := ((UInt8.toNat (List.getD lx 3 0) : Nat) : Int)) (x := List.getD lx 3 0) rfl] at En452
      refine any_pureR (d := some 23) En452 (v := .int .u32 (IntKind.wrap .u32 (((UInt32.toNat (UInt8.toUInt32 (List.getD lx 3 0)) : Nat) : Int) * 2 ^ 24))) 20 (by kernel_rfl) (by kernel_rfl) rfl ?_
      intro ac453 En454
      rw [Go.Dbr.u32_shl (a := ((UInt32.toNat (UInt8.toUInt32 (List.getD lx 3 0)) : Nat) : Int)) (x := UInt8.toUInt32 (List.getD lx 3 0)) (n := 24) rfl (by decide)] at En454
      refine any_at 12 (by kernel_rfl) rfl ?_
      have hb455 : 2 < List.length lx := by omega
      refine op_loadel (d := some 15) (t := 5) (ad := adr20) (ao := ax) (xs := bys lx) (j := 2) (v := .int .u8 ((UInt8.toNat (List.getD lx 2 0) : Nat) : Int)) En454 (by kernel_rfl) (ix.ev Hv450).reads had21 (bys_getD hb455) (by kernel_rfl) ?_
      intro ac456 En457
      refine any_pureR (d := some 16) En457 (v := .int .u32 (IntKind.wrap .u32 ((UInt8.toNat (List.getD lx 2 0) : Nat) : Int))) 13 (by kernel_rfl) (by kernel_rfl) rfl ?_
      intro ac458 En459
      rw [Go.Dbr.u8_to_u32 (a := ((UInt8.toNat (List.getD lx 2 0) : Nat) : Int)) (x := List.getD lx 2 0) rfl] at En459
      refine any_pureR (d := some 17) En459 (v := .int .u32 (IntKind.wrap .u32 (((UInt32.toNat (UInt8.toUInt32 (List.getD lx 2 0)) : Nat) : Int) * 2 ^ 16))) 14 (by kernel_rfl) (by kernel_rfl) rfl ?_
      intro ac460 En461
      rw [Go.Dbr.u32_shl (a := ((UInt32.toNat (UInt8.toUInt32 (List.getD lx 2 0)) : Nat) : Int)) (x := UInt8.toUInt32 (List.getD lx 2 0)) (n := 16) rfl (by decide)] at En461
      refine any_pureR (d := some 18) En461 (v := .int .u32 (IntKind.wrap .u32 ((BitVec.ofInt (IntKind.bits .u32) ((UInt32.toNat ((UInt8.toUInt32 (List.getD lx 0 0)) ||| ((UInt8.toUInt32 (List.getD lx 1 0)) <<< UInt32.ofNat 8)) : Nat) : Int) ||| BitVec.ofInt (IntKind.bits .u32) ((UInt32.toNat ((UInt8.toUInt32 (List.getD lx 2 0)) <<< UInt32.ofNat 16) : Nat) : Int)).toNat : Int))) 15 (by kernel_rfl) (by kernel_rfl) rfl ?_
      intro ac462 En463
      rw [Go.Dbr.u32_or (a := ((UInt32.toNat ((UInt8.toUInt32 (List.getD lx 0 0)) ||| ((UInt8.toUInt32 (List.getD lx 1 0)) <<< UInt32.ofNat 8)) : Nat) : Int)) (b := ((UInt32.toNat ((UInt8.toUInt32 (List.getD lx 2 0)) <<< UInt32.ofNat 16) : Nat) : Int)) (x := (UInt8.toUInt32 (List.getD lx 0 0)) ||| ((UInt8.toUInt32 (List.getD lx 1 0)) <<< UInt32.ofNat 8)) (y := (UInt8.toUInt32 (List.getD lx 2 0)) <<< UInt32.ofNat 16) rfl rfl] at En463
      refine any_pureR (d := some 24) En463 (v := .int .u32 (IntKind.wrap .u32 ((BitVec.ofInt (IntKind.bits .u32) ((UInt32.toNat (((UInt8.toUInt32 (List.getD lx 0 0)) ||| ((UInt8.toUInt32 (List.getD lx 1 0)) <<< UInt32.ofNat 8)) ||| ((UInt8.toUInt32 (List.getD lx 2 0)) <<< UInt32.ofNat 16)) : Nat) : Int) ||| BitVec.ofInt (IntKind.bits .u32) ((UInt32.toNat ((UInt8.toUInt32 (List.getD lx 3 0)) <<< UInt32.ofNat 24) : Nat) : Int)).toNat : Int))) 21 (by kernel_rfl) (by kernel_rfl) rfl ?_
      intro ac464 En465
      rw [Go.Dbr.u32_or (a := ((UInt32.toNat (((UInt8.toUInt32 (List.getD lx 0 0)) ||| ((UInt8.toUInt32 (List.getD lx 1 0)) <<< UInt32.ofNat 8)) ||| ((UInt8.toUInt32 (List.getD lx 2 0)) <<< UInt32.ofNat 16)) : Nat) : Int)) (b := ((UInt32.toNat ((UInt8.toUInt32 (List.getD lx 3 0)) <<< UInt32.ofNat 24) : Nat) : Int)) (x := ((UInt8.toUInt32 (List.getD lx 0 0)) ||| ((UInt8.toUInt32 (List.getD lx 1 0)) <<< UInt32.ofNat 8)) ||| ((UInt8.toUInt32 (List.getD lx 2 0)) <<< UInt32.ofNat 16)) (y := (UInt8.toUInt32 (List.getD lx 3 0)) <<< UInt32.ofNat 24) rfl rfl] at En465
      refine any_pureR (d := some 2) En465 (v := .int .u32 ((UInt32.toNat ((((UInt8.toUInt32 (List.getD lx 0 0)) ||| ((UInt8.toUInt32 (List.getD lx 1 0)) <<< UInt32.ofNat 8)) ||| ((UInt8.toUInt32 (List.getD lx 2 0)) <<< UInt32.ofNat 16)) ||| ((UInt8.toUInt32 (List.getD lx 3 0)) <<< UInt32.ofNat 24)) : Nat) : Int)) 22 (by kernel_rfl) (by kernel_rfl) rfl ?_
      intro ac466 En467
      exact any_end (by kernel_rfl) ⟨En467.sub (by kernel_rfl), Hv450.pick [] (by kernel_rfl) (by decide)⟩
    have nd468 : ∀ (ac : Act) (wo : World) (adr27 : Addr) (had28 : ax = some adr27), Env ac 25 [(2, .int .u32 0), (5, .int .u8 ((UInt8.toNat (List.getD lx 0 0) : Nat) : Int)), (11, .int .u32 ((UInt32.toNat ((UInt8.toUInt32 (List.getD lx 1 0)) <<< UInt32.ofNat 8) : Nat) : Int)), (17, .int .u32 ((UInt32.toNat ((UInt8.toUInt32 (List.getD lx 2 0)) <<< UInt32.ofNat 16) : Nat) : Int)), (20, .pointer (some (Addr.add adr27 3)))] → Ev w [] wo [] → G 8 #[true, true, true, false, true, true, true, true, true, false, true, true, true, true, true, false, true, true, false, false, false, false, false] ac wo := by
      intro ac469 wo470 adr27 had28 En471 Hv472
      refine any_from hG ?_
      refine any_pureR (d := some 6) En471 (v := .int .u32 (IntKind.wrap .u32 ((UInt8.toNat (List.getD lx 0 0) : Nat) : Int))) 3 (by kernel_rfl) (by kernel_rfl) rfl ?_
      intro ac473 En474
      rw [Go.Dbr.u8_to_u32 (a := ((UInt8.toNat (List.getD lx 0 0) : Nat) : Int)) (x := List.getD lx 0 0) rfl] at En474
      refine any_pureR (d := some 12) En474 (v := .int .u32 (IntKind.wrap .u32 ((BitVec.ofInt (IntKind.bits .u32) ((UInt32.toNat (UInt8.toUInt32 (List.getD lx 0 0)) : Nat) : Int) ||| BitVec.ofInt (IntKind.bits .u32) ((UInt32.toNat ((UInt8.toUInt32 (List.getD lx 1 0)) <<< UInt32.ofNat 8) : Nat) : Int)).toNat : Int))) 9 (by kernel_rfl) (by kernel_rfl) rfl ?_
      intro ac475 En476
      rw [Go.Dbr.u32_or (a := ((UInt32.toNat (UInt8.toUInt32 (List.getD lx 0 0)) : Nat) : Int)) (b := ((UInt32.toNat ((UInt8.toUInt32 (List.getD lx 1 0)) <<< UInt32.ofNat 8) : Nat) : Int)) (x := UInt8.toUInt32 (List.getD lx 0 0)) (y := (UInt8.toUInt32 (List.getD lx 1 0)) <<< UInt32.ofNat 8) rfl rfl] at En476
      refine any_pureR (d := some 18) En476 (v := .int .u32 (IntKind.wrap .u32 ((BitVec.ofInt (IntKind.bits .u32) ((UInt32.toNat ((UInt8.toUInt32 (List.getD lx 0 0)) ||| ((UInt8.toUInt32 (List.getD lx 1 0)) <<< UInt32.ofNat 8)) : Nat) : Int) ||| BitVec.ofInt (IntKind.bits .u32) ((UInt32.toNat ((UInt8.toUInt32 (List.getD lx 2 0)) <<< UInt32.ofNat 16) : Nat) : Int)).toNat : Int))) 15 (by kernel_rfl) (by kernel_rfl) rfl ?_
      intro ac477 En478
      rw [Go.Dbr.u32_or (a := ((UInt32.toNat ((UInt8.toUInt32 (List.getD lx 0 0)) ||| ((UInt8.toUInt32 (List.getD lx 1 0)) <<< UInt32.ofNat 8)) : Nat) : Int)) (b := ((UInt32.toNat ((UInt8.toUInt32 (List.getD lx 2 0)) <<< UInt32.ofNat 16) : Nat) : Int)) (x := (UInt8.toUInt32 (List.getD lx 0 0)) ||| ((UInt8.toUInt32 (List.getD lx 1 0)) <<< UInt32.ofNat 8)) (y := (UInt8.toUInt32 (List.getD lx 2 0)) <<< UInt32.ofNat 16) rfl rfl] at En478
      refine any_at 18 (by kernel_rfl) rfl ?_
      have hb479 : 3 < List.length lx := by omega
      refine op_loadel (d := some 21) (t := 5) (ad := adr27) (ao := ax) (xs := bys lx) (j := 3) (v := .int .u8 ((UInt8.toNat (List.getD lx 3 0) : Nat) : Int)) En478 (by kernel_rfl) (ix.ev Hv472).reads had28 (bys_getD hb479) (by kernel_rfl) ?_
      intro ac480 En481
      refine any_pureR (d := some 22) En481 (v := .int .u32 (IntKind.wrap .u32 ((UInt8.toNat (List.getD lx 3 0) : Nat) : Int))) 19 (by kernel_rfl) (by kernel_rfl) rfl ?_
      intro ac482 En483
      rw [Go.Dbr.u8_to_u32 (a := ((UInt8.toNat (List.getD lx 3 0) : Nat) : Int)) (x := List.getD lx 3 0) rfl] at En483
      refine any_pureR (d := some 23) En483 (v := .int .u32 (IntKind.wrap .u32 (((UInt32.toNat (UInt8.toUInt32 (List.getD lx 3 0)) : Nat) : Int) * 2 ^ 24))) 20 (by kernel_rfl) (by kernel_rfl) rfl ?_
      intro ac484 En485
      rw [Go.Dbr.u32_shl (a := ((UInt32.toNat (UInt8.toUInt32 (List.getD lx 3 0)) : Nat) : Int)) (x := UInt8.toUInt32 (List.getD lx 3 0)) (n := 24) rfl (by decide)] at En485
      refine any_pureR (d := some 24) En485 (v := .int .u32 (IntKind.wrap .u32 ((BitVec.ofInt (IntKind.bits .u32) ((UInt32.toNat (((UInt8.toUInt32 (List.getD lx 0 0)) ||| ((UInt8.toUInt32 (List.getD lx 1 0)) <<< UInt32.ofNat 8)) ||| ((UInt8.toUInt32 (List.getD lx 2 0)) <<< UInt32.ofNat 16)) : Nat) : Int) ||| BitVec.ofInt (IntKind.bits .u32) ((UInt32.toNat ((UInt8.toUInt32 (List.getD lx 3 0)) <<< UInt32.ofNat 24) : Nat) : Int)).toNat : Int))) 21 (by kernel_rfl) (by kernel_rfl) rfl ?_
      intro ac486 En487
      rw [Go.Dbr.u32_or (a := ((UInt32.toNat (((UInt8.toUInt32 (List.getD lx 0 0)) ||| ((UInt8.toUInt32 (List.getD lx 1 0)) <<< UInt32.ofNat 8)) ||| ((UInt8.toUInt32 (List.getD lx 2 0)) <<< UInt32.ofNat 16)) : Nat) : Int)) (b := ((UInt32.toNat ((UInt8.toUInt32 (List.getD lx 3 0)) <<< UInt32.ofNat 24) : Nat) : Int)) (x := ((UInt8.toUInt32 (List.getD lx 0 0)) ||| ((UInt8.toUInt32 (List.getD lx 1 0)) <<< UInt32.ofNat 8)) ||| ((UInt8.toUInt32 (List.getD lx 2 0)) <<< UInt32.ofNat 16)) (y := (UInt8.toUInt32 (List.getD lx 3 0)) <<< UInt32.ofNat 24) rfl rfl] at En487
      refine any_pureR (d := some 2) En487 (v := .int .u32 ((UInt32.toNat ((((UInt8.toUInt32 (List.getD lx 0 0)) ||| ((UInt8.toUInt32 (List.getD lx 1 0)) <<< UInt32.ofNat 8)) ||| ((UInt8.toUInt32 (List.getD lx 2 0)) <<< UInt32.ofNat 16)) ||| ((UInt8.toUInt32 (List.getD lx 3 0)) <<< UInt32.ofNat 24)) : Nat) : Int)) 22 (by kernel_rfl) (by kernel_rfl) rfl ?_
      intro ac488 En489
      exact any_end (by kernel_rfl) ⟨En489.sub (by kernel_rfl), Hv472.pick [] (by kernel_rfl) (by decide)⟩
    have nd490 : ∀ (ac : Act) (wo : World) (adr6 : Addr) (had7 : ax = some adr6), Env ac 25 [(2, .int .u32 0), (4, .pointer (some (Addr.add adr6 0))), (11, .int .u32 ((UInt32.toNat ((UInt8.toUInt32 (List.getD lx 1 0)) <<< UInt32.ofNat 8) : Nat) : Int)), (17, .int .u32 ((UInt32.toNat ((UInt8.toUInt32 (List.getD lx 2 0)) <<< UInt32.ofNat 16) : Nat) : Int)), (21, .int .u8 ((UInt8.toNat (List.getD lx 3 0) : Nat) : Int))] → Ev w [] wo [] → G 8 #[true, true, false, false, true, true, true, true, true, false, true, true, true, true, true, false, true, true, true, false, false, false, false] ac wo := by
      intro ac491 wo492 adr6 had7 En493 Hv494
      refine any_from hG ?_
      refine any_pureR (d := some 22) En493 (v := .int .u32 (IntKind.wrap .u32 ((UInt8.toNat (List.getD lx 3 0) : Nat) : Int))) 19 (by kernel_rfl) (by kernel_rfl) rfl ?_
      intro ac495 En496
      rw [Go.Dbr.u8_to_u32 (a := ((UInt8.toNat (List.getD lx 3 0) : Nat) : Int)) (x := List.getD lx 3 0) rfl] at En496
      refine any_pureR (d := some 23) En496 (v := .int .u32 (IntKind.wrap .u32 (((UInt32.toNat (UInt8.toUInt32 (List.getD lx 3 0)) : Nat) : Int) * 2 ^ 24))) 20 (by kernel_rfl) (by kernel_rfl) rfl ?_
      intro ac497 En498
      rw [Go.Dbr.u32_shl (a := ((UInt32.toNat (UInt8.toUInt32 (List.getD lx 3 0)) : Nat) : Int)) (x := UInt8.toUInt32 (List.getD lx 3 0)) (n := 24) rfl (by decide)] at En498
      refine any_at 2 (by kernel_rfl) rfl ?_
      have hb499 : 0 < List.length lx := by omega
      refine op_loadel (d := some 5) (t := 5) (ad := adr6) (ao := ax) (xs := bys lx) (j := 0) (v := .int .u8 ((UInt8.toNat (List.getD lx 0 0) : Nat) : Int)) En498 (by kernel_rfl) (ix.ev Hv494).reads had7 (bys_getD hb499) (by kernel_rfl) ?_
      intro ac500 En501
      refine any_pureR (d := some 6) En501 (v := .int .u32 (IntKind.wrap .u32 ((UInt8.toNat (List.getD lx 0 0) : Nat) : Int))) 3 (by kernel_rfl) (by kernel_rfl) rfl ?_
      intro ac502 En503
      rw [Go.Dbr.u8_to_u32 (a := ((UInt8.toNat (List.getD lx 0 0) : Nat) : Int)) (x := List.getD lx 0 0) rfl] at En503
      refine any_pureR (d := some 12) En503 (v := .int .u32 (IntKind.wrap .u32 ((BitVec.ofInt (IntKind.bits .u32) ((UInt32.toNat (UInt8.toUInt32 (List.getD lx 0 0)) : Nat) : Int) ||| BitVec.ofInt (IntKind.bits .u32) ((UInt32.toNat ((UInt8.toUInt32 (List.getD lx 1 0)) <<< UInt32.ofNat 8) : Nat) : Int)).toNat : Int))) 9 (by kernel_rfl) (by kernel_rfl) rfl ?_
      intro ac504 En505
      rw [Go.Dbr.u32_or (a := ((UInt32.toNat (UInt8.toUInt32 (List.getD lx 0 0)) : Nat) : Int)) (b := ((UInt32.toNat ((UInt8.toUInt32 (List.getD lx 1 0)) <<< UInt32.ofNat 8) : Nat) : Int)) (x := UInt8.toUInt32 (List.getD lx 0 0)) (y := (UInt8.toUInt32 (List.getD lx 1 0)) <<< UInt32.ofNat 8) rfl rfl] at En505
      refine any_pureR (d := some 18) En505 (v := .int .u32 (IntKind.wrap .u32 ((BitVec.ofInt (IntKind.bits .u32) ((UInt32.toNat ((UInt8.toUInt32 (List.getD lx 0 0)) ||| ((UInt8.toUInt32 (List.getD lx 1 0)) <<< UInt32.ofNat 8)) : Nat) : Int) ||| BitVec.ofInt (IntKind.bits .u32) ((UInt32.toNat ((UInt8.toUInt32 (List.getD lx 2 0)) <<< UInt32.ofNat 16) : Nat) : Int)).toNat : Int))) 15 (by kernel_rfl) (by kernel_rfl) rfl ?_
      intro ac506 En507
      rw [Go.Dbr.u32_or (a := ((UInt32.toNat ((UInt8.toUInt32 (List.getD lx 0 0)) ||| ((UInt8.toUInt32 (List.getD lx 1 0)) <<< UInt32.ofNat 8)) : Nat) : Int)) (b := ((UInt32.toNat ((UInt8.toUInt32 (List.getD lx 2 0)) <<< UInt32.ofNat 16) : Nat) : Int)) (x := (UInt8.toUInt32 (List.getD lx 0 0)) ||| ((UInt8.toUInt32 (List.getD lx 1 0)) <<< UInt32.ofNat 8)) (y := (UInt8.toUInt32 (List.getD lx 2 0)) <<< UInt32.ofNat 16) rfl rfl] at En507
      refine any_pureR (d := some 24) En507 (v := .int .u32 (IntKind.wrap .u32 ((BitVec.ofInt (IntKind.bits .u32) ((UInt32.toNat (((UInt8.toUInt32 (List.getD lx 0 0)) ||| ((UInt8.toUInt32 (List.getD lx 1 0)) <<< UInt32.ofNat 8)) ||| ((UInt8.toUInt32 (List.getD lx 2 0)) <<< UInt32.ofNat 16)) : Nat) : Int) ||| BitVec.ofInt (IntKind.bits .u32) ((UInt32.toNat ((UInt8.toUInt32 (List.getD lx 3 0)) <<< UInt32.ofNat 24) : Nat) : Int)).toNat : Int))) 21 (by kernel_rfl) (by kernel_rfl) rfl ?_
      intro ac508 En509
      rw [Go.Dbr.u32_or (a := ((UInt32.toNat (((UInt8.toUInt32 (List.getD lx 0 0)) ||| ((UInt8.toUInt32 (List.getD lx 1 0)) <<< UInt32.ofNat 8)) ||| ((UInt8.toUInt32 (List.getD lx 2 0)) <<< UInt32.ofNat 16)) : Nat) : Int)) (b := ((UInt32.toNat ((UInt8.toUInt32 (List.getD lx 3 0)) <<< UInt32.ofNat 24) : Nat) : Int)) (x := ((UInt8.toUInt32 (List.getD lx 0 0)) ||| ((UInt8.toUInt32 (List.getD lx 1 0)) <<< UInt32.ofNat 8)) ||| ((UInt8.toUInt32 (List.getD lx 2 0)) <<< UInt32.ofNat 16)) (y := (UInt8.toUInt32 (List.getD lx 3 0)) <<< UInt32.ofNat 24) rfl rfl] at En509
      refine any_pureR (d := some 2) En509 (v := .int .u32 ((UInt32.toNat ((((UInt8.toUInt32 (List.getD lx 0 0)) ||| ((UInt8.toUInt32 (List.getD lx 1 0)) <<< UInt32.ofNat 8)) ||| ((UInt8.toUInt32 (List.getD lx 2 0)) <<< UInt32.ofNat 16)) ||| ((UInt8.toUInt32 (List.getD lx 3 0)) <<< UInt32.ofNat 24)) : Nat) : Int)) 22 (by kernel_rfl) (by kernel_rfl) rfl ?_
      intro ac510 En511
      exact any_end (by kernel_rfl) ⟨En511.sub (by kernel_rfl), Hv494.pick [] (by kernel_rfl) (by decide)⟩
    have nd512 : ∀ (ac : Act) (wo : World) (adr20 : Addr) (had21 : ax = some adr20), Env ac 25 [(2, .int .u32 0), (5, .int .u8 ((UInt8.toNat (List.getD lx 0 0) : Nat) : Int)), (11, .int .u32 ((UInt32.toNat ((UInt8.toUInt32 (List.getD lx 1 0)) <<< UInt32.ofNat 8) : Nat) : Int)), (14, .pointer (some (Addr.add adr20 2))), (23, .int .u32 ((UInt32.toNat ((UInt8.toUInt32 (List.getD lx 3 0)) <<< UInt32.ofNat 24) : Nat) : Int))] → Ev w [] wo [] → G 8 #[true, true, true, false, true, true, true, true, true, false, true, true, false, false, false, false, true, true, true, true, true, false, false] ac wo := by
      intro ac513 wo514 adr20 had21 En515 Hv516
      refine any_from hG ?_
      refine any_pureR (d := some 6) En515 (v := .int .u32 (IntKind.wrap .u32 ((UInt8.toNat (List.getD lx 0 0) : Nat) : Int))) 3 (by kernel_rfl) (by kernel_rfl) rfl ?_
      intro ac517 En518
      rw [Go.Dbr.u8_to_u32 (a := ((UInt8.toNat (List.getD lx 0 0) : Nat) : Int)) (x := List.getD lx 0 0) rfl] at En518
      refine any_pureR (d := some 12) En518 (v := .int .u32 (IntKind.wrap .u32 ((BitVec.ofInt (IntKind.bits .u32) ((UInt32.toNat (UInt8.toUInt32 (List.getD lx 0 0)) : Nat) : Int) ||| BitVec.ofInt (IntKind.bits .u32) ((UInt32.toNat ((UInt8.toUInt32 (List.getD lx 1 0)) <<< UInt32.ofNat 8) : Nat) : Int)).toNat : Int))) 9 (by kernel_rfl) (by kernel_rfl) rfl ?_
      intro ac519 En520
      rw [Go.Dbr.u32_or (a := ((UInt32.toNat (UInt8.toUInt32 (List.getD lx 0 0)) : Nat) : Int)) (b := ((UInt32.toNat ((UInt8.toUInt32 (List.getD lx 1 0)) <<< UInt32.ofNat 8) : Nat) : Int)) (x := UInt8.toUInt32 (List.getD lx 0 0)) (y := (UInt8.toUInt32 (List.getD lx 1 0)) <<< UInt32.ofNat 8) rfl rfl] at En520
      refine any_at 12 (by kernel_rfl) rfl ?_
      have hb521 : 2 < List.length lx := by omega
      refine op_loadel (d := some 15) (t := 5) (ad := adr20) (ao := ax) (xs := bys lx) (j := 2) (v := .int .u8 ((UInt8.toNat (List.getD lx 2 0) : Nat) : Int)) En520 (by kernel_rfl) (ix.ev Hv516).reads had21 (bys_getD hb521) (by kernel_rfl) ?_
      intro ac522 En523
      refine any_pureR (d := some 16) En523 (v := .int .u32 (IntKind.wrap .u32 ((UInt8.toNat (List.getD lx 2 0) : Nat) : Int))) 13 (by kernel_rfl) (by kernel_rfl) rfl ?_
      intro ac524 En525
      rw [Go.Dbr.u8_to_u32 (a := ((UInt8.toNat (List.getD lx 2 0) : Nat) : Int)) (x := List.getD lx 2 0) rfl] at En525
      refine any_pureR (d := some 17) En525 (v := .int .u32 (IntKind.wrap .u32 (((UInt32.toNat (UInt8.toUInt32 (List.getD lx 2 0)) : Nat) : Int) * 2 ^ 16))) 14 (by kernel_rfl) (by kernel_rfl) rfl ?_
      intro ac526 En527
      rw [Go.Dbr.u32_shl (a := ((UInt32.toNat (UInt8.toUInt32 (List.getD lx 2 0)) : Nat) : Int)) (x := UInt8.toUInt32 (List.getD lx 2 0)) (n := 16) rfl (by decide)] at En527
      refine any_pureR (d := some 18) En527 (v := .int .u32 (IntKind.wrap .u32 ((BitVec.ofInt (IntKind.bits .u32) ((UInt32.toNat ((UInt8.toUInt32 (List.getD lx 0 0)) ||| ((UInt8.toUInt32 (List.getD lx 1 0)) <<< UInt32.ofNat 8)) : Nat) : Int) ||| BitVec.ofInt (IntKind.bits .u32) ((UInt32.toNat ((UInt8.toUInt32 (List.getD lx 2 0)) <<< UInt32.ofNat 16) : Nat) : Int)).toNat : Int))) 15 (by kernel_rfl) (by kernel_rfl) rfl ?_
      intro ac528 En529
      rw [Go.Dbr.u32_or (a := ((UInt32.toNat ((UInt8.toUInt32 (List.getD lx 0 0)) ||| ((UInt8.toUInt32 (List.getD lx 1 0)) <<< UInt32.ofNat 8)) : Nat) : Int)) (b := ((UInt32.toNat ((UInt8.toUInt32 (List.getD lx 2 0)) <<< UInt32.ofNat 16) : Nat) : Int)) (x := (UInt8.toUInt32 (List.getD lx 0 0)) ||| ((UInt8.toUInt32 (List.getD lx 1 0)) <<< UInt32.ofNat 8)) (y := (UInt8.toUInt32 (List.getD lx 2 0)) <<< UInt32.ofNat 16) rfl rfl] at En529
      refine any_pureR (d := some 24) En529 (v := .int .u32 (IntKind.wrap .u32 ((BitVec.ofInt (IntKind.bits .u32) ((UInt32.toNat (((UInt8.toUInt32 (List.getD lx 0 0)) ||| ((UInt8.toUInt32 (List.getD lx 1 0)) <<< UInt32.ofNat 8)) ||| ((UInt8.toUInt32 (List.getD lx 2 0)) <<< UInt32.ofNat 16)) : Nat) : Int) ||| BitVec.ofInt (IntKind.bits .u32) ((UInt32.toNat ((UInt8.toUInt32 (List.getD lx 3 0)) <<< UInt32.ofNat 24) : Nat) : Int)).toNat : Int))) 21 (by kernel_rfl) (by kernel_rfl) rfl ?_
      intro ac530 En531
      rw [Go.Dbr.u32_or (a := ((UInt32.toNat (((UInt8.toUInt32 (List.getD lx 0 0)) ||| ((UInt8.toUInt32 (List.getD lx 1 0)) <<< UInt32.ofNat 8)) ||| ((UInt8.toUInt32 (List.getD lx 2 0)) <<< UInt32.ofNat 16)) : Nat) : Int)) (b := ((UInt32.toNat ((UInt8.toUInt32 (List.getD lx 3 0)) <<< UInt32.ofNat 24) : Nat) : Int)) (x := ((UInt8.toUInt32 (List.getD lx 0 0)) ||| ((UInt8.toUInt32 (List.getD lx 1 0)) <<< UInt32.ofNat 8)) ||| ((UInt8.toUInt32 (List.getD lx 2 0)) <<< UInt32.ofNat 16)) (y := (UInt8.toUInt32 (List.getD lx 3 0)) <<< UInt32.ofNat 24) rfl rfl] at En531
      refine any_pureR (d := some 2) En531 (v := .int .u32 ((UInt32.toNat ((((UInt8.toUInt32 (List.getD lx 0 0)) ||| ((UInt8.toUInt32 (List.getD lx 1 0)) <<< UInt32.ofNat 8)) ||| ((UInt8.toUInt32 (List.getD lx 2 0)) <<< UInt32.ofNat 16)) ||| ((UInt8.toUInt32 (List.getD lx 3 0)) <<< UInt32.ofNat 24)) : Nat) : Int)) 22 (by kernel_rfl) (by kernel_rfl) rfl ?_
      intro ac532 En533
      exact any_end (by kernel_rfl) ⟨En533.sub (by kernel_rfl), Hv516.pick [] (by kernel_rfl) (by decide)⟩
    have nd534 : ∀ (ac : Act) (wo : World) (adr6 : Addr) (had7 : ax = some adr6), Env ac 25 [(2, .int .u32 0), (4, .pointer (some (Addr.add adr6 0))), (11, .int .u32 ((UInt32.toNat ((UInt8.toUInt32 (List.getD lx 1 0)) <<< UInt32.ofNat 8) : Nat) : Int)), (15, .int .u8 ((UInt8.toNat (List.getD lx 2 0) : Nat) : Int)), (23, .int .u32 ((UInt32.toNat ((UInt8.toUInt32 (List.getD lx 3 0)) <<< UInt32.ofNat 24) : Nat) : Int))] → Ev w [] wo [] → G 8 #[true, true, false, false, true, true, true, true, true, false, true, true, true, false, false, false, true, true, true, true, true, false, false] ac wo := by
      intro ac535 wo536 adr6 had7 En537 Hv538
      refine any_from hG ?_
      refine any_pureR (d := some 16) En537 (v := .int .u32 (IntKind.wrap .u32 ((UInt8.toNat (List.getD lx 2 0) : Nat) : Int))) 13 (by kernel_rfl) (by kernel_rfl) rfl ?_
      intro ac539 En540
      rw [Go.Dbr.u8_to_u32 (a := ((UInt8.toNat (List.getD lx 2 0) : Nat) : Int)) (x := List.getD lx 2 0) rfl] at En540
      refine any_pureR (d := some 17) En540 (v := .int .u32 (IntKind.wrap .u32 (((UInt32.toNat (UInt8.toUInt32 (List.getD lx 2 0)) : Nat) : Int) * 2 ^ 16))) 14 (by kernel_rfl) (by kernel_rfl) rfl ?_
      intro ac541 En542
      rw [Go.Dbr.u32_shl (a := ((UInt32.toNat (UInt8.toUInt32 (List.getD lx 2 0)) : Nat) : Int)) (x := UInt8.toUInt32 (List.getD lx 2 0)) (n := 16) rfl (by decide)] at En542
      refine any_at 2 (by kernel_rfl) rfl ?_
      have hb543 : 0 < List.length lx := by omega
      refine op_loadel (d := some 5) (t := 5) (ad := adr6) (ao := ax) (xs := bys lx) (j := 0) (v := .int .u8 ((UInt8.toNat (List.getD lx 0 0) : Nat) : Int)) En542 (by kernel_rfl) (ix.ev Hv538).reads had7 (bys_getD hb543) (by kernel_rfl) ?_
      intro ac544 En545
      refine any_pureR (d := some 6) En545 (v := .int .u32 (IntKind.wrap .u32 ((UInt8.toNat (List.getD lx 0 0) : Nat) : Int))) 3 (by kernel_rfl) (by kernel_rfl) rfl ?_
      intro ac546 En547
      rw [Go.Dbr.u8_to_u32 (a := ((UInt8.toNat (List.getD lx 0 0) : Nat) : Int)) (x := List.getD lx 0 0) rfl] at En547
      refine any_pureR (d := some 12) En547 (v := .int .u32 (IntKind.wrap .u32 ((BitVec.ofInt (IntKind.bits .u32) ((UInt32.toNat (UInt8.toUInt32 (List.getD lx 0 0)) : Nat) : Int) ||| BitVec.ofInt (IntKind.bits .u32) ((UInt32.toNat ((UInt8.toUInt32 (List.getD lx 1 0)) <<< UInt32.ofNat 8) : Nat) : Int)).toNat : Int))) 9 (by kernel_rfl) (by kernel_rfl) rfl ?_
      intro ac548 En549
      rw [Go.Dbr.u32_or (a := ((UInt32.toNat (UInt8.toUInt32 (List.getD lx 0 0)) : Nat) : Int)) (b := ((UInt32.toNat ((UInt8.toUInt32 (List.getD lx 1 0)) <<< UInt32.ofNat 8) : Nat) : Int)) (x := UInt8.toUInt32 (List.getD lx 0 0)) (y := (UInt8.toUInt32 (List.getD lx 1 0)) <<< UInt32.ofNat 8) rfl rfl] at En549
      refine any_pureR (d := some 18) En549 (v := .int .u32 (IntKind.wrap .u32 ((BitVec.ofInt (IntKind.bits .u32) ((UInt32.toNat ((UInt8.toUInt32 (List.getD lx 0 0)) ||| ((UInt8.toUInt32 (List.getD lx 1 0)) <<< UInt32.ofNat 8)) : Nat) : Int) ||| BitVec.ofInt (IntKind.bits .u32) ((UInt32.toNat ((UInt8.toUInt32 (List.getD lx 2 0)) <<< UInt32.ofNat 16) : Nat) : Int)).toNat : Int))) 15 (by kernel_rfl) (by kernel_rfl) rfl ?_
      intro ac550 En551
      rw [Go.Dbr.u32_or (a := ((UInt32.toNat ((UInt8.toUInt32 (List.getD lx 0 0)) ||| ((UInt8.toUInt32 (List.getD lx 1 0)) <<< UInt32.ofNat 8)) : Nat) : Int)) (b := ((UInt32.toNat ((UInt8.toUInt32 (List.getD lx 2 0)) <<< UInt32.ofNat 16) : Nat) : Int)) (x := (UInt8.toUInt32 (List.getD lx 0 0)) ||| ((UInt8.toUInt32 (List.getD lx 1 0)) <<< UInt32.ofNat 8)) (y := (UInt8.toUInt32 (List.getD lx 2 0)) <<< UInt32.ofNat 16) rfl rfl] at En551
      refine any_pureR (d := some 24) En551 (v := .int .u32 (IntKind.wrap .u32 ((BitVec.ofInt (IntKind.bits .u32) ((UInt32.toNat (((UInt8.toUInt32 (List.getD lx 0 0)) ||| ((UInt8.toUInt32 (List.getD lx 1 0)) <<< UInt32.ofNat 8)) ||| ((UInt8.toUInt32 (List.getD lx 2 0)) <<< UInt32.ofNat 16)) : Nat) : Int) ||| BitVec.ofInt (IntKind.bits .u32) ((UInt32.toNat ((UInt8.toUInt32 (List.getD lx 3 0)) <<< UInt32.ofNat 24) : Nat) : Int)).toNat : Int))) 21 (by kernel_rfl) (by kernel_rfl) rfl ?_
      intro ac552 En553
      rw [Go.Dbr.u32_or (a := ((UInt32.toNat (((UInt8.toUInt32 (List.getD lx 0 0)) ||| ((UInt8.toUInt32 (List.getD lx 1 0)) <<< UInt32.ofNat 8)) ||| ((UInt8.toUInt32 (List.getD lx 2 0)) <<< UInt32.ofNat 16)) : Nat) : Int)) (b := ((UInt32.toNat ((UInt8.toUInt32 (List.getD lx 3 0)) <<< UInt32.ofNat 24) : Nat) : Int)) (x := ((UInt8.toUInt32 (List.getD lx 0 0)) ||| ((UInt8.toUInt32 (List.getD lx 1 0)) <<< UInt32.ofNat 8)) ||| ((UInt8.toUInt32 (List.getD lx 2 0)) <<< UInt32.ofNat 16)) (y := (UInt8.toUInt32 (List.getD lx 3 0)) <<< UInt32.ofNat 24) rfl rfl] at En553
      refine any_pureR (d := some 2) En553 (v := .int .u32 ((UInt32.toNat ((((UInt8.toUInt32 (List.getD lx 0 0)) ||| ((UInt8.toUInt32 (List.getD lx 1 0)) <<< UInt32.ofNat 8)) ||| ((UInt8.toUInt32 (List.getD lx 2 0)) <<< UInt32.ofNat 16)) ||| ((UInt8.toUInt32 (List.getD lx 3 0)) <<< UInt32.ofNat 24)) : Nat) : Int)) 22 (by kernel_rfl) (by kernel_rfl) rfl ?_
      intro ac554 En555
      exact any_end (by kernel_rfl) ⟨En555.sub (by kernel_rfl), Hv538.pick [] (by kernel_rfl) (by decide)⟩
    have nd556 : ∀ (ac : Act) (wo : World) (adr13 : Addr) (had14 : ax = some adr13), Env ac 25 [(2, .int .u32 0), (5, .int .u8 ((UInt8.toNat (List.getD lx 0 0) : Nat) : Int)), (8, .pointer (some (Addr.add adr13 1))), (17, .int .u32 ((UInt32.toNat ((UInt8.toUInt32 (List.getD lx 2 0)) <<< UInt32.ofNat 16) : Nat) : Int)), (23, .int .u32 ((UInt32.toNat ((UInt8.toUInt32 (List.getD lx 3 0)) <<< UInt32.ofNat 24) : Nat) : Int))] → Ev w [] wo [] → G 8 #[true, true, true, false, true, true, false, false, false, false, true, true, true, true, true, false, true, true, true, true, true, false, false] ac wo := by
      intro ac557 wo558 adr13 had14 En559 Hv560
      refine any_from hG ?_
      refine any_pureR (d := some 6) En559 (v := .int .u32 (IntKind.wrap .u32 ((UInt8.toNat (List.getD lx 0 0) : Nat) : Int))) 3 (by kernel_rfl) (by kernel_rfl) rfl ?_
      intro ac561 En562
      rw [Go.Dbr.u8_to_u32 (a := ((UInt8.toNat (List.getD lx 0 0) : Nat) : Int)) (x := List.getD lx 0 0) rfl] at En562
      refine any_at 6 (by kernel_rfl) rfl ?_
      have hb563 : 1 < List.length lx := by omega
      refine op_loadel (d := some 9) (t := 5) (ad := adr13) (ao := ax) (xs := bys lx) (j := 1) (v := .int .u8 ((UInt8.toNat (List.getD lx 1 0) : Nat) : Int)) En562 (by kernel_rfl) (ix.ev Hv560).reads had14 (bys_getD hb563) (by kernel_rfl) ?_
      intro ac564 En565
      refine any_pureR (d := some 10) En565 (v := .int .u32 (IntKind.wrap .u32 ((UInt8.toNat (List.getD lx 1 0) : Nat) : Int))) 7 (by kernel_rfl) (by kernel_rfl) rfl ?_
      intro ac566 En567
      rw [Go.Dbr.u8_to_u32 (a := ((UInt8.toNat (List.getD lx 1 0) : Nat) : Int)) (x := List.getD lx 1 0) rfl] at En567
      refine any_pureR (d := some 11) En567 (v := .int .u32 (IntKind.wrap .u32 (((UInt32.toNat (UInt8.toUInt32 (List.getD lx 1 0)) : Nat) : Int) * 2 ^ 8))) 8 (by kernel_rfl) (by kernel_rfl) rfl ?_
      intro ac568 En569
      rw [Go.Dbr.u32_shl (a := ((UInt32.toNat (UInt8.toUInt32 (List.getD lx 1 0)) : Nat) : Int)) (x := UInt8.toUInt32 (List.getD lx 1 0)) (n := 8) rfl (by decide)] at En569
      refine any_pureR (d := some 12) En569 (v := .int .u32 (IntKind.wrap .u32 ((BitVec.ofInt (IntKind.bits .u32) ((UInt32.toNat (UInt8.toUInt32 (List.getD lx 0 0)) : Nat) : Int) ||| BitVec.ofInt (IntKind.bits .u32) ((UInt32.toNat ((UInt8.toUInt32 (List.getD lx 1 0)) <<< UInt32.ofNat 8) : Nat) : Int)).toNat : Int))) 9 (by kernel_rfl) (by kernel_rfl) rfl ?_
      intro ac570 En571
      rw [Go.Dbr.u32_or (a := ((UInt32.toNat (UInt8.toUInt32 (List.getD lx 0 0)) : Nat) : Int)) (b := ((UInt32.toNat ((UInt8.toUInt32 (List.getD lx 1 0)) <<< UInt32.ofNat 8) : Nat) : Int)) (x := UInt8.toUInt32 (List.getD lx 0 0)) (y := (UInt8.toUInt32 (List.getD lx 1 0)) <<< UInt32.ofNat 8) rfl rfl] at En571
      refine any_pureR (d := some 18) En571 (v := .int .u32 (IntKind.wrap .u32 ((BitVec.ofInt (IntKind.bits .u32) ((UInt32.toNat ((UInt8.toUInt32 (List.getD lx 0 0)) ||| ((UInt8.toUInt32 (List.getD lx 1 0)) <<< UInt32.ofNat 8)) : Nat) : Int) ||| BitVec.ofInt (IntKind.bits .u32) ((UInt32.toNat ((UInt8.toUInt32 (List.getD lx 2 0)) <<< UInt32.ofNat 16) : Nat) : Int)).toNat : Int))) 15 (by kernel_rfl) (by kernel_rfl) rfl ?_
      intro ac572 En573
      rw [Go.Dbr.u32_or (a := ((UInt32.toNat ((UInt8.toUInt32 (List.getD lx 0 0)) ||| ((UInt8.toUInt32 (List.getD lx 1 0)) <<< UInt32.ofNat 8)) : Nat) : Int)) (b := ((UInt32.toNat ((UInt8.toUInt32 (List.getD lx 2 0)) <<< UInt32.ofNat 16) : Nat) : Int)) (x := (UInt8.toUInt32 (List.getD lx 0 0)) ||| ((UInt8.toUInt32 (List.getD lx 1 0)) <<< UInt32.ofNat 8)) (y := (UInt8.toUInt32 (List.getD lx 2 0)) <<< UInt32.ofNat 16) rfl rfl] at En573
      refine any_pureR (d := some 24) En573 (v := .int .u32 (IntKind.wrap .u32 ((BitVec.ofInt (IntKind.bits .u32) ((UInt32.toNat (((UInt8.toUInt32 (List.getD lx 0 0)) ||| ((UInt8.toUInt32 (List.getD lx 1 0)) <<< UInt32.ofNat 8)) ||| ((UInt8.toUInt32 (List.getD lx 2 0)) <<< UInt32.ofNat 16)) : Nat) : Int) ||| BitVec.ofInt (IntKind.bits .u32) ((UInt32.toNat ((UInt8.toUInt32 (List.getD lx 3 0)) <<< UInt32.ofNat 24) : Nat) : Int)).toNat : Int))) 21 (by kernel_rfl) (by kernel_rfl) rfl ?_
      intro ac574 En575
      rw [Go.Dbr.u32_or (a := ((UInt32.toNat (((UInt8.toUInt32 (List.getD lx 0 0)) ||| ((UInt8.toUInt32 (List.getD lx 1 0)) <<< UInt32.ofNat 8)) ||| ((UInt8.toUInt32 (List.getD lx 2 0)) <<< UInt32.ofNat 16)) : Nat) : Int)) (b := ((UInt32.toNat ((UInt8.toUInt32 (List.getD lx 3 0)) <<< UInt32.ofNat 24) : Nat) : Int)) (x := ((UInt8.toUInt32 (List.getD lx 0 0)) ||| ((UInt8.toUInt32 (List.getD lx 1 0)) <<< UInt32.ofNat 8)) ||| ((UInt8.toUInt32 (List.getD lx 2 0)) <<< UInt32.ofNat 16)) (y := (UInt8.toUInt32 (List.getD lx 3 0)) <<< UInt32.ofNat 24) rfl rfl] at En575
      refine any_pureR (d := some 2) En575 (v := .int .u32 ((UInt32.toNat ((((UInt8.toUInt32 (List.getD lx 0 0)) ||| ((UInt8.toUInt32 (List.getD lx 1 0)) <<< UInt32.ofNat 8)) ||| ((UInt8.toUInt32 (List.getD lx 2 0)) <<< UInt32.ofNat 16)) ||| ((UInt8.toUInt32 (List.getD lx 3 0)) <<< UInt32.ofNat 24)) : Nat) : Int)) 22 (by kernel_rfl) (by kernel_rfl) rfl ?_
      intro ac576 En577
      exact any_end (by kernel_rfl) ⟨En577.sub (by kernel_rfl), Hv560.pick [] (by kernel_rfl) (by decide)⟩
    have nd578 : ∀ (ac : Act) (wo : World) (adr6 : Addr) (had7 : ax = some adr6), Env ac 25 [(2, .int .u32 0), (4, .pointer (some (Addr.add adr6 0))), (9, .int .u8 ((UInt8.toNat (List.getD lx 1 0) : Nat) : Int)), (17, .int .u32 ((UInt32.toNat ((UInt8.toUInt32 (List.getD lx 2 0)) <<< UInt32.ofNat 16) : Nat) : Int)), (23, .int .u32 ((UInt32.toNat ((UInt8.toUInt32 (List.getD lx 3 0)) <<< UInt32.ofNat 24) : Nat) : Int))] → Ev w [] wo [] → G 8 #[true, true, false, false, true, true, true, false, false, false, true, true, true, true, true, false, true, true, true, true, true, false, false] ac wo := by
      intro ac579 wo580 adr6 had7 En581 Hv582
      refine any_from hG ?_
      refine any_pureR (d := some 10) En581 (v := .int .u32 (IntKind.wrap .u32 ((UInt8.toNat (List.getD lx 1 0) : Nat) : Int))) 7 (by kernel_rfl) (by kernel_rfl) rfl ?_
      intro ac583 En584
      rw [Go.Dbr.u8_to_u32 (a := ((UInt8.toNat (List.getD lx 1 0) : Nat) : Int)) (x := List.getD lx 1 0) rfl] at En584
      refine any_pureR (d := some 11) En584 (v := .int .u32 (IntKind.wrap .u32 (((UInt32.toNat (UInt8.toUInt32 (List.getD lx 1 0)) : Nat) : Int) * 2 ^ 8))) 8 (by kernel_rfl) (by kernel_rfl) rfl ?_
      intro ac585 En586
      rw [Go.Dbr.u32_shl (a := ((UInt32.toNat (UInt8.toUInt32 (List.getD lx 1 0)) : Nat) : Int)) (x := UInt8.toUInt32 (List.getD lx 1 0)) (n := 8) rfl (by decide)] at En586
      refine any_at 2 (by kernel_rfl) rfl ?_
      have hb587 : 0 < List.length lx := by omega
      refine op_loadel (d := some 5) (t := 5) (ad := adr6) (ao := ax) (xs := bys lx) (j := 0) (v := .int .u8 ((UInt8.toNat (List.getD lx 0 0) : Nat) : Int)) En586 (by kernel_rfl) (ix.ev Hv582).reads had7 (bys_getD hb587) (by kernel_rfl) ?_
      intro ac588 En589
      refine any_pureR (d := some 6) En589 (v := .int .u32 (IntKind.wrap .u32 ((UInt8.toNat (List.getD lx 0 0) : Nat) : Int))) 3 (by kernel_rfl) (by kernel_rfl) rfl ?_
      intro ac590 En591
      rw [Go.Dbr.u8_to_u32 (a := ((UInt8.toNat (List.getD lx 0 0) : Nat) : Int)) (x := List.getD lx 0 0) rfl] at En591
      refine any_pureR (d := some 12) En591 (v := .int .u32 (IntKind.wrap .u32 ((BitVec.ofInt (IntKind.bits .u32) ((UInt32.toNat (UInt8.toUInt32 (List.getD lx 0 0)) : Nat) : Int) ||| BitVec.ofInt (IntKind.bits .u32) ((UInt32.toNat ((UInt8.toUInt32 (List.getD lx 1 0)) <<< UInt32.ofNat 8) : Nat) : Int)).toNat : Int))) 9 (by kernel_rfl) (by kernel_rfl) rfl ?_
      intro ac592 En593
      rw [Go.Dbr.u32_or (a := ((UInt32.toNat (UInt8.toUInt32 (List.getD lx 0 0)) : Nat) : Int)) (b := ((UInt32.toNat ((UInt8.toUInt32 (List.getD lx 1 0)) <<< UInt32.ofNat 8) : Nat) : Int)) (x := UInt8.toUInt32 (List.getD lx 0 0)) (y := (UInt8.toUInt32 (List.getD lx 1 0)) <<< UInt32.ofNat 8) rfl rfl] at En593
      refine any_pureR (d := some 18) En593 (v := .int .u32 (IntKind.wrap .u32 ((BitVec.ofInt (IntKind.bits .u32) ((UInt32.toNat ((UInt8.toUInt32 (List.getD lx 0 0)) ||| ((UInt8.toUInt32 (List.getD lx 1 0)) <<< UInt32.ofNat 8)) : Nat) : Int) ||| BitVec.ofInt (IntKind.bits .u32) ((UInt32.toNat ((UInt8.toUInt32 (List.getD lx 2 0)) <<< UInt32.ofNat 16) : Nat) : Int)).toNat : Int))) 15 (by kernel_rfl) (by kernel_rfl) rfl ?_
      intro ac594 En595
      rw [Go.Dbr.u32_or (a := ((UInt32.toNat ((UInt8.toUInt32 (List.getD lx 0 0)) ||| ((UInt8.toUInt32 (List.getD lx 1 0)) <<< UInt32.ofNat 8)) : Nat) : Int)) (b := ((UInt32.toNat ((UInt8.toUInt32 (List.getD lx 2 0)) <<< UInt32.ofNat 16) : Nat) : Int)) (x := (UInt8.toUInt32 (List.getD lx 0 0)) ||| ((UInt8.toUInt32 (List.getD lx 1 0)) <<< UInt32.ofNat 8)) (y := (UInt8.toUInt32 (List.getD lx 2 0)) <<< UInt32.ofNat 16) rfl rfl] at En595
      refine any_pureR (d := some 24) En595 (v := .int .u32 (IntKind.wrap .u32 ((BitVec.ofInt (IntKind.bits .u32) ((UInt32.toNat (((UInt8.toUInt32 (List.getD lx 0 0)) ||| ((UInt8.toUInt32 (List.getD lx 1 0)) <<< UInt32.ofNat 8)) ||| ((UInt8.toUInt32 (List.getD lx 2 0)) <<< UInt32.ofNat 16)) : Nat) : Int) ||| BitVec.ofInt (IntKind.bits .u32) ((UInt32.toNat ((UInt8.toUInt32 (List.getD lx 3 0)) <<< UInt32.ofNat 24) : Nat) : Int)).toNat : Int))) 21 (by kernel_rfl) (by kernel_rfl) rfl ?_
      intro ac596 En597
      rw [Go.Dbr.u32_or (a := ((UInt32.toNat (((UInt8.toUInt32 (List.getD lx 0 0)) ||| ((UInt8.toUInt32 (List.getD lx 1 0)) <<< UInt32.ofNat 8)) ||| ((UInt8.toUInt32 (List.getD lx 2 0)) <<< UInt32.ofNat 16)) : Nat) : Int)) (b := ((UInt32.toNat ((UInt8.toUInt32 (List.getD lx 3 0)) <<< UInt32.ofNat 24) : Nat) : Int)) (x := ((UInt8.toUInt32 (List.getD lx 0 0)) ||| ((UInt8.toUInt32 (List.getD lx 1 0)) <<< UInt32.ofNat 8)) ||| ((UInt8.toUInt32 (List.getD lx 2 0)) <<< UInt32.ofNat 16)) (y := (UInt8.toUInt32 (List.getD lx 3 0)) <<< UInt32.ofNat 24) rfl rfl] at En597
      refine any_pureR (d := some 2) En597 (v := .int .u32 ((UInt32.toNat ((((UInt8.toUInt32 (List.getD lx 0 0)) ||| ((UInt8.toUInt32 (List.getD lx 1 0)) <<< UInt32.ofNat 8)) ||| ((UInt8.toUInt32 (List.getD lx 2 0)) <<< UInt32.ofNat 16)) ||| ((UInt8.toUInt32 (List.getD lx 3 0)) <<< UInt32.ofNat 24)) : Nat) : Int)) 22 (by kernel_rfl) (by kernel_rfl) rfl ?_
      intro ac598 En599
      exact any_end (by kernel_rfl) ⟨En599.sub (by kernel_rfl), Hv582.pick [] (by kernel_rfl) (by decide)⟩
    have nd600 : ∀ (ac : Act) (wo : World) (adr27 : Addr) (had28 : ax = some adr27), Env ac 25 [(2, .int .u32 0), (6, .int .u32 ((UInt32.toNat (UInt8.toUInt32 (List.getD lx 0 0)) : Nat) : Int)), (9, .int .u8 ((UInt8.toNat (List.getD lx 1 0) : Nat) : Int)), (17, .int .u32 ((UInt32.toNat ((UInt8.toUInt32 (List.getD lx 2 0)) <<< UInt32.ofNat 16) : Nat) : Int)), (20, .pointer (some (Addr.add adr27 3)))] → Ev w [] wo [] → G 9 #[true, true, true, true, true, true, true, false, false, false, true, true, true, true, true, false, true, true, false, false, false, false, false] ac wo := by
      intro ac601 wo602 adr27 had28 En603 Hv604
      refine any_from hG ?_
      refine any_pureR (d := some 10) En603 (v := .int .u32 (IntKind.wrap .u32 ((UInt8.toNat (List.getD lx 1 0) : Nat) : Int))) 7 (by kernel_rfl) (by kernel_rfl) rfl ?_
      intro ac605 En606
      rw [Go.Dbr.u8_to_u32 (a := ((UInt8.toNat (List.getD lx 1 0) : Nat) : Int)) (x := List.getD lx 1 0) rfl] at En606
      refine any_pureR (d := some 11) En606 (v := .int .u32 (IntKind.wrap .u32 (((UInt32.toNat (UInt8.toUInt32 (List.getD lx 1 0)) : Nat) : Int) * 2 ^ 8))) 8 (by kernel_rfl) (by kernel_rfl) rfl ?_
      intro ac607 En608
      rw [Go.Dbr.u32_shl (a := ((UInt32.toNat (UInt8.toUInt32 (List.getD lx 1 0)) : Nat) : Int)) (x := UInt8.toUInt32 (List.getD lx 1 0)) (n := 8) rfl (by decide)] at En608
      refine any_pureR (d := some 12) En608 (v := .int .u32 (IntKind.wrap .u32 ((BitVec.ofInt (IntKind.bits .u32) ((UInt32.toNat (UInt8.toUInt32 (List.getD lx 0 0)) : Nat) : Int) ||| BitVec.ofInt (IntKind.bits .u32) ((UInt32.toNat ((UInt8.toUInt32 (List.getD lx 1 0)) <<< UInt32.ofNat 8) : Nat) : Int)).toNat : Int))) 9 (by kernel_rfl) (by kernel_rfl) rfl ?_
      intro ac609 En610
      rw [Go.Dbr.u32_or (a := ((UInt32.toNat (UInt8.toUInt32 (List.getD lx 0 0)) : Nat) : Int)) (b := ((UInt32.toNat ((UInt8.toUInt32 (List.getD lx 1 0)) <<< UInt32.ofNat 8) : Nat) : Int)) (x := UInt8.toUInt32 (List.getD lx 0 0)) (y := (UInt8.toUInt32 (List.getD lx 1 0)) <<< UInt32.ofNat 8) rfl rfl] at En610
      refine any_pureR (d := some 18) En610 (v := .int .u32 (IntKind.wrap .u32 ((BitVec.ofInt (IntKind.bits .u32) ((UInt32.toNat ((UInt8.toUInt32 (List.getD lx 0 0)) ||| ((UInt8.toUInt32 (List.getD lx 1 0)) <<< UInt32.ofNat 8)) : Nat) : Int) ||| BitVec.ofInt (IntKind.bits .u32) ((UInt32.toNat ((UInt8.toUInt32 (List.getD lx 2 0)) <<< UInt32.ofNat 16) : Nat) : Int)).toNat : Int))) 15 (by kernel_rfl) (by kernel_rfl) rfl ?_
      intro ac611 En612
      rw [Go.Dbr.u32_or (a := ((UInt32.toNat ((UInt8.toUInt32 (List.getD lx 0 0)) ||| ((UInt8.toUInt32 (List.getD lx 1 0)) <<< UInt32.ofNat 8)) : Nat) : Int)) (b := ((UInt32.toNat ((UInt8.toUInt32 (List.getD lx 2 0)) <<< UInt32.ofNat 16) : Nat) : Int)) (x := (UInt8.toUInt32 (List.getD lx 0 0)) ||| ((UInt8.toUInt32 (List.getD lx 1 0)) <<< UInt32.ofNat 8)) (y := (UInt8.toUInt32 (List.getD lx 2 0)) <<< UInt32.ofNat 16) rfl rfl] at En612
      refine any_at 18 (by kernel_rfl) rfl ?_
      have hb613 : 3 < List.length lx := by omega
      refine op_loadel (d := some 21) (t := 5) (ad := adr27) (ao := ax) (xs := bys lx) (j := 3) (v := .int .u8 ((UInt8.toNat (List.getD lx 3 0) : Nat) : Int)) En612 (by kernel_rfl) (ix.ev Hv604).reads had28 (bys_getD hb613) (by kernel_rfl) ?_
      intro ac614 En615
      refine any_pureR (d := some 22) En615 (v := .int .u32 (IntKind.wrap .u32 ((UInt8.toNat (List.getD lx 3 0) : Nat) : Int))) 19 (by kernel_rfl) (by kernel_rfl) rfl ?_
      intro ac616 En617
      rw [Go.Dbr.u8_to_u32 (a := ((UInt8.toNat (List.getD lx 3 0) : Nat) : Int)) (x := List.getD lx 3 0) rfl] at En617
      refine any_pureR (d := some 23) En617 (v := .int .u32 (IntKind.wrap .u32 (((UInt32.toNat (UInt8.toUInt32 (List.getD lx 3 0)) : Nat) : Int) * 2 ^ 24))) 20 (by kernel_rfl) (by kernel_rfl) rfl ?_
      intro ac618 En619
      rw [Go.Dbr.u32_shl (a := ((UInt32.toNat (UInt8.toUInt32 (List.getD lx 3 0)) : Nat) : Int)) (x := UInt8.toUInt32 (List.getD lx 3 0)) (n := 24) rfl (by decide)] at En619
      refine any_pureR (d := some 24) En619 (v := .int .u32 (IntKind.wrap .u32 ((BitVec.ofInt (IntKind.bits .u32) ((UInt32.toNat (((UInt8.toUInt32 (List.getD lx 0 0)) ||| ((UInt8.toUInt32 (List.getD lx 1 0)) <<< UInt32.ofNat 8)) ||| ((UInt8.toUInt32 (List.getD lx 2 0)) <<< UInt32.ofNat 16)) : Nat) : Int) ||| BitVec.ofInt (IntKind.bits .u32) ((UInt32.toNat ((UInt8.toUInt32 (List.getD lx 3 0)) <<< UInt32.ofNat 24) : Nat) : Int)).toNat : Int))) 21 (by kernel_rfl) (by kernel_rfl) rfl ?_
      intro ac620 En621
      rw [Go.Dbr.u32_or (a := ((UInt32.toNat (((UInt8.toUInt32 (List.getD lx 0 0)) ||| ((UInt8.toUInt32 (List.getD lx 1 0)) <<< UInt32.ofNat 8)) ||| ((UInt8.toUInt32 (List.getD lx 2 0)) <<< UInt32.ofNat 16)) : Nat) : Int)) (b := ((UInt32.toNat ((UInt8.toUInt32 (List.getD lx 3 0)) <<< UInt32.ofNat 24) : Nat) : Int)) (x := ((UInt8.toUInt32 (List.getD lx 0 0)) ||| ((UInt8.toUInt32 (List.getD lx 1 0)) <<< UInt32.ofNat 8)) ||| ((UInt8.toUInt32 (List.getD lx 2 0)) <<< UInt32.ofNat 16)) (y := (UInt8.toUInt32 (List.getD lx 3 0)) <<< UInt32.ofNat 24) rfl rfl] at En621
      refine any_pureR (d := some 2) En621 (v := .int .u32 ((UInt32.toNat ((((UInt8.toUInt32 (List.getD lx 0 0)) ||| ((UInt8.toUInt32 (List.getD lx 1 0)) <<< UInt32.ofNat 8)) ||| ((UInt8.toUInt32 (List.getD lx 2 0)) <<< UInt32.ofNat 16)) ||| ((UInt8.toUInt32 (List.getD lx 3 0)) <<< UInt32.ofNat 24)) : Nat) : Int)) 22 (by kernel_rfl) (by kernel_rfl) rfl ?_
      intro ac622 En623
      exact any_end (by kernel_rfl) ⟨En623.sub (by kernel_rfl), Hv604.pick [] (by kernel_rfl) (by decide)⟩
    have nd624 : ∀ (ac : Act) (wo : World) (adr13 : Addr) (had14 : ax = some adr13), Env ac 25 [(2, .int .u32 0), (6, .int .u32 ((UInt32.toNat (UInt8.toUInt32 (List.getD lx 0 0)) : Nat) : Int)), (8, .pointer (some (Addr.add adr13 1))), (17, .int .u32 ((UInt32.toNat ((UInt8.toUInt32 (List.getD lx 2 0)) <<< UInt32.ofNat 16) : Nat) : Int)), (21, .int .u8 ((UInt8.toNat (List.getD lx 3 0) : Nat) : Int))] → Ev w [] wo [] → G 9 #[true, true, true, true, true, true, false, false, false, false, true, true, true, true, true, false, true, true, true, false, false, false, false] ac wo := by
      intro ac625 wo626 adr13 had14 En627 Hv628
      refine any_from hG ?_
      refine any_pureR (d := some 22) En627 (v := .int .u32 (IntKind.wrap .u32 ((UInt8.toNat (List.getD lx 3 0) : Nat) : Int))) 19 (by kernel_rfl) (by kernel_rfl) rfl ?_
      intro ac629 En630
      rw [Go.Dbr.u8_to_u32 (a := ((UInt8.toNat (List.getD lx 3 0) : Nat) : Int)) (x := List.getD lx 3 0) rfl] at En630
      refine any_pureR (d := some 23) En630 (v := .int .u32 (IntKind.wrap .u32 (((UInt32.toNat (UInt8.toUInt32 (List.getD lx 3 0)) : Nat) : Int) * 2 ^ 24))) 20 (by kernel_rfl) (by kernel_rfl) rfl ?_
      intro ac631 En632
      rw [Go.Dbr.u32_shl (a := ((UInt32.toNat (UInt8.toUInt32 (List.getD lx 3 0)) : Nat) : Int)) (x := UInt8.toUInt32 (List.getD lx 3 0)) (n := 24) rfl (by decide)] at En632
      refine any_at 6 (by kernel_rfl) rfl ?_
      have hb633 : 1 < List.length lx := by omega
      refine op_loadel (d := some 9) (t := 5) (ad := adr13) (ao := ax) (xs := bys lx) (j := 1) (v := .int .u8 ((UInt8.toNat (List.getD lx 1 0) : Nat) : Int)) En632 (by kernel_rfl) (ix.ev Hv628).reads had14 (bys_getD hb633) (by kernel_rfl) ?_
      intro ac634 En635
      refine any_pureR (d := some 10) En635 (v := .int .u32 (IntKind.wrap .u32 ((UInt8.toNat (List.getD lx 1 0) : Nat) : Int))) 7 (by kernel_rfl) (by kernel_rfl) rfl ?_
      intro ac636 En637
      rw [Go.Dbr.u8_to_u32 (a := ((UInt8.toNat (List.getD lx 1 0) : Nat) : Int)) (x := List.getD lx 1 0) rfl] at En637
      refine any_pureR (d := some 11) En637 (v := .int .u32 (IntKind.wrap .u32 (((UInt32.toNat (UInt8.toUInt32 (List.getD lx 1 0)) : Nat) : Int) * 2 ^ 8))) 8 (by kernel_rfl) (by kernel_rfl) rfl ?_
      intro ac638 En639
      rw [Go.Dbr.u32_shl (a := ((UInt32.toNat (UInt8.toUInt32 (List.getD lx 1 0)) : Nat) : Int)) (x := UInt8.toUInt32 (List.getD lx 1 0)) (n := 8) rfl (by decide)] at En639
      refine any_pureR (d := some 12) En639 (v := .int .u32 (IntKind.wrap .u32 ((BitVec.ofInt (IntKind.bits .u32) ((UInt32.toNat (UInt8.toUInt32 (List.getD lx 0 0)) : Nat) : Int) ||| BitVec.ofInt (IntKind.bits .u32) ((UInt32.toNat ((UInt8.toUInt32 (List.getD lx 1 0)) <<< UInt32.ofNat 8) : Nat) : Int)).toNat : Int))) 9 (by kernel_rfl) (by kernel_rfl) rfl ?_
      intro ac640 En641
      rw [Go.Dbr.u32_or (a := ((UInt32.toNat (UInt8.toUInt32 (List.getD lx 0 0)) : Nat) : Int)) (b := ((UInt32.toNat ((UInt8.toUInt32 (List.getD lx 1 0)) <<< UInt32.ofNat 8) : Nat) : Int)) (x := UInt8.toUInt32 (List.getD lx 0 0)) (y := (UInt8.toUInt32 (List.getD lx 1 0)) <<< UInt32.ofNat 8) rfl rfl] at En641
      refine any_pureR (d := some 18) En641 (v := .int .u32 (IntKind.wrap .u32 ((BitVec.ofInt (IntKind.bits .u32) ((UInt32.toNat ((UInt8.toUInt32 (List.getD lx 0 0)) ||| ((UInt8.toUInt32 (List.getD lx 1 0)) <<< UInt32.ofNat 8)) : Nat) : Int) ||| BitVec.ofInt (IntKind.bits .u32) ((UInt32.toNat ((UInt8.toUInt32 (List.getD lx 2 0)) <<< UInt32.ofNat 16) : Nat) : Int)).toNat : Int))) 15 (by kernel_rfl) (by kernel_rfl) rfl ?_
      intro ac642 En643
      rw [Go.Dbr.u32_or (a := ((UInt32.toNat ((UInt8.toUInt32 (List.getD lx 0 0)) ||| ((UInt8.toUInt32 (List.getD lx 1 0)) <<< UInt32.ofNat 8)) : Nat) : Int)) (b := ((UInt32.toNat ((UInt8.toUInt32 (List.getD lx 2 0)) <<< UInt32.ofNat 16) : Nat) : Int)) (x := (UInt8.toUInt32 (List.getD lx 0 0)) ||| ((UInt8.toUInt32 (List.getD lx 1 0)) <<< UInt32.ofNat 8)) (y := (UInt8.toUInt32 (List.getD lx 2 0)) <<< UInt32.ofNat 16) rfl rfl] at En643
      refine any_pureR (d := some 24) En643 (v := .int .u32 (IntKind.wrap .u32 ((BitVec.ofInt (IntKind.bits .u32) ((UInt32.toNat (((UInt8.toUInt32 (List.getD lx 0 0)) ||| ((UInt8.toUInt32 (List.getD lx 1 0)) <<< UInt32.ofNat 8)) ||| ((UInt8.toUInt32 (List.getD lx 2 0)) <<< UInt32.ofNat 16)) : Nat) : Int) ||| BitVec.ofInt (IntKind.bits .u32) ((UInt32.toNat ((UInt8.toUInt32 (List.getD lx 3 0)) <<< UInt32.ofNat 24) : Nat) : Int)).toNat : Int))) 21 (by kernel_rfl) (by kernel_rfl) rfl ?_
      intro ac644 En645
      rw [Go.Dbr.u32_or (a := ((UInt32.toNat (((UInt8.toUInt32 (List.getD lx 0 0)) ||| ((UInt8.toUInt32 (List.getD lx 1 0)) <<< UInt32.ofNat 8)) ||| ((UInt8.toUInt32 (List.getD lx 2 0)) <<< UInt32.ofNat 16)) : Nat) : Int)) (b := ((UInt32.toNat ((UInt8.toUInt32 (List.getD lx 3 0)) <<< UInt32.ofNat 24) : Nat) : Int)) (x := ((UInt8.toUInt32 (List.getD lx 0 0)) ||| ((UInt8.toUInt32 (List.getD lx 1 0)) <<< UInt32.ofNat 8)) ||| ((UInt8.toUInt32 (List.getD lx 2 0)) <<< UInt32.ofNat 16)) (y := (UInt8.toUInt32 (List.getD lx 3 0)) <<< UInt32.ofNat 24) rfl rfl] at En645
      refine any_pureR (d := some 2) En645 (v := .int .u32 ((UInt32.toNat ((((UInt8.toUInt32 (List.getD lx 0 0)) ||| ((UInt8.toUInt32 (List.getD lx 1 0)) <<< UInt32.ofNat 8)) ||| ((UInt8.toUInt32 (List.getD lx 2 0)) <<< UInt32.ofNat 16)) ||| ((UInt8.toUInt32 (List.getD lx 3 0)) <<< UInt32.ofNat 24)) : Nat) : Int)) 22 (by kernel_rfl) (by kernel_rfl) rfl ?_
      intro ac646 En647
      exact any_end (by kernel_rfl) ⟨En647.sub (by kernel_rfl), Hv628.pick [] (by kernel_rfl) (by decide)⟩
    have nd648 : ∀ (ac : Act) (wo : World) (adr20 : Addr) (had21 : ax = some adr20), Env ac 25 [(2, .int .u32 0), (6, .int .u32 ((UInt32.toNat (UInt8.toUInt32 (List.getD lx 0 0)) : Nat) : Int)), (9, .int .u8 ((UInt8.toNat (List.getD lx 1 0) : Nat) : Int)), (14, .pointer (some (Addr.add adr20 2))), (23, .int .u32 ((UInt32.toNat ((UInt8.toUInt32 (List.getD lx 3 0)) <<< UInt32.ofNat 24) : Nat) : Int))] → Ev w [] wo [] → G 9 #[true, true, true, true, true, true, true, false, false, false, true, true, false, false, false, false, true, true, true, true, true, false, false] ac wo := by
      intro ac649 wo650 adr20 had21 En651 Hv652
      refine any_from hG ?_
      refine any_pureR (d := some 10) En651 (v := .int .u32 (IntKind.wrap .u32 ((UInt8.toNat (List.getD lx 1 0) : Nat) : Int))) 7 (by kernel_rfl) (by kernel_rfl) rfl ?_
      intro ac653 En654
      rw [Go.Dbr.u8_to_u32 (a := ((UInt8.toNat (List.getD lx 1 0) : Nat) : Int)) (x := List.getD lx 1 0) rfl] at En654
      refine any_pureR (d := some 11) En654 (v := .int .u32 (IntKind.wrap .u32 (((UInt32.toNat (UInt8.toUInt32 (List.getD lx 1 0)) : Nat) : Int) * 2 ^ 8))) 8 (by kernel_rfl) (by kernel_rfl) rfl ?_
      intro ac655 En656
      rw [Go.Dbr.u32_shl (a := ((UInt32.toNat (UInt8.toUInt32 (List.getD lx 1 0)) : Nat) : Int)) (x := UInt8.toUInt32 (List.getD lx 1 0)) (n := 8) rfl (by decide)] at En656
      refine any_pureR (d := some 12) En656 (v := .int .u32 (IntKind.wrap .u32 ((BitVec.ofInt (IntKind.bits .u32) ((UInt32.toNat (UInt8.toUInt32 (List.getD lx 0 0)) : Nat) : Int) ||| BitVec.ofInt (IntKind.bits .u32) ((UInt32.toNat ((UInt8.toUInt32 (List.getD lx 1 0)) <<< UInt32.ofNat 8) : Nat) : Int)).toNat : Int))) 9 (by kernel_rfl) (by kernel_rfl) rfl ?_
      intro ac657 En658
      rw [Go.Dbr.u32_or (a := ((UInt32.toNat (UInt8.toUInt32 (List.getD lx 0 0)) : Nat) : Int)) (b := ((UInt32.toNat ((UInt8.toUInt32 (List.getD lx 1 0)) <<< UInt32.ofNat 8) : Nat) : Int)) (x := UInt8.toUInt32 (List.getD lx 0 0)) (y := (UInt8.toUInt32 (List.getD lx 1 0)) <<< UInt32.ofNat 8) rfl rfl] at En658
      refine any_at 12 (by kernel_rfl) rfl ?_
      have hb659 : 2 < List.length lx := by omega
      refine op_loadel (d := some 15) (t := 5) (ad := adr20) (ao := ax) (xs := bys lx) (j := 2) (v := .int .u8 ((UInt8.toNat (List.getD lx 2 0) : Nat) : Int)) En658 (by kernel_rfl) (ix.ev Hv652).reads had21 (bys_getD hb659) (by kernel_rfl) ?_
      intro ac660 En661
      refine any_pureR (d := some 16) En661 (v := .int .u32 (IntKind.wrap .u32 ((UInt8.toNat (List.getD lx 2 0) : Nat) : Int))) 13 (by kernel_rfl) (by kernel_rfl) rfl ?_
      intro ac662 En663
      rw [Go.Dbr.u8_to_u32 (a := ((UInt8.toNat (List.getD lx 2 0) : Nat) : Int)) (x := List.getD lx 2 0) rfl] at En663
      refine any_pureR (d := some 17) En663 (v := .int .u32 (IntKind.wrap .u32 (((UInt32.toNat (UInt8.toUInt32 (List.getD lx 2 0)) : Nat) : Int) * 2 ^ 16))) 14 (by kernel_rfl) (by kernel_rfl) rfl ?_
      intro ac664 En665
      rw [Go.Dbr.u32_shl (a := ((UInt32.toNat (UInt8.toUInt32 (List.getD lx 2 0)) : Nat) : Int)) (x := UInt8.toUInt32 (List.getD lx 2 0)) (n := 16) rfl (by decide)] at En665
      refine any_pureR (d := some 18) En665 (v := .int .u32 (IntKind.wrap .u32 ((BitVec.ofInt (IntKind.bits .u32) ((UInt32.toNat ((UInt8.toUInt32 (List.getD lx 0 0)) ||| ((UInt8.toUInt32 (List.getD lx 1 0)) <<< UInt32.ofNat 8)) : Nat) : Int) ||| BitVec.ofInt (IntKind.bits .u32) ((UInt32.toNat ((UInt8.toUInt32 (List.getD lx 2 0)) <<< UInt32.ofNat 16) : Nat) : Int)).toNat : Int))) 15 (by kernel_rfl) (by kernel_rfl) rfl ?_
      intro ac666 En667
      rw [Go.Dbr.u32_or (a := ((UInt32.toNat ((UInt8.toUInt32 (List.getD lx 0 0)) ||| ((UInt8.toUInt32 (List.getD lx 1 0)) <<< UInt32.ofNat 8)) : Nat) : Int)) (b := ((UInt32.toNat ((UInt8.toUInt32 (List.getD lx 2 0)) <<< UInt32.ofNat 16) : Nat) : Int)) (x := (UInt8.toUInt32 (List.getD lx 0 0)) ||| ((UInt8.toUInt32 (List.getD lx 1 0)) <<< UInt32.ofNat 8)) (y := (UInt8.toUInt32 (List.getD lx 2 0)) <<< UInt32.ofNat 16) rfl rfl] at En667
      refine any_pureR (d := some 24) En667 (v := .int .u32 (IntKind.wrap .u32 ((BitVec.ofInt (IntKind.bits .u32) ((UInt32.toNat (((UInt8.toUInt32 (List.getD lx 0 0)) ||| ((UInt8.toUInt32 (List.getD lx 1 0)) <<< UInt32.ofNat 8)) ||| ((UInt8.toUInt32 (List.getD lx 2 0)) <<< UInt32.ofNat 16)) : Nat) : Int) ||| BitVec.ofInt (IntKind.bits .u32) ((UInt32.toNat ((UInt8.toUInt32 (List.getD lx 3 0)) <<< UInt32.ofNat 24) : Nat) : Int)).toNat : Int))) 21 (by kernel_rfl) (by kernel_rfl) rfl ?_
      intro ac668 En669
      rw [Go.Dbr.u32_or (a := ((UInt32.toNat (((UInt8.toUInt32 (List.getD lx 0 0)) ||| ((UInt8.toUInt32 (List.getD lx 1 0)) <<< UInt32.ofNat 8)) ||| ((UInt8.toUInt32 (List.getD lx 2 0)) <<< UInt32.ofNat 16)) : Nat) : Int)) (b := ((UInt32.toNat ((UInt8.toUInt32 (List.getD lx 3 0)) <<< UInt32.ofNat 24) : Nat) : Int)) (x := ((UInt8.toUInt32 (List.getD lx 0 0)) ||| ((UInt8.toUInt32 (List.getD lx 1 0)) <<< UInt32.ofNat 8)) ||| ((UInt8.toUInt32 (List.getD lx 2 0)) <<< UInt32.ofNat 16)) (y := (UInt8.toUInt32 (List.getD lx 3 0)) <<< UInt32.ofNat 24) rfl rfl] at En669
      refine any_pureR (d := some 2) En669 (v := .int .u32 ((UInt32.toNat ((((UInt8.toUInt32 (List.getD lx 0 0)) ||| ((UInt8.toUInt32 (List.getD lx 1 0)) <<< UInt32.ofNat 8)) ||| ((UInt8.toUInt32 (List.getD lx 2 0)) <<< UInt32.ofNat 16)) ||| ((UInt8.toUInt32 (List.getD lx 3 0)) <<< UInt32.ofNat 24)) : Nat) : Int)) 22 (by kernel_rfl) (by kernel_rfl) rfl ?_
      intro ac670 En671
      exact any_end (by kernel_rfl) ⟨En671.sub (by kernel_rfl), Hv652.pick [] (by kernel_rfl) (by decide)⟩
    have nd672 : ∀ (ac : Act) (wo : World) (adr13 : Addr) (had14 : ax = some adr13), Env ac 25 [(2, .int .u32 0), (6, .int .u32 ((UInt32.toNat (UInt8.toUInt32 (List.getD lx 0 0)) : Nat) : Int)), (8, .pointer (some (Addr.add adr13 1))), (15, .int .u8 ((UInt8.toNat (List.getD lx 2 0) : Nat) : Int)), (23, .int .u32 ((UInt32.toNat ((UInt8.toUInt32 (List.getD lx 3 0)) <<< UInt32.ofNat 24) : Nat) : Int))] → Ev w [] wo [] → G 9 #[true, true, true, true, true, true, false, false, false, false, true, true, true, false, false, false, true, true, true, true, true, false, false] ac wo := by
      intro ac673 wo674 adr13 had14 En675 Hv676
      refine any_from hG ?_
      refine any_pureR (d := some 16) En675 (v := .int .u32 (IntKind.wrap .u32 ((UInt8.toNat (List.getD lx 2 0) : Nat) : Int))) 13 (by kernel_rfl) (by kernel_rfl) rfl ?_
      intro ac677 En678
      rw [Go.Dbr.u8_to_u32 (a := ((UInt8.toNat (List.getD lx 2 0) : Nat) : Int)) (x := List.getD lx 2 0) rfl] at En678
      refine any_pureR (d := some 17) En678 (v := .int .u32 (IntKind.wrap .u32 (((UInt32.toNat (UInt8.toUInt32 (List.getD lx 2 0)) : Nat) : Int) * 2 ^ 16))) 14 (by kernel_rfl) (by kernel_rfl) rfl ?_
      intro ac679 En680
      rw [Go.Dbr.u32_shl (a := ((UInt32.toNat (UInt8.toUInt32 (List.getD lx 2 0)) : Nat) : Int)) (x := UInt8.toUInt32 (List.getD lx 2 0)) (n := 16) rfl (by decide)] at En680
      refine any_at 6 (by kernel_rfl) rfl ?_
      have hb681 : 1 < List.length lx := by omega
      refine op_loadel (d := some 9) (t := 5) (ad := adr13) (ao := ax) (xs := bys lx) (j := 1) (v := .int .u8 ((UInt8.toNat (List.getD lx 1 0) : Nat) : Int)) En680 (by kernel_rfl) (ix.ev Hv676).reads had14 (bys_getD hb681) (by kernel_rfl) ?_
      intro ac682 En683
      refine any_pureR (d := some 10) En683 (v := .int .u32 (IntKind.wrap .u32 ((UInt8.toNat (List.getD lx 1 0) : Nat) : Int))) 7 (by kernel_rfl) (by kernel_rfl) rfl ?_
      intro ac684 En685
      rw [Go.Dbr.u8_to_u32 (a := ((UInt8.toNat (List.getD lx 1 0) : Nat) : Int)) (x := List.getD lx 1 0) rfl] at En685
      refine any_pureR (d := some 11) En685 (v := .int .u32 (IntKind.wrap .u32 (((UInt32.toNat (UInt8.toUInt32 (List.getD lx 1 0)) : Nat) : Int) * 2 ^ 8))) 8 (by kernel_rfl) (by kernel_rfl) rfl ?_
      intro ac686 En687
      rw [Go.Dbr.u32_shl (a := ((UInt32.toNat (UInt8.toUInt32 (List.getD lx 1 0)) : Nat) : Int)) (x := UInt8.toUInt32 (List.getD lx 1 0)) (n := 8) rfl (by decide)] at En687
      refine any_pureR (d := some 12) En687 (v := .int .u32 (IntKind.wrap .u32 ((BitVec.ofInt (IntKind.bits .u32) ((UInt32.toNat (UInt8.toUInt32 (List.getD lx 0 0)) : Nat) : Int) ||| BitVec.ofInt (IntKind.bits .u32) ((UInt32.toNat ((UInt8.toUInt32 (List.getD lx 1 0)) <<< UInt32.ofNat 8) : Nat) : Int)).toNat : Int))) 9 (by kernel_rfl) (by kernel_rfl) rfl ?_
      intro ac688 En689
      rw [Go.Dbr.u32_or (a := ((UInt32.toNat (UInt8.toUInt32 (List.getD lx 0 0)) : Nat) : Int)) (b := ((UInt32.toNat ((UInt8.toUInt32 (List.getD lx 1 0)) <<< UInt32.ofNat 8) : Nat) : Int)) (x := UInt8.toUInt32 (List.getD lx 0 0)) (y := (UInt8.toUInt32 (List.getD lx 1 0)) <<< UInt32.ofNat 8) rfl rfl] at En689
      refine any_pureR (d := some 18) En689 (v := .int .u32 (IntKind.wrap .u32 ((BitVec.ofInt (IntKind.bits .u32) ((UInt32.toNat ((UInt8.toUInt32 (List.getD lx 0 0)) ||| ((UInt8.toUInt32 (List.getD lx 1 0)) <<< UInt32.ofNat 8)) : Nat) : Int) ||| BitVec.ofInt (IntKind.bits .u32) ((UInt32.toNat ((UInt8.toUInt32 (List.getD lx 2 0)) <<< UInt32.ofNat 16) : Nat) : Int)).toNat : Int))) 15 (by kernel_rfl) (by kernel_rfl) rfl ?_
      intro ac690 En691
      rw [Go.Dbr.u32_or (a := ((UInt32.toNat ((UInt8.toUInt32 (List.getD lx 0 0)) ||| ((UInt8.toUInt32 (List.getD lx 1 0)) <<< UInt32.ofNat 8)) : Nat) : Int)) (b := ((UInt32.toNat ((UInt8.toUInt32 (List.getD lx 2 0)) <<< UInt32.ofNat 16) : Nat) : Int)) (x := (UInt8.toUInt32 (List.getD lx 0 0)) ||| ((UInt8.toUInt32 (List.getD lx 1 0)) <<< UInt32.ofNat 8)) (y := (UInt8.toUInt32 (List.getD lx 2 0)) <<< UInt32.ofNat 16) rfl rfl] at En691
      refine any_pureR (d := some 24) En691 (v := .int .u32 (IntKind.wrap .u32 ((BitVec.ofInt (IntKind.bits .u32) ((UInt32.toNat (((UInt8.toUInt32 (List.getD lx 0 0)) ||| ((UInt8.toUInt32 (List.getD lx 1 0)) <<< UInt32.ofNat 8)) ||| ((UInt8.toUInt32 (List.getD lx 2 0)) <<< UInt32.ofNat 16)) : Nat) : Int) ||| BitVec.ofInt (IntKind.bits .u32) ((UInt32.toNat ((UInt8.toUInt32 (List.getD lx 3 0)) <<< UInt32.ofNat 24) : Nat) : Int)).toNat : Int))) 21 (by kernel_rfl) (by kernel_rfl) rfl ?_
      intro ac692 En693
      rw [Go.Dbr.u32_or (a := ((UInt32.toNat (((UInt8.toUInt32 (List.getD lx 0 0)) ||| ((UInt8.toUInt32 (List.getD lx 1 0)) <<< UInt32.ofNat 8)) ||| ((UInt8.toUInt32 (List.getD lx 2 0)) <<< UInt32.ofNat 16)) : Nat) : Int)) (b := ((UInt32.toNat ((UInt8.toUInt32 (List.getD lx 3 0)) <<< UInt32.ofNat 24) : Nat) : Int)) (x := ((UInt8.toUInt32 (List.getD lx 0 0)) ||| ((UInt8.toUInt32 (List.getD lx 1 0)) <<< UInt32.ofNat 8)) ||| ((UInt8.toUInt32 (List.getD lx 2 0)) <<< UInt32.ofNat 16)) (y := (UInt8.toUInt32 (List.getD lx 3 0)) <<< UInt32.ofNat 24) rfl rfl] at En693
      refine any_pureR (d := some 2) En693 (v := .int .u32 ((UInt32.toNat ((((UInt8.toUInt32 (List.getD lx 0 0)) ||| ((UInt8.toUInt32 (List.getD lx 1 0)) <<< UInt32.ofNat 8)) ||| ((UInt8.toUInt32 (List.getD lx 2 0)) <<< UInt32.ofNat 16)) ||| ((UInt8.toUInt32 (List.getD lx 3 0)) <<< UInt32.ofNat 24)) : Nat) : Int)) 22 (by kernel_rfl) (by kernel_rfl) rfl ?_
      intro ac694 En695
      exact any_end (by kernel_rfl) ⟨En695.sub (by kernel_rfl), Hv676.pick [] (by kernel_rfl) (by decide)⟩
    have nd696 : ∀ (ac : Act) (wo : World) (adr20 : Addr) (adr27 : Addr) (had21 : ax = some adr20) (had28 : ax = some adr27), Env ac 25 [(2, .int .u32 0), (5, .int .u8 ((UInt8.toNat (List.getD lx 0 0) : Nat) : Int)), (11, .int .u32 ((UInt32.toNat ((UInt8.toUInt32 (List.getD lx 1 0)) <<< UInt32.ofNat 8) : Nat) : Int)), (14, .pointer (some (Addr.add adr20 2))), (20, .pointer (some (Addr.add adr27 3)))] → Ev w [] wo [] → G 11 #[true, true, true, false, true, true, true, true, true, false, true, true, false, false, false, false, true, true, false, false, false, false, false] ac wo := by
      intro ac697 wo698 adr20 adr27 had21 had28 En699 Hv700
      refine any_from hG ?_
      refine any_pureR (d := some 6) En699 (v := .int .u32 (IntKind.wrap .u32 ((UInt8.toNat (List.getD lx 0 0) : Nat) : Int))) 3 (by kernel_rfl) (by kernel_rfl) rfl ?_
      intro ac701 En702
      rw [Go.Dbr.u8_to_u32 (a := ((UInt8.toNat (List.getD lx 0 0) : Nat) : Int)) (x := List.getD lx 0 0) rfl] at En702
      refine any_pureR (d := some 12) En702 (v := .int .u32 (IntKind.wrap .u32 ((BitVec.ofInt (IntKind.bits .u32) ((UInt32.toNat (UInt8.toUInt32 (List.getD lx 0 0)) : Nat) : Int) ||| BitVec.ofInt (IntKind.bits .u32) ((UInt32.toNat ((UInt8.toUInt32 (List.getD lx 1 0)) <<< UInt32.ofNat 8) : Nat) : Int)).toNat : Int))) 9 (by kernel_rfl) (by kernel_rfl) rfl ?_
      intro ac703 En704
      rw [Go.Dbr.u32_or (a := ((UInt32.toNat (UInt8.toUInt32 (List.getD lx 0 0)) : Nat) : Int)) (b := ((UInt32.toNat ((UInt8.toUInt32 (List.getD lx 1 0)) <<< UInt32.ofNat 8) : Nat) : Int)) (x := UInt8.toUInt32 (List.getD lx 0 0)) (y := (UInt8.toUInt32 (List.getD lx 1 0)) <<< UInt32.ofNat 8) rfl rfl] at En704
      refine any_two 12 18 (by kernel_rfl) ?_ ?_
      · rintro _ rfl
        have hb705 : 2 < List.length lx := by omega
        refine op_loadel (d := some 15) (t := 5) (ad := adr20) (ao := ax) (xs := bys lx) (j := 2) (v := .int .u8 ((UInt8.toNat (List.getD lx 2 0) : Nat) : Int)) En704 (by kernel_rfl) (ix.ev Hv700).reads had21 (bys_getD hb705) (by kernel_rfl) ?_
        intro ac706 En707
        exact any_to hG (by kernel_rfl) (nd424 _ _ adr27 had28 (En707.sub (by kernel_rfl)) (Hv700.pick [] (by kernel_rfl) (by decide)))
      · rintro _ rfl
        have hb708 : 3 < List.length lx := by omega
        refine op_loadel (d := some 21) (t := 5) (ad := adr27) (ao := ax) (xs := bys lx) (j := 3) (v := .int .u8 ((UInt8.toNat (List.getD lx 3 0) : Nat) : Int)) En704 (by kernel_rfl) (ix.ev Hv700).reads had28 (bys_getD hb708) (by kernel_rfl) ?_
        intro ac709 En710
        exact any_to hG (by kernel_rfl) (nd446 _ _ adr20 had21 (En710.sub (by kernel_rfl)) (Hv700.pick [] (by kernel_rfl) (by decide)))
    have nd711 : ∀ (ac : Act) (wo : World) (adr6 : Addr) (adr27 : Addr) (had7 : ax = some adr6) (had28 : ax = some adr27), Env ac 25 [(2, .int .u32 0), (4, .pointer (some (Addr.add adr6 0))), (11, .int .u32 ((UInt32.toNat ((UInt8.toUInt32 (List.getD lx 1 0)) <<< UInt32.ofNat 8) : Nat) : Int)), (15, .int .u8 ((UInt8.toNat (List.getD lx 2 0) : Nat) : Int)), (20, .pointer (some (Addr.add adr27 3)))] → Ev w [] wo [] → G 11 #[true, true, false, false, true, true, true, true, true, false, true, true, true, false, false, false, true, true, false, false, false, false, false] ac wo := by
      intro ac712 wo713 adr6 adr27 had7 had28 En714 Hv715
      refine any_from hG ?_
      refine any_pureR (d := some 16) En714 (v := .int .u32 (IntKind.wrap .u32 ((UInt8.toNat (List.getD lx 2 0) : Nat) : Int))) 13 (by kernel_rfl) (by kernel_rfl) rfl ?_
      intro ac716 En717
      rw [Go.Dbr.u8_to_u32 (a := ((UInt8.toNat (List.getD lx 2 0) : Nat) : Int)) (x := List.getD lx 2 0) rfl] at En717
      refine any_pureR (d := some 17) En717 (v := .int .u32 (IntKind.wrap .u32 (((UInt32.toNat (UInt8.toUInt32 (List.getD lx 2 0)) : Nat) : Int) * 2 ^ 16))) 14 (by kernel_rfl) (by kernel_rfl) rfl ?_
      intro ac718 En719
      rw [Go.Dbr.u32_shl (a := ((UInt32.toNat (UInt8.toUInt32 (List.getD lx 2 0)) : Nat) : Int)) (x := UInt8.toUInt32 (List.getD lx 2 0)) (n := 16) rfl (by decide)] at En719
      refine any_two 2 18 (by kernel_rfl) ?_ ?_
      · rintro _ rfl
        have hb720 : 0 < List.length lx := by omega
        refine op_loadel (d := some 5) (t := 5) (ad := adr6) (ao := ax) (xs := bys lx) (j := 0) (v := .int .u8 ((UInt8.toNat (List.getD lx 0 0) : Nat) : Int)) En719 (by kernel_rfl) (ix.ev Hv715).reads had7 (bys_getD hb720) (by kernel_rfl) ?_
        intro ac721 En722
        exact any_to hG (by kernel_rfl) (nd468 _ _ adr27 had28 (En722.sub (by kernel_rfl)) (Hv715.pick [] (by kernel_rfl) (by decide)))
      · rintro _ rfl
        have hb723 : 3 < List.length lx := by omega
        refine op_loadel (d := some 21) (t := 5) (ad := adr27) (ao := ax) (xs := bys lx) (j := 3) (v := .int .u8 ((UInt8.toNat (List.getD lx 3 0) : Nat) : Int)) En719 (by kernel_rfl) (ix.ev Hv715).reads had28 (bys_getD hb723) (by kernel_rfl) ?_
        intro ac724 En725
        exact any_to hG (by kernel_rfl) (nd490 _ _ adr6 had7 (En725.sub (by kernel_rfl)) (Hv715.pick [] (by kernel_rfl) (by decide)))
    have nd726 : ∀ (ac : Act) (wo : World) (adr6 : Addr) (adr20 : Addr) (had7 : ax = some adr6) (had21 : ax = some adr20), Env ac 25 [(2, .int .u32 0), (4, .pointer (some (Addr.add adr6 0))), (11, .int .u32 ((UInt32.toNat ((UInt8.toUInt32 (List.getD lx 1 0)) <<< UInt32.ofNat 8) : Nat) : Int)), (14, .pointer (some (Addr.add adr20 2))), (21, .int .u8 ((UInt8.toNat (List.getD lx 3 0) : Nat) : Int))] → Ev w [] wo [] → G 11 #[true, true, false, false, true, true, true, true, true, false, true, true, false, false, false, false, true, true, true, false, false, false, false] ac wo := by
      intro ac727 wo728 adr6 adr20 had7 had21 En729 Hv730
      refine any_from hG ?_
      refine any_pureR (d := some 22) En729 (v := .int .u32 (IntKind.wrap .u32 ((UInt8.toNat (List.getD lx 3 0) : Nat) : Int))) 19 (by kernel_rfl) (by kernel_rfl) rfl ?_
      intro ac731 En732
      rw [Go.Dbr.u8_to_u32 (a := ((UInt8.toNat (List.getD lx 3 0) : Nat) : Int)) (x := List.getD lx 3 0) rfl] at En732
      refine any_pureR (d := some 23) En732 (v := .int .u32 (IntKind.wrap .u32 (((UInt32.toNat (UInt8.toUInt32 (List.getD lx 3 0)) : Nat) : Int) * 2 ^ 24))) 20 (by kernel_rfl) (by kernel_rfl) rfl ?_
      intro ac733 En734
      rw [Go.Dbr.u32_shl (a := ((UInt32.toNat (UInt8.toUInt32 (List.getD lx 3 0)) : Nat) : Int)) (x := UInt8.toUInt32 (List.getD lx 3 0)) (n := 24) rfl (by decide)] at En734
      refine any_two 2 12 (by kernel_rfl) ?_ ?_
      · rintro _ rfl
        have hb735 : 0 < List.length lx := by omega
        refine op_loadel (d := some 5) (t := 5) (ad := adr6) (ao := ax) (xs := bys lx) (j := 0) (v := .int .u8 ((UInt8.toNat (List.getD lx 0 0) : Nat) : Int)) En734 (by kernel_rfl) (ix.ev Hv730).reads had7 (bys_getD hb735) (by kernel_rfl) ?_
        intro ac736 En737
        exact any_to hG (by kernel_rfl) (nd512 _ _ adr20 had21 (En737.sub (by kernel_rfl)) (Hv730.pick [] (by kernel_rfl) (by decide)))
      · rintro _ rfl
        have hb738 : 2 < List.length lx := by omega
        refine op_loadel (d := some 15) (t := 5) (ad := adr20) (ao := ax) (xs := bys lx) (j := 2) (v := .int .u8 ((UInt8.toNat (List.getD lx 2 0) : Nat) : Int)) En734 (by kernel_rfl) (ix.ev Hv730).reads had21 (bys_getD hb738) (by kernel_rfl) ?_
        intro ac739 En740
        exact any_to hG (by kernel_rfl) (nd534 _ _ adr6 had7 (En740.sub (by kernel_rfl)) (Hv730.pick [] (by kernel_rfl) (by decide)))
    have nd741 : ∀ (ac : Act) (wo : World) (adr13 : Addr) (adr27 : Addr) (had14 : ax = some adr13) (had28 : ax = some adr27), Env ac 25 [(2, .int .u32 0), (5, .int .u8 ((UInt8.toNat (List.getD lx 0 0) : Nat) : Int)), (8, .pointer (some (Addr.add adr13 1))), (17, .int .u32 ((UInt32.toNat ((UInt8.toUInt32 (List.getD lx 2 0)) <<< UInt32.ofNat 16) : Nat) : Int)), (20, .pointer (some (Addr.add adr27 3)))] → Ev w [] wo [] → G 11 #[true, true, true, false, true, true, false, false, false, false, true, true, true, true, true, false, true, true, false, false, false, false, false] ac wo := by
      intro ac742 wo743 adr13 adr27 had14 had28 En744 Hv745
      refine any_from hG ?_
      refine any_pureR (d := some 6) En744 (v := .int .u32 (IntKind.wrap .u32 ((UInt8.toNat (List.getD lx 0 0) : Nat) : Int))) 3 (by kernel_rfl) (by kernel_rfl) rfl ?_
      intro ac746 En747
      rw [Go.Dbr.u8_to_u32 (a := ((UInt8.toNat (List.getD lx 0 0) : Nat) : Int)) (x := List.getD lx 0 0) rfl] at En747
      refine any_two 6 18 (by kernel_rfl) ?_ ?_
      · rintro _ rfl
        have hb748 : 1 < List.length lx := by omega
        refine op_loadel (d := some 9) (t := 5) (ad := adr13) (ao := ax) (xs := bys lx) (j := 1) (v := .int .u8 ((UInt8.toNat (List.getD lx 1 0) : Nat) : Int)) En747 (by kernel_rfl) (ix.ev Hv745).reads had14 (bys_getD hb748) (by kernel_rfl) ?_
        intro ac749 En750
        exact any_to hG (by kernel_rfl) (nd600 _ _ adr27 had28 (En750.sub (by kernel_rfl)) (Hv745.pick [] (by kernel_rfl) (by decide)))
      · rintro _ rfl
        have hb751 : 3 < List.length lx := by omega
        refine op_loadel (d := some 21) (t := 5) (ad := adr27) (ao := ax) (xs := bys lx) (j := 3) (v := .int .u8 ((UInt8.toNat (List.getD lx 3 0) : Nat) : Int)) En747 (by kernel_rfl) (ix.ev Hv745).reads had28 (bys_getD hb751) (by kernel_rfl) ?_
        intro ac752 En753
        exact any_to hG (by kernel_rfl) (nd624 _ _ adr13 had14 (En753.sub (by kernel_rfl)) (Hv745.pick [] (by kernel_rfl) (by decide)))
    have nd754 : ∀ (ac : Act) (wo : World) (adr6 : Addr) (adr27 : Addr) (had7 : ax = some adr6) (had28 : ax = some adr27), Env ac 25 [(2, .int .u32 0), (4, .pointer (some (Addr.add adr6 0))), (9, .int .u8 ((UInt8.toNat (List.getD lx 1 0) : Nat) : Int)), (17, .int .u32 ((UInt32.toNat ((UInt8.toUInt32 (List.getD lx 2 0)) <<< UInt32.ofNat 16) : Nat) : Int)), (20, .pointer (some (Addr.add adr27 3)))] → Ev w [] wo [] → G 11 #[true, true, false, false, true, true, true, false, false, false, true, true, true, true, true, false, true, true, false, false, false, false, false] ac wo := by
      intro ac755 wo756 adr6 adr27 had7 had28 En757 Hv758
      refine any_from hG ?_
      refine any_pureR (d := some 10) En757 (v := .int .u32 (IntKind.wrap .u32 ((UInt8.toNat (List.getD lx 1 0) : Nat) : Int))) 7 (by kernel_rfl) (by kernel_rfl) rfl ?_
      intro ac759 En760
      rw [Go.Dbr.u8_to_u32 (a := ((UInt8.toNat (List.getD lx 1 0) : Nat) : Int)) (x := List.getD lx 1 0) rfl] at En760
      refine any_pureR (d := some 11) En760 (v := .int .u32 (IntKind.wrap .u32 (((UInt32.toNat (UInt8.toUInt32 (List.getD lx 1 0)) : Nat) : Int) * 2 ^ 8))) 8 (by kernel_rfl) (by kernel_rfl) rfl ?_
      intro ac761 En762
      rw [Go.Dbr.u32_shl (a := ((UInt32.toNat (UInt8.toUInt32 (List.getD lx 1 0)) : Nat) : Int)) (x := UInt8.toUInt32 (List.getD lx 1 0)) (n := 8) rfl (by decide)] at En762
      refine any_two 2 18 (by kernel_rfl) ?_ ?_
      · rintro _ rfl
        have hb763 : 0 < List.length lx := by omega
        refine op_loadel (d := some 5) (t := 5) (ad := adr6) (ao := ax) (xs := bys lx) (j := 0) (v := .int .u8 ((UInt8.toNat (List.getD lx 0 0) : Nat) : Int)) En762 (by kernel_rfl) (ix.ev Hv758).reads had7 (bys_getD hb763) (by kernel_rfl) ?_
        intro ac764 En765
        exact any_to hG (by kernel_rfl) (nd468 _ _ adr27 had28 (En765.sub (by kernel_rfl)) (Hv758.pick [] (by kernel_rfl) (by decide)))
      · rintro _ rfl
        have hb766 : 3 < List.length lx := by omega
        refine op_loadel (d := some 21) (t := 5) (ad := adr27) (ao := ax) (xs := bys lx) (j := 3) (v := .int .u8 ((UInt8.toNat (List.getD lx 3 0) : Nat) : Int)) En762 (by kernel_rfl) (ix.ev Hv758).reads had28 (bys_getD hb766) (by kernel_rfl) ?_
        intro ac767 En768
        exact any_to hG (by kernel_rfl) (nd490 _ _ adr6 had7 (En768.sub (by kernel_rfl)) (Hv758.pick [] (by kernel_rfl) (by decide)))
    have nd769 : ∀ (ac : Act) (wo : World) (adr6 : Addr) (adr13 : Addr) (had7 : ax = some adr6) (had14 : ax = some adr13), Env ac 25 [(2, .int .u32 0), (4, .pointer (some (Addr.add adr6 0))), (8, .pointer (some (Addr.add adr13 1))), (17, .int .u32 ((UInt32.toNat ((UInt8.toUInt32 (List.getD lx 2 0)) <<< UInt32.ofNat 16) : Nat) : Int)), (21, .int .u8 ((UInt8.toNat (List.getD lx 3 0) : Nat) : Int))] → Ev w [] wo [] → G 11 #[true, true, false, false, true, true, false, false, false, false, true, true, true, true, true, false, true, true, true, false, false, false, false] ac wo := by
      intro ac770 wo771 adr6 adr13 had7 had14 En772 Hv773
      refine any_from hG ?_
      refine any_pureR (d := some 22) En772 (v := .int .u32 (IntKind.wrap .u32 ((UInt8.toNat (List.getD lx 3 0) : Nat) : Int))) 19 (by kernel_rfl) (by kernel_rfl) rfl ?_
      intro ac774 En775
      rw [Go.Dbr.u8_to_u32 (a := ((UInt8.toNat (List.getD lx 3 0) : Nat) : Int)) (x := List.getD lx 3 0) rfl] at En775
      refine any_pureR (d := some 23) En775 (v := .int .u32 (IntKind.wrap .u32 (((UInt32.toNat (UInt8.toUInt32 (List.getD lx 3 0)) : Nat) : Int) * 2 ^ 24))) 20 (by kernel_rfl) (by kernel_rfl) rfl ?_
      intro ac776 En777
      rw [Go.Dbr.u32_shl (a := ((UInt32.toNat (UInt8.toUInt32 (List.getD lx 3 0)) : Nat) : Int)) (x := UInt8.toUInt32 (List.getD lx 3 0)) (n := 24) rfl (by decide)] at En777
      refine any_two 2 6 (by kernel_rfl) ?_ ?_
      · rintro _ rfl
        have hb778 : 0 < List.length lx := by omega
        refine op_loadel (d := some 5) (t := 5) (ad := adr6) (ao := ax) (xs := bys lx) (j := 0) (v := .int .u8 ((UInt8.toNat (List.getD lx 0 0) : Nat) : Int)) En777 (by kernel_rfl) (ix.ev Hv773).reads had7 (bys_getD hb778) (by kernel_rfl) ?_
        intro ac779 En780
        exact any_to hG (by kernel_rfl) (nd556 _ _ adr13 had14 (En780.sub (by kernel_rfl)) (Hv773.pick [] (by kernel_rfl) (by decide)))
      · rintro _ rfl
        have hb781 : 1 < List.length lx := by omega
        refine op_loadel (d := some 9) (t := 5) (ad := adr13) (ao := ax) (xs := bys lx) (j := 1) (v := .int .u8 ((UInt8.toNat (List.getD lx 1 0) : Nat) : Int)) En777 (by kernel_rfl) (ix.ev Hv773).reads had14 (bys_getD hb781) (by kernel_rfl) ?_
        intro ac782 En783
        exact any_to hG (by kernel_rfl) (nd578 _ _ adr6 had7 (En783.sub (by kernel_rfl)) (Hv773.pick [] (by kernel_rfl) (by decide)))
    have nd784 : ∀ (ac : Act) (wo : World) (adr13 : Addr) (adr20 : Addr) (had14 : ax = some adr13) (had21 : ax = some adr20), Env ac 25 [(2, .int .u32 0), (5, .int .u8 ((UInt8.toNat (List.getD lx 0 0) : Nat) : Int)), (8, .pointer (some (Addr.add adr13 1))), (14, .pointer (some (Addr.add adr20 2))), (23, .int .u32 ((UInt32.toNat ((UInt8.toUInt32 (List.getD lx 3 0)) <<< UInt32.ofNat 24) : Nat) : Int))] → Ev w [] wo [] → G 11 #[true, true, true, false, true, true, false, false, false, false, true, true, false, false, false, false, true, true, true, true, true, false, false] ac wo := by
      intro ac785 wo786 adr13 adr20 had14 had21 En787 Hv788
      refine any_from hG ?_
      refine any_pureR (d := some 6) En787 (v := .int .u32 (IntKind.wrap .u32 ((UInt8.toNat (List.getD lx 0 0) : Nat) : Int))) 3 (by kernel_rfl) (by kernel_rfl) rfl ?_
      intro ac789 En790
      rw [Go.Dbr.u8_to_u32 (a := ((UInt8.toNat (List.getD lx 0 0) : Nat) : Int)) (x := List.getD lx 0 0) rfl] at En790
      refine any_two 6 12 (by kernel_rfl) ?_ ?_
      · rintro _ rfl
        have hb791 : 1 < List.length lx := by omega
        refine op_loadel (d := some 9) (t := 5) (ad := adr13) (ao := ax) (xs := bys lx) (j := 1) (v := .int .u8 ((UInt8.toNat (List.getD lx 1 0) : Nat) : Int)) En790 (by kernel_rfl) (ix.ev Hv788).reads had14 (bys_getD hb791) (by kernel_rfl) ?_
        intro ac792 En793
        exact any_to hG (by kernel_rfl) (nd648 _ _ adr20 had21 (En793.sub (by kernel_rfl)) (Hv788.pick [] (by kernel_rfl) (by decide)))
      · rintro _ rfl
        have hb794 : 2 < List.length lx := by omega
        refine op_loadel (d := some 15) (t := 5) (ad := adr20) (ao := ax) (xs := bys lx) (j := 2) (v := .int .u8 ((UInt8.toNat (List.getD lx 2 0) : Nat) : Int)) En790 (by kernel_rfl) (ix.ev Hv788).reads had21 (bys_getD hb794) (by kernel_rfl) ?_
        intro ac795 En796
        exact any_to hG (by kernel_rfl) (nd672 _ _ adr13 had14 (En796.sub (by kernel_rfl)) (Hv788.pick [] (by kernel_rfl) (by decide)))
    have nd797 : ∀ (ac : Act) (wo : World) (adr6 : Addr) (adr20 : Addr) (had7 : ax = some adr6) (had21 : ax = some adr20), Env ac 25 [(2, .int .u32 0), (4, .pointer (some (Addr.add adr6 0))), (9, .int .u8 ((UInt8.toNat (List.getD lx 1 0) : Nat) : Int)), (14, .pointer (some (Addr.add adr20 2))), (23, .int .u32 ((UInt32.toNat ((UInt8.toUInt32 (List.getD lx 3 0)) <<< UInt32.ofNat 24) : Nat) : Int))] → Ev w [] wo [] → G 11 #[true, true, false, false, true, true, true, false, false, false, true, true, false, false, false, false, true, true, true, true, true, false, false] ac wo := by
      intro ac798 wo799 adr6 adr20 had7 had21 En800 Hv801
      refine any_from hG ?_
      refine any_pureR (d := some 10) En800 (v := .int .u32 (IntKind.wrap .u32 ((UInt8.toNat (List.getD lx 1 0) : Nat) : Int))) 7 (by kernel_rfl) (by kernel_rfl) rfl ?_
      intro ac802 En803
      rw [Go.Dbr.u8_to_u32 (a := ((UInt8.toNat (List.getD lx 1 0) : Nat) : Int)) (x := List.getD lx 1 0) rfl] at En803
      refine any_pureR (d := some 11) En803 (v := .int .u32 (IntKind.wrap .u32 (((UInt32.toNat (UInt8.toUInt32 (List.getD lx 1 0)) : Nat) : Int) * 2 ^ 8))) 8 (by kernel_rfl) (by kernel_rfl) rfl ?_
      intro ac804 En805
      rw [Go.Dbr.u32_shl (a := ((UInt32.toNat (UInt8.toUInt32 (List.getD lx 1 0)) : Nat) : Int)) (x := UInt8.toUInt32 (List.getD lx 1 0)) (n := 8) rfl (by decide)] at En805
      refine any_two 2 12 (by kernel_rfl) ?_ ?_
      · rintro _ rfl
        have hb806 : 0 < List.length lx := by omega
        refine op_loadel (d := some 5) (t := 5) (ad := adr6) (ao := ax) (xs := bys lx) (j := 0) (v := .int .u8 ((UInt8.toNat (List.getD lx 0 0) : Nat) : Int)) En805 (by kernel_rfl) (ix.ev Hv801).reads had7 (bys_getD hb806) (by kernel_rfl) ?_
        intro ac807 En808
        exact any_to hG (by kernel_rfl) (nd512 _ _ adr20 had21 (En808.sub (by kernel_rfl)) (Hv801.pick [] (by kernel_rfl) (by decide)))
      · rintro _ rfl
        have hb809 : 2 < List.length lx := by omega
        refine op_loadel (d := some 15) (t := 5) (ad := adr20) (ao := ax) (xs := bys lx) (j := 2) (v := .int .u8 ((UInt8.toNat (List.getD lx 2 0) : Nat) : Int)) En805 (by kernel_rfl) (ix.ev Hv801).reads had21 (bys_getD hb809) (by kernel_rfl) ?_
        intro ac810 En811
        exact any_to hG (by kernel_rfl) (nd534 _ _ adr6 had7 (En811.sub (by kernel_rfl)) (Hv801.pick [] (by kernel_rfl) (by decide)))
    have nd812 : ∀ (ac : Act) (wo : World) (adr6 : Addr) (adr13 : Addr) (had7 : ax = some adr6) (had14 : ax = some adr13), Env ac 25 [(2, .int .u32 0), (4, .pointer (some (Addr.add adr6 0))), (8, .pointer (some (Addr.add adr13 1))), (15, .int .u8 ((UInt8.toNat (List.getD lx 2 0) : Nat) : Int)), (23, .int .u32 ((UInt32.toNat ((UInt8.toUInt32 (List.getD lx 3 0)) <<< UInt32.ofNat 24) : Nat) : Int))] → Ev w [] wo [] → G 11 #[true, true, false, false, true, true, false, false, false, false, true, true, true, false, false, false, true, true, true, true, true, false, false] ac wo := by
      intro ac813 wo814 adr6 adr13 had7 had14 En815 Hv816
      refine any_from hG ?_
      refine any_pureR (d := some 16) En815 (v := .int .u32 (IntKind.wrap .u32 ((UInt8.toNat (List.getD lx 2 0) : Nat) : Int))) 13 (by kernel_rfl) (by kernel_rfl) rfl ?_
      intro ac817 En818
      rw [Go.Dbr.u8_to_u32 (a := ((UInt8.toNat (List.getD lx 2 0) : Nat) : Int)) (x := List.getD lx 2 0) rfl] at En818
      refine any_pureR (d := some 17) En818 (v := .int .u32 (IntKind.wrap .u32 (((UInt32.toNat (UInt8.toUInt32 (List.getD lx 2 0)) : Nat) : Int) * 2 ^ 16))) 14 (by kernel_rfl) (by kernel_rfl) rfl ?_
      intro ac819 En820
      rw [Go.Dbr.u32_shl (a := ((UInt32.toNat (UInt8.toUInt32 (List.getD lx 2 0)) : Nat) : Int)) (x := UInt8.toUInt32 (List.getD lx 2 0)) (n := 16) rfl (by decide)] at En820
      refine any_two 2 6 (by kernel_rfl) ?_ ?_
      · rintro _ rfl
        have hb821 : 0 < List.length lx := by omega
        refine op_loadel (d := some 5) (t := 5) (ad := adr6) (ao := ax) (xs := bys lx) (j := 0) (v := .int .u8 ((UInt8.toNat (List.getD lx 0 0) : Nat) : Int)) En820 (by kernel_rfl) (ix.ev Hv816).reads had7 (bys_getD hb821) (by kernel_rfl) ?_
        intro ac822 En823
        exact any_to hG (by kernel_rfl) (nd556 _ _ adr13 had14 (En823.sub (by kernel_rfl)) (Hv816.pick [] (by kernel_rfl) (by decide)))
      · rintro _ rfl
        have hb824 : 1 < List.length lx := by omega
        refine op_loadel (d := some 9) (t := 5) (ad := adr13) (ao := ax) (xs := bys lx) (j := 1) (v := .int .u8 ((UInt8.toNat (List.getD lx 1 0) : Nat) : Int)) En820 (by kernel_rfl) (ix.ev Hv816).reads had14 (bys_getD hb824) (by kernel_rfl) ?_
        intro ac825 En826
        exact any_to hG (by kernel_rfl) (nd578 _ _ adr6 had7 (En826.sub (by kernel_rfl)) (Hv816.pick [] (by kernel_rfl) (by decide)))
    have nd827 : ∀ (ac : Act) (wo : World) (adr20 : Addr) (adr27 : Addr) (had21 : ax = some adr20) (had28 : ax = some adr27), Env ac 25 [(2, .int .u32 0), (6, .int .u32 ((UInt32.toNat (UInt8.toUInt32 (List.getD lx 0 0)) : Nat) : Int)), (9, .int .u8 ((UInt8.toNat (List.getD lx 1 0) : Nat) : Int)), (14, .pointer (some (Addr.add adr20 2))), (20, .pointer (some (Addr.add adr27 3)))] → Ev w [] wo [] → G 12 #[true, true, true, true, true, true, true, false, false, false, true, true, false, false, false, false, true, true, false, false, false, false, false] ac wo := by
      intro ac828 wo829 adr20 adr27 had21 had28 En830 Hv831
      refine any_from hG ?_
      refine any_pureR (d := some 10) En830 (v := .int .u32 (IntKind.wrap .u32 ((UInt8.toNat (List.getD lx 1 0) : Nat) : Int))) 7 (by kernel_rfl) (by kernel_rfl) rfl ?_
      intro ac832 En833
      rw [Go.Dbr.u8_to_u32 (a := ((UInt8.toNat (List.getD lx 1 0) : Nat) : Int)) (x := List.getD lx 1 0) rfl] at En833
      refine any_pureR (d := some 11) En833 (v := .int .u32 (IntKind.wrap .u32 (((UInt32.toNat (UInt8.toUInt32 (List.getD lx 1 0)) : Nat) : Int) * 2 ^ 8))) 8 (by kernel_rfl) (by kernel_rfl) rfl ?_
      intro ac834 En835
      rw [Go.Dbr.u32_shl (a := ((UInt32.toNat (UInt8.toUInt32 (List.getD lx 1 0)) : Nat) : Int)) (x := UInt8.toUInt32 (List.getD lx 1 0)) (n := 8) rfl (by decide)] at En835
      refine any_pureR (d := some 12) En835 (v := .int .u32 (IntKind.wrap .u32 ((BitVec.ofInt (IntKind.bits .u32) ((UInt32.toNat (UInt8.toUInt32 (List.getD lx 0 0)) : Nat) : Int) ||| BitVec.ofInt (IntKind.bits .u32) ((UInt32.toNat ((UInt8.toUInt32 (List.getD lx 1 0)) <<< UInt32.ofNat 8) : Nat) : Int)).toNat : Int))) 9 (by kernel_rfl) (by kernel_rfl) rfl ?_
      intro ac836 En837
      rw [Go.Dbr.u32_or (a := ((UInt32.toNat (UInt8.toUInt32 (List.getD lx 0 0)) : Nat) : Int)) (b := ((UInt32.toNat ((UInt8.toUInt32 (List.getD lx 1 0)) <<< UInt32.ofNat 8) : Nat) : Int)) (x := UInt8.toUInt32 (List.getD lx 0 0)) (y := (UInt8.toUInt32 (List.getD lx 1 0)) <<< UInt32.ofNat 8) rfl rfl] at En837
      refine any_two 12 18 (by kernel_rfl) ?_ ?_
      · rintro _ rfl
        have hb838 : 2 < List.length lx := by omega
        refine op_loadel (d := some 15) (t := 5) (ad := adr20) (ao := ax) (xs := bys lx) (j := 2) (v := .int .u8 ((UInt8.toNat (List.getD lx 2 0) : Nat) : Int)) En837 (by kernel_rfl) (ix.ev Hv831).reads had21 (bys_getD hb838) (by kernel_rfl) ?_
        intro ac839 En840
        exact any_to hG (by kernel_rfl) (nd424 _ _ adr27 had28 (En840.sub (by kernel_rfl)) (Hv831.pick [] (by kernel_rfl) (by decide)))
      · rintro _ rfl
        have hb841 : 3 < List.length lx := by omega
        refine op_loadel (d := some 21) (t := 5) (ad := adr27) (ao := ax) (xs := bys lx) (j := 3) (v := .int .u8 ((UInt8.toNat (List.getD lx 3 0) : Nat) : Int)) En837 (by kernel_rfl) (ix.ev Hv831).reads had28 (bys_getD hb841) (by kernel_rfl) ?_
        intro ac842 En843
        exact any_to hG (by kernel_rfl) (nd446 _ _ adr20 had21 (En843.sub (by kernel_rfl)) (Hv831.pick [] (by kernel_rfl) (by decide)))
    have nd844 : ∀ (ac : Act) (wo : World) (adr13 : Addr) (adr27 : Addr) (had14 : ax = some adr13) (had28 : ax = some adr27), Env ac 25 [(2, .int .u32 0), (6, .int .u32 ((UInt32.toNat (UInt8.toUInt32 (List.getD lx 0 0)) : Nat) : Int)), (8, .pointer (some (Addr.add adr13 1))), (15, .int .u8 ((UInt8.toNat (List.getD lx 2 0) : Nat) : Int)), (20, .pointer (some (Addr.add adr27 3)))] → Ev w [] wo [] → G 12 #[true, true, true, true, true, true, false, false, false, false, true, true, true, false, false, false, true, true, false, false, false, false, false] ac wo := by
      intro ac845 wo846 adr13 adr27 had14 had28 En847 Hv848
      refine any_from hG ?_
      refine any_pureR (d := some 16) En847 (v := .int .u32 (IntKind.wrap .u32 ((UInt8.toNat (List.getD lx 2 0) : Nat) : Int))) 13 (by kernel_rfl) (by kernel_rfl) rfl ?_
      intro ac849 En850
      rw [Go.Dbr.u8_to_u32 (a := ((UInt8.toNat (List.getD lx 2 0) : Nat) : Int)) (x := List.getD lx 2 0) rfl] at En850
      refine any_pureR (d := some 17) En850 (v := .int .u32 (IntKind.wrap .u32 (((UInt32.toNat (UInt8.toUInt32 (List.getD lx 2 0)) : Nat) : Int) * 2 ^ 16))) 14 (by kernel_rfl) (by kernel_rfl) rfl ?_
      intro ac851 En852
      rw [Go.Dbr.u32_shl (a := ((UInt32.toNat (UInt8.toUInt32 (List.getD lx 2 0)) : Nat) : Int)) (x := UInt8.toUInt32 (List.getD lx 2 0)) (n := 16) rfl (by decide)] at En852
      refine any_two 6 18 (by kernel_rfl) ?_ ?_
      · rintro _ rfl
        have hb853 : 1 < List.length lx := by omega
        refine op_loadel (d := some 9) (t := 5) (ad := adr13) (ao := ax) (xs := bys lx) (j := 1) (v := .int .u8 ((UInt8.toNat (List.getD lx 1 0) : Nat) : Int)) En852 (by kernel_rfl) (ix.ev Hv848).reads had14 (bys_getD hb853) (by kernel_rfl) ?_
        intro ac854 En855
        exact any_to hG (by kernel_rfl) (nd600 _ _ adr27 had28 (En855.sub (by kernel_rfl)) (Hv848.pick [] (by kernel_rfl) (by decide)))
      · rintro _ rfl
        have hb856 : 3 < List.length lx := by omega
        refine op_loadel (d := some 21) (t := 5) (ad := adr27) (ao := ax) (xs := bys lx) (j := 3) (v := .int .u8 ((UInt8.toNat (List.getD lx 3 0) : Nat) : Int)) En852 (by kernel_rfl) (ix.ev Hv848).reads had28 (bys_getD hb856) (by kernel_rfl) ?_
        intro ac857 En858
        exact any_to hG (by kernel_rfl) (nd624 _ _ adr13 had14 (En858.sub (by kernel_rfl)) (Hv848.pick [] (by kernel_rfl) (by decide)))
    have nd859 : ∀ (ac : Act) (wo : World) (adr13 : Addr) (adr20 : Addr) (had14 : ax = some adr13) (had21 : ax = some adr20), Env ac 25 [(2, .int .u32 0), (6, .int .u32 ((UInt32.toNat (UInt8.toUInt32 (List.getD lx 0 0)) : Nat) : Int)), (8, .pointer (some (Addr.add adr13 1))), (14, .pointer (some (Addr.add adr20 2))), (21, .int .u8 ((UInt8.toNat (List.getD lx 3 0) : Nat) : Int))] → Ev w [] wo [] → G 12 #[true, true, true, true, true, true, false, false, false, false, true, true, false, false, false, false, true, true, true, false, false, false, false] ac wo := by
      intro ac860 wo861 adr13 adr20 had14 had21 En862 Hv863
      refine any_from hG ?_
      refine any_pureR (d := some 22) En862 (v := .int .u32 (IntKind.wrap .u32 ((UInt8.toNat (List.getD lx 3 0) : Nat) : Int))) 19 (by kernel_rfl) (by kernel_rfl) rfl ?_
      intro ac864 En865
      rw [Go.Dbr.u8_to_u32 (a := ((UInt8.toNat (List.getD lx 3 0) : Nat) : Int)) (x := List.getD lx 3 0) rfl] at En865
      refine any_pureR (d := some 23) En865 (v := .int .u32 (IntKind.wrap .u32 (((UInt32.toNat (UInt8.toUInt32 (List.getD lx 3 0)) : Nat) : Int) * 2 ^ 24))) 20 (by kernel_rfl) (by kernel_rfl) rfl ?_
      intro ac866 En867
      rw [Go.Dbr.u32_shl (a := ((UInt32.toNat (UInt8.toUInt32 (List.getD lx 3 0)) : Nat) : Int)) (x := UInt8.toUInt32 (List.getD lx 3 0)) (n := 24) rfl (by decide)] at En867
      refine any_two 6 12 (by kernel_rfl) ?_ ?_
      · rintro _ rfl
        have hb868 : 1 < List.length lx := by omega
        refine op_loadel (d := some 9) (t := 5) (ad := adr13) (ao := ax) (xs := bys lx) (j := 1) (v := .int .u8 ((UInt8.toNat (List.getD lx 1 0) : Nat) : Int)) En867 (by kernel_rfl) (ix.ev Hv863).reads had14 (bys_getD hb868) (by kernel_rfl) ?_
        intro ac869 En870
        exact any_to hG (by kernel_rfl) (nd648 _ _ adr20 had21 (En870.sub (by kernel_rfl)) (Hv863.pick [] (by kernel_rfl) (by decide)))
      · rintro _ rfl
        have hb871 : 2 < List.length lx := by omega
        refine op_loadel (d := some 15) (t := 5) (ad := adr20) (ao := ax) (xs := bys lx) (j := 2) (v := .int .u8 ((UInt8.toNat (List.getD lx 2 0) : Nat) : Int)) En867 (by kernel_rfl) (ix.ev Hv863).reads had21 (bys_getD hb871) (by kernel_rfl) ?_
        intro ac872 En873
        exact any_to hG (by kernel_rfl) (nd672 _ _ adr13 had14 (En873.sub (by kernel_rfl)) (Hv863.pick [] (by kernel_rfl) (by decide)))
    have nd874 : ∀ (ac : Act) (wo : World) (adr13 : Addr) (adr20 : Addr) (adr27 : Addr) (had14 : ax = some adr13) (had21 : ax = some adr20) (had28 : ax = some adr27), Env ac 25 [(2, .int .u32 0), (5, .int .u8 ((UInt8.toNat (List.getD lx 0 0) : Nat) : Int)), (8, .pointer (some (Addr.add adr13 1))), (14, .pointer (some (Addr.add adr20 2))), (20, .pointer (some (Addr.add adr27 3)))] → Ev w [] wo [] → G 14 #[true, true, true, false, true, true, false, false, false, false, true, true, false, false, false, false, true, true, false, false, false, false, false] ac wo := by
      intro ac875 wo876 adr13 adr20 adr27 had14 had21 had28 En877 Hv878
      refine any_from hG ?_
      refine any_pureR (d := some 6) En877 (v := .int .u32 (IntKind.wrap .u32 ((UInt8.toNat (List.getD lx 0 0) : Nat) : Int))) 3 (by kernel_rfl) (by kernel_rfl) rfl ?_
      intro ac879 En880
      rw [Go.Dbr.u8_to_u32 (a := ((UInt8.toNat (List.getD lx 0 0) : Nat) : Int)) (x := List.getD lx 0 0) rfl] at En880
      refine any_ways [6, 12, 18] (by kernel_rfl) rfl ?_
      refine ⟨?_, ?_, ?_, trivial⟩
      · rintro _ rfl
        have hb881 : 1 < List.length lx := by omega
        refine op_loadel (d := some 9) (t := 5) (ad := adr13) (ao := ax) (xs := bys lx) (j := 1) (v := .int .u8 ((UInt8.toNat (List.getD lx 1 0) : Nat) : Int)) En880 (by kernel_rfl) (ix.ev Hv878).reads had14 (bys_getD hb881) (by kernel_rfl) ?_
        intro ac882 En883
        exact any_to hG (by kernel_rfl) (nd827 _ _ adr20 adr27 had21 had28 (En883.sub (by kernel_rfl)) (Hv878.pick [] (by kernel_rfl) (by decide)))
      · rintro _ rfl
        have hb884 : 2 < List.length lx := by omega
        refine op_loadel (d := some 15) (t := 5) (ad := adr20) (ao := ax) (xs := bys lx) (j := 2) (v := .int .u8 ((UInt8.toNat (List.getD lx 2 0) : Nat) : Int)) En880 (by kernel_rfl) (ix.ev Hv878).reads had21 (bys_getD hb884) (by kernel_rfl) ?_
        intro ac885 En886
        exact any_to hG (by kernel_rfl) (nd844 _ _ adr13 adr27 had14 had28 (En886.sub (by kernel_rfl)) (Hv878.pick [] (by kernel_rfl) (by decide)))
      · rintro _ rfl
        have hb887 : 3 < List.length lx := by omega
        refine op_loadel (d := some 21) (t := 5) (ad := adr27) (ao := ax) (xs := bys lx) (j := 3) (v := .int .u8 ((UInt8.toNat (List.getD lx 3 0) : Nat) : Int)) En880 (by kernel_rfl) (ix.ev Hv878).reads had28 (bys_getD hb887) (by kernel_rfl) ?_
        intro ac888 En889
        exact any_to hG (by kernel_rfl) (nd859 _ _ adr13 adr20 had14 had21 (En889.sub (by kernel_rfl)) (Hv878.pick [] (by kernel_rfl) (by decide)))
    have nd890 : ∀ (ac : Act) (wo : World) (adr6 : Addr) (adr20 : Addr) (adr27 : Addr) (had7 : ax = some adr6) (had21 : ax = some adr20) (had28 : ax = some adr27), Env ac 25 [(2, .int .u32 0), (4, .pointer (some (Addr.add adr6 0))), (9, .int .u8 ((UInt8.toNat (List.getD lx 1 0) : Nat) : Int)), (14, .pointer (some (Addr.add adr20 2))), (20, .pointer (some (Addr.add adr27 3)))] → Ev w [] wo [] → G 14 #[true, true, false, false, true, true, true, false, false, false, true, true, false, false, false, false, true, true, false, false, false, false, false] ac wo := by
      intro ac891 wo892 adr6 adr20 adr27 had7 had21 had28 En893 Hv894
      refine any_from hG ?_
      refine any_pureR (d := some 10) En893 (v := .int .u32 (IntKind.wrap .u32 ((UInt8.toNat (List.getD lx 1 0) : Nat) : Int))) 7 (by kernel_rfl) (by kernel_rfl) rfl ?_
      intro ac895 En896
      rw [Go.Dbr.u8_to_u32 (a := ((UInt8.toNat (List.getD lx 1 0) : Nat) : Int)) (x := List.getD lx 1 0) rfl] at En896
      refine any_pureR (d := some 11) En896 (v := .int .u32 (IntKind.wrap .u32 (((UInt32.toNat (UInt8.toUInt32 (List.getD lx 1 0)) : Nat) : Int) * 2 ^ 8))) 8 (by kernel_rfl) (by kernel_rfl) rfl ?_
      intro ac897 En898
      rw [Go.Dbr.u32_shl (a := ((UInt32.toNat (UInt8.toUInt32 (List.getD lx 1 0)) : Nat) : Int)) (x := UInt8.toUInt32 (List.getD lx 1 0)) (n := 8) rfl (by decide)] at En898
      refine any_ways [2, 12, 18] (by kernel_rfl) rfl ?_
      refine ⟨?_, ?_, ?_, trivial⟩
      · rintro _ rfl
        have hb899 : 0 < List.length lx := by omega
        refine op_loadel (d := some 5) (t := 5) (ad := adr6) (ao := ax) (xs := bys lx) (j := 0) (v := .int .u8 ((UInt8.toNat (List.getD lx 0 0) : Nat) : Int)) En898 (by kernel_rfl) (ix.ev Hv894).reads had7 (bys_getD hb899) (by kernel_rfl) ?_
        intro ac900 En901
        exact any_to hG (by kernel_rfl) (nd696 _ _ adr20 adr27 had21 had28 (En901.sub (by kernel_rfl)) (Hv894.pick [] (by kernel_rfl) (by decide)))
      · rintro _ rfl
        have hb902 : 2 < List.length lx := by omega
        refine op_loadel (d := some 15) (t := 5) (ad := adr20) (ao := ax) (xs := bys lx) (j := 2) (v := .int .u8 ((UInt8.toNat (List.getD lx 2 0) : Nat) : Int)) En898 (by kernel_rfl) (ix.ev Hv894).reads had21 (bys_getD hb902) (by kernel_rfl) ?_
        intro ac903 En904
        exact any_to hG (by kernel_rfl) (nd711 _ _ adr6 adr27 had7 had28 (En904.sub (by kernel_rfl)) (Hv894.pick [] (by kernel_rfl) (by decide)))
      · rintro _ rfl
        have hb905 : 3 < List.length lx := by omega
        refine op_loadel (d := some 21) (t := 5) (ad := adr27) (ao := ax) (xs := bys lx) (j := 3) (v := .int .u8 ((UInt8.toNat (List.getD lx 3 0) : Nat) : Int)) En898 (by kernel_rfl) (ix.ev Hv894).reads had28 (bys_getD hb905) (by kernel_rfl) ?_
        intro ac906 En907
        exact any_to hG (by kernel_rfl) (nd726 _ _ adr6 adr20 had7 had21 (En907.sub (by kernel_rfl)) (Hv894.pick [] (by kernel_rfl) (by decide)))
    have nd908 : ∀ (ac : Act) (wo : World) (adr6 : Addr) (adr13 : Addr) (adr27 : Addr) (had7 : ax = some adr6) (had14 : ax = some adr13) (had28 : ax = some adr27), Env ac 25 [(2, .int .u32 0), (4, .pointer (some (Addr.add adr6 0))), (8, .pointer (some (Addr.add adr13 1))), (15, .int .u8 ((UInt8.toNat (List.getD lx 2 0) : Nat) : Int)), (20, .pointer (some (Addr.add adr27 3)))] → Ev w [] wo [] → G 14 #[true, true, false, false, true, true, false, false, false, false, true, true, true, false, false, false, true, true, false, false, false, false, false] ac wo := by
      intro ac909 wo910 adr6 adr13 adr27 had7 had14 had28 En911 Hv912
      refine any_from hG ?_
      refine any_pureR (d := some 16) En911 (v := .int .u32 (IntKind.wrap .u32 ((UInt8.toNat (List.getD lx 2 0) : Nat) : Int))) 13 (by kernel_rfl) (by kernel_rfl) rfl ?_
      intro ac913 En914
      rw [Go.Dbr.u8_to_u32 (a := ((UInt8.toNat (List.getD lx 2 0) : Nat) : Int)) (x := List.getD lx 2 0) rfl] at En914
      refine any_pureR (d := some 17) En914 (v := .int .u32 (IntKind.wrap .u32 (((UInt32.toNat (UInt8.toUInt32 (List.getD lx 2 0)) : Nat) : Int) * 2 ^ 16))) 14 (by kernel_rfl) (by kernel_rfl) rfl ?_
      intro ac915 En916
      rw [Go.Dbr.u32_shl (a := ((UInt32.toNat (UInt8.toUInt32 (List.getD lx 2 0)) : Nat) : Int)) (x := UInt8.toUInt32 (List.getD lx 2 0)) (n := 16) rfl (by decide)] at En916
      refine any_ways [2, 6, 18] (by kernel_rfl) rfl ?_
      refine ⟨?_, ?_, ?_, trivial⟩
      · rintro _ rfl
        have hb917 : 0 < List.length lx := by omega
        refine op_loadel (d := some 5) (t := 5) (ad := adr6) (ao := ax) (xs := bys lx) (j := 0) (v := .int .u8 ((UInt8.toNat (List.getD lx 0 0) : Nat) : Int)) En916 (by kernel_rfl) (ix.ev Hv912).reads had7 (bys_getD hb917) (by kernel_rfl) ?_
        intro ac918 En919
        exact any_to hG (by kernel_rfl) (nd741 _ _ adr13 adr27 had14 had28 (En919.sub (by kernel_rfl)) (Hv912.pick [] (by kernel_rfl) (by decide)))
      · rintro _ rfl
        have hb920 : 1 < List.length lx := by omega
        refine op_loadel (d := some 9) (t := 5) (ad := adr13) (ao := ax) (xs := bys lx) (j := 1) (v := .int .u8 ((UInt8.toNat (List.getD lx 1 0) : Nat) : Int)) En916 (by kernel_rfl) (ix.ev Hv912).reads had14 (bys_getD hb920) (by kernel_rfl) ?_
        intro ac921 En922
        exact any_to hG (by kernel_rfl) (nd754 _ _ adr6 adr27 had7 had28 (En922.sub (by kernel_rfl)) (Hv912.pick [] (by kernel_rfl) (by decide)))
      · rintro _ rfl
        have hb923 : 3 < List.length lx := by omega
        refine op_loadel (d := some 21) (t := 5) (ad := adr27) (ao := ax) (xs := bys lx) (j := 3) (v := .int .u8 ((UInt8.toNat (List.getD lx 3 0) : Nat) : Int)) En916 (by kernel_rfl) (ix.ev Hv912).reads had28 (bys_getD hb923) (by kernel_rfl) ?_
        intro ac924 En925
        exact any_to hG (by kernel_rfl) (nd769 _ _ adr6 adr13 had7 had14 (En925.sub (by kernel_rfl)) (Hv912.pick [] (by kernel_rfl) (by decide)))
    have nd926 : ∀ (ac : Act) (wo : World) (adr6 : Addr) (adr13 : Addr) (adr20 : Addr) (had7 : ax = some adr6) (had14 : ax = some adr13) (had21 : ax = some adr20), Env ac 25 [(2, .int .u32 0), (4, .pointer (some (Addr.add adr6 0))), (8, .pointer (some (Addr.add adr13 1))), (14, .pointer (some (Addr.add adr20 2))), (21, .int .u8 ((UInt8.toNat (List.getD lx 3 0) : Nat) : Int))] → Ev w [] wo [] → G 14 #[true, true, false, false, true, true, false, false, false, false, true, true, false, false, false, false, true, true, true, false, false, false, false] ac wo := by
      intro ac927 wo928 adr6 adr13 adr20 had7 had14 had21 En929 Hv930
      refine any_from hG ?_
      refine any_pureR (d := some 22) En929 (v := .int .u32 (IntKind.wrap .u32 ((UInt8.toNat (List.getD lx 3 0) : Nat) : Int))) 19 (by kernel_rfl) (by kernel_rfl) rfl ?_
      intro ac931 En932
      rw [Go.Dbr.u8_to_u32 (a := ((UInt8.toNat (List.getD lx 3 0) : Nat) : Int)) (x := List.getD lx 3 0) rfl] at En932
      refine any_pureR (d := some 23) En932 (v := .int .u32 (IntKind.wrap .u32 (((UInt32.toNat (UInt8.toUInt32 (List.getD lx 3 0)) : Nat) : Int) * 2 ^ 24))) 20 (by kernel_rfl) (by kernel_rfl) rfl ?_
      intro ac933 En934
      rw [Go.Dbr.u32_shl (a := ((UInt32.toNat (UInt8.toUInt32 (List.getD lx 3 0)) : Nat) : Int)) (x := UInt8.toUInt32 (List.getD lx 3 0)) (n := 24) rfl (by decide)] at En934
      refine any_ways [2, 6, 12] (by kernel_rfl) rfl ?_
      refine ⟨?_, ?_, ?_, trivial⟩
      · rintro _ rfl
        have hb935 : 0 < List.length lx := by omega
        refine op_loadel (d := some 5) (t := 5) (ad := adr6) (ao := ax) (xs := bys lx) (j := 0) (v := .int .u8 ((UInt8.toNat (List.getD lx 0 0) : Nat) : Int)) En934 (by kernel_rfl) (ix.ev Hv930).reads had7 (bys_getD hb935) (by kernel_rfl) ?_
        intro ac936 En937
        exact any_to hG (by kernel_rfl) (nd784 _ _ adr13 adr20 had14 had21 (En937.sub (by kernel_rfl)) (Hv930.pick [] (by kernel_rfl) (by decide)))
      · rintro _ rfl
        have hb938 : 1 < List.length lx := by omega
        refine op_loadel (d := some 9) (t := 5) (ad := adr13) (ao := ax) (xs := bys lx) (j := 1) (v := .int .u8 ((UInt8.toNat (List.getD lx 1 0) : Nat) : Int)) En934 (by kernel_rfl) (ix.ev Hv930).reads had14 (bys_getD hb938) (by kernel_rfl) ?_
        intro ac939 En940
        exact any_to hG (by kernel_rfl) (nd797 _ _ adr6 adr20 had7 had21 (En940.sub (by kernel_rfl)) (Hv930.pick [] (by kernel_rfl) (by decide)))
      · rintro _ rfl
        have hb941 : 2 < List.length lx := by omega
        refine op_loadel (d := some 15) (t := 5) (ad := adr20) (ao := ax) (xs := bys lx) (j := 2) (v := .int .u8 ((UInt8.toNat (List.getD lx 2 0) : Nat) : Int)) En934 (by kernel_rfl) (ix.ev Hv930).reads had21 (bys_getD hb941) (by kernel_rfl) ?_
        intro ac942 En943
        exact any_to hG (by kernel_rfl) (nd812 _ _ adr6 adr13 had7 had14 (En943.sub (by kernel_rfl)) (Hv930.pick [] (by kernel_rfl) (by decide)))
    refine any_from hG ?_
    refine any_pureR (d := some 3) En2 (v := .slice ax (List.length lx) cx) 0 (by kernel_rfl) (by kernel_rfl) rfl ?_
    intro ac944 En945
    have hb948 : 0 < List.length lx := (by omega)
    obtain ⟨adr946, had947⟩ := some_of ix.nz hb948
    refine any_pure (d := some 4) (s := nv (Instr.indexAt 25 (.slice ax (List.length lx) cx) (.int .i64 0))) En945 (v := .pointer (some (Addr.add adr946 0))) 1 (by kernel_rfl) (funext fun _ => run_nv (Go.Dbr.run_indexsl (e := 5) (sz := 1) (j := 0) (jo := 0) had947 (by kernel_rfl) (by kernel_rfl) (by omega) hb948 (Nat.mul_one _) _)) (by kernel_rfl) rfl ?_
    intro ac949 En950
    refine any_pureR (d := some 7) En950 (v := .slice ax (List.length lx) cx) 4 (by kernel_rfl) (by kernel_rfl) rfl ?_
    intro ac951 En952
    have hb955 : 1 < List.length lx := (by omega)
    obtain ⟨adr953, had954⟩ := some_of ix.nz hb955
    refine any_pure (d := some 8) (s := nv (Instr.indexAt 25 (.slice ax (List.length lx) cx) (.int .i64 1))) En952 (v := .pointer (some (Addr.add adr953 1))) 5 (by kernel_rfl) (funext fun _ => run_nv (Go.Dbr.run_indexsl (e := 5) (sz := 1) (j := 1) (jo := 1) had954 (by kernel_rfl) (by kernel_rfl) (by omega) hb955 (Nat.mul_one _) _)) (by kernel_rfl) rfl ?_
    intro ac956 En957
    refine any_pureR (d := some 13) En957 (v := .slice ax (List.length lx) cx) 10 (by kernel_rfl) (by kernel_rfl) rfl ?_
    intro ac958 En959
    have hb962 : 2 < List.length lx := (by omega)
    obtain ⟨adr960, had961⟩ := some_of ix.nz hb962
    refine any_pure (d := some 14) (s := nv (Instr.indexAt 25 (.slice ax (List.length lx) cx) (.int .i64 2))) En959 (v := .pointer (some (Addr.add adr960 2))) 11 (by kernel_rfl) (funext fun _ => run_nv (Go.Dbr.run_indexsl (e := 5) (sz := 1) (j := 2) (jo := 2) had961 (by kernel_rfl) (by kernel_rfl) (by omega) hb962 (Nat.mul_one _) _)) (by kernel_rfl) rfl ?_
    intro ac963 En964
    refine any_pureR (d := some 19) En964 (v := .slice ax (List.length lx) cx) 16 (by kernel_rfl) (by kernel_rfl) rfl ?_
    intro ac965 En966
    have hb969 : 3 < List.length lx := (by omega)
    obtain ⟨adr967, had968⟩ := some_of ix.nz hb969
    refine any_pure (d := some 20) (s := nv (Instr.indexAt 25 (.slice ax (List.length lx) cx) (.int .i64 3))) En966 (v := .pointer (some (Addr.add adr967 3))) 17 (by kernel_rfl) (funext fun _ => run_nv (Go.Dbr.run_indexsl (e := 5) (sz := 1) (j := 3) (jo := 3) had968 (by kernel_rfl) (by kernel_rfl) (by omega) hb969 (Nat.mul_one _) _)) (by kernel_rfl) rfl ?_
    intro ac970 En971
    refine any_ways [2, 6, 12, 18] (by kernel_rfl) rfl ?_
    refine ⟨?_, ?_, ?_, ?_, trivial⟩
    · rintro _ rfl
      have hb972 : 0 < List.length lx := by omega
      refine op_loadel (d := some 5) (t := 5) (ad := adr946) (ao := ax) (xs := bys lx) (j := 0) (v := .int .u8 ((UInt8.toNat (List.getD lx 0 0) : Nat) : Int)) En971 (by kernel_rfl) (ix.ev wo3).reads had947 (bys_getD hb972) (by kernel_rfl) ?_
      intro ac973 En974
      exact any_to hG (by kernel_rfl) (nd874 _ _ adr953 adr960 adr967 had954 had961 had968 (En974.sub (by kernel_rfl)) (wo3.pick [] (by kernel_rfl) (by decide)))
    · rintro _ rfl
      have hb975 : 1 < List.length lx := by omega
      refine op_loadel (d := some 9) (t := 5) (ad := adr953) (ao := ax) (xs := bys lx) (j := 1) (v := .int .u8 ((UInt8.toNat (List.getD lx 1 0) : Nat) : Int)) En971 (by kernel_rfl) (ix.ev wo3).reads had954 (bys_getD hb975) (by kernel_rfl) ?_
      intro ac976 En977
      exact any_to hG (by kernel_rfl) (nd890 _ _ adr946 adr960 adr967 had947 had961 had968 (En977.sub (by kernel_rfl)) (wo3.pick [] (by kernel_rfl) (by decide)))
    · rintro _ rfl
      have hb978 : 2 < List.length lx := by omega
      refine op_loadel (d := some 15) (t := 5) (ad := adr960) (ao := ax) (xs := bys lx) (j := 2) (v := .int .u8 ((UInt8.toNat (List.getD lx 2 0) : Nat) : Int)) En971 (by kernel_rfl) (ix.ev wo3).reads had961 (bys_getD hb978) (by kernel_rfl) ?_
      intro ac979 En980
      exact any_to hG (by kernel_rfl) (nd908 _ _ adr946 adr953 adr967 had947 had954 had968 (En980.sub (by kernel_rfl)) (wo3.pick [] (by kernel_rfl) (by decide)))
    · rintro _ rfl
      have hb981 : 3 < List.length lx := by omega
      refine op_loadel (d := some 21) (t := 5) (ad := adr967) (ao := ax) (xs := bys lx) (j := 3) (v := .int .u8 ((UInt8.toNat (List.getD lx 3 0) : Nat) : Int)) En971 (by kernel_rfl) (ix.ev wo3).reads had968 (bys_getD hb981) (by kernel_rfl) ?_
      intro ac982 En983
      exact any_to hG (by kernel_rfl) (nd926 _ _ adr946 adr953 adr960 had947 had954 had961 (En983.sub (by kernel_rfl)) (wo3.pick [] (by kernel_rfl) (by decide)))
  rintro ac984 wo985 ⟨En986, Hv987⟩
  refine then_normal ?_
  refine wp_ret ?_
  refine d_ret1 (t := 2) (v := .int .u32 ((UInt32.toNat ((((UInt8.toUInt32 (List.getD lx 0 0)) ||| ((UInt8.toUInt32 (List.getD lx 1 0)) <<< UInt32.ofNat 8)) ||| ((UInt8.toUInt32 (List.getD lx 2 0)) <<< UInt32.ofNat 16)) ||| ((UInt8.toUInt32 (List.getD lx 3 0)) <<< UInt32.ofNat 24)) : Nat) : Int)) En986 (by kernel_rfl) (by kernel_rfl) ?_
  have e : (((UInt8.toUInt32 (List.getD lx 0 0)) ||| ((UInt8.toUInt32 (List.getD lx 1 0)) <<< UInt32.ofNat 8)) ||| ((UInt8.toUInt32 (List.getD lx 2 0)) <<< UInt32.ofNat 16)) ||| ((UInt8.toUInt32 (List.getD lx 3 0)) <<< UInt32.ofNat 24) = partW lx 0 4 := by simp [partW]
  exact ⟨by rw [e], Hv987.pick [] (by kernel_rfl) (by decide)⟩

end Go.Proofs.Ytnahplggflhdaaa
