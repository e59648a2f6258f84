/- Layer 9: blocks. -/
import Derived.Test.YtnahplggflhdaaaC1
namespace Go.Proofs.Ytnahplggflhdaaa
open Go.Dbr
set_option maxRecDepth 100000
set_option maxHeartbeats 2000000
set_option linter.unusedVariables false
set_option linter.unusedSimpArgs false

theorem partW_cut (l : List UInt8) (i : Nat) : partW (List.take 4 (List.drop (4 * i) l)) 0 4 = partW l i 4 := by
  have key : ∀ k, k < 4 → List.getD (List.take 4 (List.drop (4 * i) l)) (4 * 0 + k) 0 = List.getD l (4 * i + k) 0 := fun k hk => by
    simp only [List.getD, List.getElem?_take, List.getElem?_drop]
    rw [if_pos (by omega)]
    simp
  simp only [partW, key 0 (by decide), key 1 (by decide), key 2 (by decide), key 3 (by decide)]
theorem wordsF8 {l : List UInt8} (h : l.length = 32) : wordsF l = [partW l 0 4, partW l 1 4, partW l 2 4, partW l 3 4, partW l 4 4, partW l 5 4, partW l 6 4, partW l 7 4] := by
  unfold wordsF
  rw [h]
  rfl
theorem wordsF3 {l : List UInt8} (h : l.length = 12) : wordsF l = [partW l 0 4, partW l 1 4, partW l 2 4] := by
  unfold wordsF
  rw [h]
  rfl
def initW (key : List UInt8) (count : UInt32) (nonce : List UInt8) : List UInt32 :=
  [1634760805, 857760878, 2036477234, 1797285236, partW key 0 4, partW key 1 4, partW key 2 4, partW key 3 4, partW key 4 4, partW key 5 4, partW key 6 4, partW key 7 4, count, partW nonce 0 4, partW nonce 1 4, partW nonce 2 4]
theorem initW_len (key : List UInt8) (count : UInt32) (nonce : List UInt8) : (initW key count nonce).length = 16 := rfl
def round (v : List UInt32) : List UInt32 :=
  quart (quart (quart (quart (quart (quart (quart (quart v 0 4 8 12) 1 5 9 13) 2 6 10 14) 3 7 11 15) 0 5 10 15) 1 6 11 12) 2 7 8 13) 3 4 9 14
def rounds (w : List UInt32) : Nat → List UInt32
  | 0 => w
  | i + 1 => round (rounds w i)
def byteAt (v w : List UInt32) (j : Nat) : UInt8 := UInt32.toUInt8 ((List.getD v (j / 4) 0 + List.getD w (j / 4) 0) >>> UInt32.ofNat (8 * (j % 4)))
def blockF (key : List UInt8) (count : UInt32) (nonce : List UInt8) : List UInt8 := (List.range 64).map (byteAt (rounds (initW key count nonce) 10) (initW key count nonce))
theorem blockF_len (key : List UInt8) (count : UInt32) (nonce : List UInt8) : (blockF key count nonce).length = 64 := by simp [blockF]
theorem upto_set {α : Type} {o : List α} {n i : Nat} {d : α} {f g : Nat → α} (hl : o.length = n) (h : ∀ j, j < n → o.getD j d = if j < i then f j else g j) (hi : i < n) : ∀ j, j < n → (o.set i (f i)).getD j d = if j < i + 1 then f j else g j := fun j hj => by
  rw [getD_set]
  by_cases e : i = j
  · subst e; rw [if_pos ⟨rfl, by omega⟩, if_pos (by omega)]
  · rw [if_neg (fun q => e q.1), h j hj]
    by_cases h2 : j < i
    · rw [if_pos h2, if_pos (by omega)]
    · rw [if_neg h2, if_neg (by omega)]
theorem getD_replicate {α : Type} (n j : Nat) (x : α) : (List.replicate n x).getD j x = x := by
  simp only [List.getD, List.getElem?_replicate]
  split <;> rfl

theorem words_go (w : World) (ax : Option Addr) (nx cx : Nat) (lx : List UInt8) (ex : nx = List.length lx) (ix : InB w [] ax cx lx) : Calls Try.prog 19 #[.slice ax nx cx] w fun e w' => ∃ ao co, e = .returned (.slice ao (List.length (wordsF lx)) co) ∧ Ev w [] w' [.vec ao co 1 (u32s (wordsF lx)) 23] := by
 subst ex
 have hs := ix.small
 have hcx := ix.cap
 refine d_start [(0, .slice ax (List.length lx) cx)] 38 Go.Proofs.Try.func19 Go.Proofs.Try.ntmps19 rfl (by kernel_rfl) (by kernel_rfl) ?_
 intro act0 En0
 have Hv0 : Ev w [] w [] := Ev.refl (Heap.nil _)
 refine wp_seq ?_
 refine region_from ?_
 refine d_pures [(0, .slice ax (List.length lx) cx), (2, .slice none 0 0)] [.slice none 0 0] 1 En0 (by kernel_rfl) (by kernel_rfl) rfl ?_
 intro ac1 En2
 refine from_end (by kernel_rfl) ?_
 refine then_normal ?_
 refine wp_seq ?_
 refine region_from ?_
 refine d_pures [(0, .slice ax (List.length lx) cx), (2, .slice none 0 0), (8, .int .i64 (IntKind.wrap .i64 (Int.tdiv ((List.length lx : Nat) : Int) (4 : Int))))] [.slice ax (List.length lx) cx, .int .i64 ((List.length lx : Nat) : Int), .int .i64 (IntKind.wrap .i64 (Int.tdiv ((List.length lx : Nat) : Int) (4 : Int)))] 3 En2 (by kernel_rfl) (by kernel_rfl) rfl ?_
 intro ac3 En4
 rw [show IntKind.wrap .i64 (Int.tdiv ((List.length lx : Nat) : Int) (4 : Int)) = (((List.length lx) / 4 : Nat) : Int) from Go.Dbr.i64_quo_nat (a := ((List.length lx : Nat) : Int)) (n := List.length lx) (m := 4) rfl (by omega)] at En4
 refine from_op (by kernel_rfl) ?_
 refine op_makeslice (d := some 9) (t := 43) (T := 23) (m := (List.length lx) / 4) (kl := .i64) (kc := .i64) (z := .int .u32 0) (bytes := 4) En4 (by kernel_rfl) Hv0 (by kernel_rfl) (by kernel_rfl) (by kernel_rfl) (by omega) (by unfold maxLen; omega) ?_
 intro ac6 wo7 bk5 En8 Hv9
 rw [show List.replicate ((List.length lx) / 4) (Value.int .u32 0) = u32s (List.replicate ((List.length lx) / 4) 0) from (u32s_replicate _).symm] at Hv9
 refine d_pures [(0, .slice ax (List.length lx) cx), (2, .slice none 0 0), (3, .slice (some ⟨bk5, 0, none⟩) ((List.length lx) / 4) ((List.length lx) / 4))] [.slice (some ⟨bk5, 0, none⟩) ((List.length lx) / 4) ((List.length lx) / 4)] 5 En8 (by kernel_rfl) (by kernel_rfl) rfl ?_
 intro ac10 En11
 refine from_end (by kernel_rfl) ?_
 refine then_normal ?_
 refine wp_seq ?_
 refine wp_seq ?_
 refine region_from ?_
 refine d_pures [(0, .slice ax (List.length lx) cx), (2, .slice none 0 0), (3, .slice (some ⟨bk5, 0, none⟩) ((List.length lx) / 4) ((List.length lx) / 4)), (11, .int .i64 (((List.length lx) / 4 : Nat) : Int)), (12, .int .i64 0)] [.slice (some ⟨bk5, 0, none⟩) ((List.length lx) / 4) ((List.length lx) / 4), .int .i64 (((List.length lx) / 4 : Nat) : Int), .int .i64 0] 3 En11 (by kernel_rfl) (by kernel_rfl) rfl ?_
 intro ac12 En13
 refine from_end (by kernel_rfl) ?_
 refine then_normal ?_
 refine wp_block ?_
 refine loop_m (fun ms14 ac wo => ∃ (i : Nat) (o : List UInt32), ms14 = (List.length lx / 4 - i : Nat) ∧ Env ac 38 [(0, .slice ax (List.length lx) cx), (2, .slice none 0 0), (3, .slice (some ⟨bk5, 0, none⟩) ((List.length lx) / 4) ((List.length lx) / 4)), (11, .int .i64 (((List.length lx) / 4 : Nat) : Int)), (12, ni i)] ∧ Ev w [] wo [.vec (some ⟨bk5, 0, none⟩) ((List.length lx) / 4) 1 (u32s o) 23] ∧ (i ≤ List.length lx / 4) ∧ (List.length o = List.length lx / 4) ∧ (∀ j, j < List.length lx / 4 → List.getD o j 0 = if j < i then partW lx j 4 else 0)) ⟨_, 0, List.replicate ((List.length lx) / 4) 0, rfl, En13.sub (by kernel_rfl), Hv9.pick [0] (by kernel_rfl) (by decide), by omega, by simp, fun j hj => by rw [getD_replicate, if_neg (by omega)]⟩ ?_
 rintro mm20 ac16 wo17 ⟨i, o, rfl, En18, Hv19, hi, ho, hp⟩
 refine wp_seq ?_
 refine region_from ?_
 refine d_pures [(0, .slice ax (List.length lx) cx), (2, .slice none 0 0), (3, .slice (some ⟨bk5, 0, none⟩) ((List.length lx) / 4) ((List.length lx) / 4)), (11, .int .i64 (((List.length lx) / 4 : Nat) : Int)), (12, ni i), (13, .bool (decide (((i : Nat) : Int) < (((List.length lx) / 4 : Nat) : Int))))] [.bool (decide (((i : Nat) : Int) < (((List.length lx) / 4 : Nat) : Int)))] 1 En18 (by kernel_rfl) (by kernel_rfl) rfl ?_
 intro ac21 En22
 refine from_end (by kernel_rfl) ?_
 refine then_normal ?_
 refine wp_seq ?_
 refine cond_at En22 (t := decide (((i : Nat) : Int) < (((List.length lx) / 4 : Nat) : Int))) (by kernel_rfl) (fun hc23 => ?_) (fun hc23 => ?_)
 ·
  replace hc23 : ((i : Nat) : Int) < (((List.length lx) / 4 : Nat) : Int) := of_decide_eq_true hc23
  refine wp_skip ?_
  refine then_normal ?_
  refine wp_seq ?_
  refine wp_block ?_
  refine wp_seq ?_
  refine region_from ?_
  refine d_pures [(0, .slice ax (List.length lx) cx), (2, .slice none 0 0), (3, .slice (some ⟨bk5, 0, none⟩) ((List.length lx) / 4) ((List.length lx) / 4)), (4, ni i), (11, .int .i64 (((List.length lx) / 4 : Nat) : Int)), (12, ni i)] [ni i, ni i] 2 En22 (by kernel_rfl) (by kernel_rfl) rfl ?_
  intro ac24 En25
  refine from_end (by kernel_rfl) ?_
  refine then_normal ?_
  refine wp_seq ?_
  refine region_from ?_
  refine d_pures [(0, .slice ax (List.length lx) cx), (2, .slice none 0 0), (3, .slice (some ⟨bk5, 0, none⟩) ((List.length lx) / 4) ((List.length lx) / 4)), (4, ni i), (11, .int .i64 (((List.length lx) / 4 : Nat) : Int)), (12, ni i), (15, .int .i64 0)] [.int .i64 0] 1 En25 (by kernel_rfl) (by kernel_rfl) rfl ?_
  intro ac26 En27
  refine from_end (by kernel_rfl) ?_
  refine then_normal ?_
  refine wp_block ?_
  refine loop_m (fun ms28 ac wo => ∃ (k : Nat) (o2 : List UInt32), ms28 = (4 - k : Nat) ∧ Env ac 38 [(0, .slice ax (List.length lx) cx), (2, .slice none 0 0), (3, .slice (some ⟨bk5, 0, none⟩) ((List.length lx) / 4) ((List.length lx) / 4)), (4, ni i), (11, .int .i64 (((List.length lx) / 4 : Nat) : Int)), (12, ni i), (15, ni k)] ∧ Ev w [] wo [.vec (some ⟨bk5, 0, none⟩) ((List.length lx) / 4) 1 (u32s o2) 23] ∧ (k ≤ 4) ∧ (List.length o2 = List.length lx / 4) ∧ (∀ j, j < List.length lx / 4 → List.getD o2 j 0 = if j < i then partW lx j 4 else if j = i then partW lx i k else 0)) ⟨_, 0, o, rfl, En27.sub (by kernel_rfl), Hv19.pick [0] (by kernel_rfl) (by decide), by omega, ho, fun j hj => by rw [hp j hj]; split; rfl; split; rfl; rfl⟩ ?_
  rintro mm34 ac30 wo31 ⟨k, o2, rfl, En32, Hv33, hk, ho2, hp2⟩
  refine wp_seq ?_
  refine region_from ?_
  refine d_pures [(0, .slice ax (List.length lx) cx), (2, .slice none 0 0), (3, .slice (some ⟨bk5, 0, none⟩) ((List.length lx) / 4) ((List.length lx) / 4)), (4, ni i), (11, .int .i64 (((List.length lx) / 4 : Nat) : Int)), (12, ni i), (15, ni k), (16, .bool (decide (((k : Nat) : Int) < (4 : Int))))] [.bool (decide (((k : Nat) : Int) < (4 : Int)))] 1 En32 (by kernel_rfl) (by kernel_rfl) rfl ?_
  intro ac35 En36
  refine from_end (by kernel_rfl) ?_
  refine then_normal ?_
  refine wp_seq ?_
  refine cond_at En36 (t := decide (((k : Nat) : Int) < (4 : Int))) (by kernel_rfl) (fun hc37 => ?_) (fun hc37 => ?_)
  ·
   replace hc37 : ((k : Nat) : Int) < (4 : Int) := of_decide_eq_true hc37
   refine wp_skip ?_
   refine then_normal ?_
   refine wp_seq ?_
   refine wp_block ?_
   refine wp_seq ?_
   refine region_from ?_
   refine d_pures [(0, .slice ax (List.length lx) cx), (2, .slice none 0 0), (3, .slice (some ⟨bk5, 0, none⟩) ((List.length lx) / 4) ((List.length lx) / 4)), (4, ni i), (5, ni k), (11, .int .i64 (((List.length lx) / 4 : Nat) : Int)), (12, ni i), (15, ni k)] [ni k, ni k] 2 En36 (by kernel_rfl) (by kernel_rfl) rfl ?_
   intro ac38 En39
   refine from_end (by kernel_rfl) ?_
   refine then_normal ?_
   refine region_cut (F := fun ac wo => Env ac 38 [(0, .slice ax (List.length lx) cx), (2, .slice none 0 0), (3, .slice (some ⟨bk5, 0, none⟩) ((List.length lx) / 4) ((List.length lx) / 4)), (4, ni i), (11, .int .i64 (((List.length lx) / 4 : Nat) : Int)), (12, ni i), (15, ni k)] ∧ Ev w [] wo [.vec (some ⟨bk5, 0, none⟩) ((List.length lx) / 4) 1 (u32s (List.set o2 i ((List.getD o2 i 0) ||| ((UInt8.toUInt32 (List.getD lx ((4 * i) + k) 0)) <<< UInt32.ofNat (8 * k))))) 23]) ?_ ?_
   ·
    refine h_start (fun wv => Ev w [] wv [.vec (some ⟨bk5, 0, none⟩) ((List.length lx) / 4) 1 (u32s o2) 23]) [17] (by kernel_rfl) 18 (by kernel_rfl) ?_
    have wo40 := Hv33.trans (Ev.drew Hv33.heap)
    refine h_pureR (d := some 18) En39 (v := .slice (some ⟨bk5, 0, none⟩) ((List.length lx) / 4) ((List.length lx) / 4)) 0 (by kernel_rfl) (by kernel_rfl) rfl (fun _ => wo40.pick [0] (by kernel_rfl) (by decide)) ?_
    intro ac160 En161
    refine h_pureR (d := some 19) En161 (v := ni i) 1 (by kernel_rfl) (by kernel_rfl) rfl (fun _ => wo40.pick [0] (by kernel_rfl) (by decide)) ?_
    intro ac162 En163
    have hb166 : i < (List.length lx) / 4 := (by omega)
    refine h_free (d := some 20) (s := nv (Instr.indexAt 43 (.slice (some ⟨bk5, 0, none⟩) ((List.length lx) / 4) ((List.length lx) / 4)) (ni i))) En163 (v := .pointer (some (Addr.add ⟨bk5, 0, none⟩ i))) 2 (by kernel_rfl) (fun _ => run_nv (Go.Dbr.run_indexsl (e := 23) (sz := 1) (j := i) (jo := i) rfl (by kernel_rfl) (by kernel_rfl) (by omega) hb166 (Nat.mul_one _) _)) (by kernel_rfl) rfl (fun _ => wo40.pick [0] (by kernel_rfl) (by decide)) ?_
    intro ac167 En168
    have hb169 : i < List.length o2 := by omega
    refine h_read (d := some 21) (s := nv (Instr.loadAt 23 (.pointer (some (Addr.add ⟨bk5, 0, none⟩ i))))) En168 (v := .int .u32 ((UInt32.toNat (List.getD o2 i 0) : Nat) : Int)) 3 (by kernel_rfl) (fun w hS => run_nv (run_loadel (ad := ⟨bk5, 0, none⟩) (o := i) rfl (hS.heap.reads (k := 0) rfl) rfl (u32s_getD hb169) (by kernel_rfl))) (by kernel_rfl) rfl (wo40.pick [0] (by kernel_rfl) (by decide)) ?_
    intro ac170 En171
    refine h_pureR (d := some 22) En171 (v := .slice ax (List.length lx) cx) 4 (by kernel_rfl) (by kernel_rfl) rfl (fun _ => wo40.pick [0] (by kernel_rfl) (by decide)) ?_
    intro ac172 En173
    refine h_pureR (d := some 23) En173 (v := ni i) 5 (by kernel_rfl) (by kernel_rfl) rfl (fun _ => wo40.pick [0] (by kernel_rfl) (by decide)) ?_
    intro ac174 En175
    refine h_pureR (d := some 24) En175 (v := .int .i64 (IntKind.wrap .i64 ((4 : Int) * ((i : Nat) : Int)))) 6 (by kernel_rfl) (by kernel_rfl) rfl (fun _ => wo40.pick [0] (by kernel_rfl) (by decide)) ?_
    intro ac176 En177
    rw [Go.Dbr.wr64 (e := (4 : Int) * ((i : Nat) : Int)) (x := ((4 * i : Nat) : Int)) (by omega) (by omega) (by omega)] at En177
    refine h_pureR (d := some 25) En177 (v := ni k) 7 (by kernel_rfl) (by kernel_rfl) rfl (fun _ => wo40.pick [0] (by kernel_rfl) (by decide)) ?_
    intro ac178 En179
    refine h_pureR (d := some 26) En179 (v := .int .i64 (IntKind.wrap .i64 (((4 * i : Nat) : Int) + ((k : Nat) : Int)))) 8 (by kernel_rfl) (by kernel_rfl) rfl (fun _ => wo40.pick [0] (by kernel_rfl) (by decide)) ?_
    intro ac180 En181
    rw [Go.Dbr.wr64 (e := ((4 * i : Nat) : Int) + ((k : Nat) : Int)) (x := (((4 * i) + k : Nat) : Int)) (by omega) (by omega) (by omega)] at En181
    have hb184 : (4 * i) + k < List.length lx := (by omega)
    obtain ⟨adr182, had183⟩ := some_of ix.nz hb184
    refine h_free (d := some 27) (s := nv (Instr.indexAt 25 (.slice ax (List.length lx) cx) (.int .i64 (((4 * i) + k : Nat) : Int)))) En181 (v := .pointer (some (Addr.add adr182 ((4 * i) + k)))) 9 (by kernel_rfl) (fun _ => run_nv (Go.Dbr.run_indexsl (e := 5) (sz := 1) (j := (4 * i) + k) (jo := (4 * i) + k) had183 (by kernel_rfl) (by kernel_rfl) (by omega) hb184 (Nat.mul_one _) _)) (by kernel_rfl) rfl (fun _ => wo40.pick [0] (by kernel_rfl) (by decide)) ?_
    intro ac185 En186
    have hb187 : (4 * i) + k < List.length lx := by omega
    refine h_read (d := some 28) (s := nv (Instr.loadAt 5 (.pointer (some (Addr.add adr182 ((4 * i) + k)))))) En186 (v := .int .u8 ((UInt8.toNat (List.getD lx ((4 * i) + k) 0) : Nat) : Int)) 10 (by kernel_rfl) (fun w hS => run_nv (run_loadel (ad := adr182) (o := (4 * i) + k) rfl (ix.ev hS).reads had183 (bys_getD hb187) (by kernel_rfl))) (by kernel_rfl) rfl (wo40.pick [0] (by kernel_rfl) (by decide)) ?_
    intro ac188 En189
    refine h_pureR (d := some 29) En189 (v := .int .u32 (IntKind.wrap .u32 ((UInt8.toNat (List.getD lx ((4 * i) + k) 0) : Nat) : Int))) 11 (by kernel_rfl) (by kernel_rfl) rfl (fun _ => wo40.pick [0] (by kernel_rfl) (by decide)) ?_
    intro ac190 En191
    rw [Go.Dbr.u8_to_u32 (a := ((UInt8.toNat (List.getD lx ((4 * i) + k) 0) : Nat) : Int)) (x := List.getD lx ((4 * i) + k) 0) rfl] at En191
    refine h_pureR (d := some 30) En191 (v := ni k) 12 (by kernel_rfl) (by kernel_rfl) rfl (fun _ => wo40.pick [0] (by kernel_rfl) (by decide)) ?_
    intro ac192 En193
    refine h_pureR (d := some 31) En193 (v := .int .i64 (IntKind.wrap .i64 ((8 : Int) * ((k : Nat) : Int)))) 13 (by kernel_rfl) (by kernel_rfl) rfl (fun _ => wo40.pick [0] (by kernel_rfl) (by decide)) ?_
    intro ac194 En195
    rw [Go.Dbr.wr64 (e := (8 : Int) * ((k : Nat) : Int)) (x := ((8 * k : Nat) : Int)) (by omega) (by omega) (by omega)] at En195
    refine h_free (d := some 32) (s := nv (Op.shift .shl .u32 ((UInt32.toNat (UInt8.toUInt32 (List.getD lx ((4 * i) + k) 0)) : Nat) : Int) .i64 ((8 * k : Nat) : Int))) En195 (v := .int .u32 ((UInt32.toNat ((UInt8.toUInt32 (List.getD lx ((4 * i) + k) 0)) <<< UInt32.ofNat (8 * k)) : Nat) : Int)) 14 (by kernel_rfl) (fun _ => run_nv (Go.Dbr.run_shl_u32 (UInt8.toUInt32 (List.getD lx ((4 * i) + k) 0)) .i64 (8 * k) (by omega) _)) (by kernel_rfl) rfl (fun _ => wo40.pick [0] (by kernel_rfl) (by decide)) ?_
    intro ac196 En197
    refine h_pureR (d := some 33) En197 (v := .int .u32 (IntKind.wrap .u32 ((BitVec.ofInt (IntKind.bits .u32) ((UInt32.toNat (List.getD o2 i 0) : Nat) : Int) ||| BitVec.ofInt (IntKind.bits .u32) ((UInt32.toNat ((UInt8.toUInt32 (List.getD lx ((4 * i) + k) 0)) <<< UInt32.ofNat (8 * k)) : Nat) : Int)).toNat : Int))) 15 (by kernel_rfl) (by kernel_rfl) rfl (fun _ => wo40.pick [0] (by kernel_rfl) (by decide)) ?_
    intro ac198 En199
    rw [Go.Dbr.u32_or (a := ((UInt32.toNat (List.getD o2 i 0) : Nat) : Int)) (b := ((UInt32.toNat ((UInt8.toUInt32 (List.getD lx ((4 * i) + k) 0)) <<< UInt32.ofNat (8 * k)) : Nat) : Int)) (x := List.getD o2 i 0) (y := (UInt8.toUInt32 (List.getD lx ((4 * i) + k) 0)) <<< UInt32.ofNat (8 * k)) rfl rfl] at En199
    have hb202 : i < (List.length lx) / 4 := (by omega)
    refine h_free (d := some 34) (s := nv (Instr.indexAt 43 (.slice (some ⟨bk5, 0, none⟩) ((List.length lx) / 4) ((List.length lx) / 4)) (ni i))) En199 (v := .pointer (some (Addr.add ⟨bk5, 0, none⟩ i))) 16 (by kernel_rfl) (fun _ => run_nv (Go.Dbr.run_indexsl (e := 23) (sz := 1) (j := i) (jo := i) rfl (by kernel_rfl) (by kernel_rfl) (by omega) hb202 (Nat.mul_one _) _)) (by kernel_rfl) rfl (fun _ => wo40.pick [0] (by kernel_rfl) (by decide)) ?_
    intro ac203 En204
    refine h_at 17 (by kernel_rfl) rfl ?_
    refine op_storeel (d := none) (t := 23) (ad := ⟨bk5, 0, none⟩) (ao := some ⟨bk5, 0, none⟩) (k := 0) (cap := (List.length lx) / 4) (sz := 1) (j := i) (xs := u32s o2) (v := uv32 ((List.getD o2 i 0) ||| ((UInt8.toUInt32 (List.getD lx ((4 * i) + k) 0)) <<< UInt32.ofNat (8 * k)))) En204 (by kernel_rfl) wo40 rfl rfl (by rw [u32s_length]; omega) (by kernel_rfl) rfl ?_
    intro ac205 wo206  En207 Hv208
    rw [u32s_set] at Hv208
    refine ⟨not_yet (by kernel_rfl), ?_⟩
    exact h_end (by kernel_rfl) ⟨En207.sub (by kernel_rfl), Hv208.pick [0] (by kernel_rfl) (by decide)⟩
   rintro ac209 wo210 ⟨En211, Hv212⟩
   refine block_normal ?_
   refine then_normal ?_
   refine region_from ?_
   refine d_pures [(0, .slice ax (List.length lx) cx), (2, .slice none 0 0), (3, .slice (some ⟨bk5, 0, none⟩) ((List.length lx) / 4) ((List.length lx) / 4)), (4, ni i), (11, .int .i64 (((List.length lx) / 4 : Nat) : Int)), (12, ni i), (15, ni k), (35, .int .i64 (IntKind.wrap .i64 (((k : Nat) : Int) + (1 : Int))))] [.int .i64 (IntKind.wrap .i64 (((k : Nat) : Int) + (1 : Int)))] 1 En211 (by kernel_rfl) (by kernel_rfl) rfl ?_
   intro ac213 En214
   rw [Go.Dbr.wr64 (e := ((k : Nat) : Int) + (1 : Int)) (x := ((k + 1 : Nat) : Int)) (by omega) (by omega) (by omega)] at En214
   refine d_pures [(0, .slice ax (List.length lx) cx), (2, .slice none 0 0), (3, .slice (some ⟨bk5, 0, none⟩) ((List.length lx) / 4) ((List.length lx) / 4)), (4, ni i), (11, .int .i64 (((List.length lx) / 4 : Nat) : Int)), (12, ni i), (15, .int .i64 ((k + 1 : Nat) : Int))] [.int .i64 ((k + 1 : Nat) : Int)] 2 En214 (by kernel_rfl) (by kernel_rfl) rfl ?_
   intro ac215 En216
   refine from_end (by kernel_rfl) ?_
   refine then_normal ?_
   refine ⟨_, ⟨k + 1, List.set o2 i ((List.getD o2 i 0) ||| ((UInt8.toUInt32 (List.getD lx ((4 * i) + k) 0)) <<< UInt32.ofNat (8 * k))), rfl, En216.sub (by kernel_rfl), Hv212.pick [0] (by kernel_rfl) (by decide), by omega, by simp [ho2], fun j hj => by rw [getD_set]; by_cases h1 : i = j; subst h1; rw [if_pos ⟨rfl, by omega⟩, hp2 i hj, if_neg (by omega), if_pos rfl, if_neg (by omega), if_pos rfl]; rfl; rw [if_neg (fun q => h1 q.1), hp2 j hj]; by_cases h2 : j < i; rw [if_pos h2, if_pos h2]; rw [if_neg h2, if_neg h2, if_neg (fun q => h1 q.symm), if_neg (fun q => h1 q.symm)]⟩, ?_⟩
   omega
  ·
   replace hc37 : ¬ (((k : Nat) : Int) < (4 : Int)) := of_decide_eq_false hc37
   refine wp_exit ?_
   refine then_exit ?_
   refine then_exit ?_
   refine block_exit ?_
   refine block_normal ?_
   refine then_normal ?_
   refine region_from ?_
   refine d_pures [(0, .slice ax (List.length lx) cx), (2, .slice none 0 0), (3, .slice (some ⟨bk5, 0, none⟩) ((List.length lx) / 4) ((List.length lx) / 4)), (4, ni i), (11, .int .i64 (((List.length lx) / 4 : Nat) : Int)), (12, ni i), (15, ni k), (36, .int .i64 (IntKind.wrap .i64 (((i : Nat) : Int) + (1 : Int))))] [.int .i64 (IntKind.wrap .i64 (((i : Nat) : Int) + (1 : Int)))] 1 En36 (by kernel_rfl) (by kernel_rfl) rfl ?_
   intro ac217 En218
   rw [Go.Dbr.wr64 (e := ((i : Nat) : Int) + (1 : Int)) (x := ((i + 1 : Nat) : Int)) (by omega) (by omega) (by omega)] at En218
   refine d_pures [(0, .slice ax (List.length lx) cx), (2, .slice none 0 0), (3, .slice (some ⟨bk5, 0, none⟩) ((List.length lx) / 4) ((List.length lx) / 4)), (4, ni i), (11, .int .i64 (((List.length lx) / 4 : Nat) : Int)), (12, .int .i64 ((i + 1 : Nat) : Int)), (15, ni k)] [.int .i64 ((i + 1 : Nat) : Int)] 2 En218 (by kernel_rfl) (by kernel_rfl) rfl ?_
   intro ac219 En220
   refine from_end (by kernel_rfl) ?_
   refine then_normal ?_
   obtain rfl : k = 4 := by omega
   refine ⟨_, ⟨i + 1, o2, rfl, En220.sub (by kernel_rfl), Hv33.pick [0] (by kernel_rfl) (by decide), by omega, by omega, fun j hj => by rw [hp2 j hj]; by_cases h1 : j < i; rw [if_pos h1, if_pos (by omega)]; rw [if_neg h1]; by_cases h2 : j = i; rw [if_pos h2, if_pos (by omega), h2]; rw [if_neg h2, if_neg (by omega)]⟩, ?_⟩
   omega
 ·
  replace hc23 : ¬ (((i : Nat) : Int) < (((List.length lx) / 4 : Nat) : Int)) := of_decide_eq_false hc23
  refine wp_exit ?_
  refine then_exit ?_
  refine then_exit ?_
  refine block_exit ?_
  refine then_normal ?_
  refine wp_seq ?_
  refine region_from ?_
  refine d_pures [(0, .slice ax (List.length lx) cx), (2, .slice (some ⟨bk5, 0, none⟩) ((List.length lx) / 4) ((List.length lx) / 4)), (3, .slice (some ⟨bk5, 0, none⟩) ((List.length lx) / 4) ((List.length lx) / 4)), (11, .int .i64 (((List.length lx) / 4 : Nat) : Int)), (12, ni i)] [.slice (some ⟨bk5, 0, none⟩) ((List.length lx) / 4) ((List.length lx) / 4), .slice (some ⟨bk5, 0, none⟩) ((List.length lx) / 4) ((List.length lx) / 4)] 2 En22 (by kernel_rfl) (by kernel_rfl) rfl ?_
  intro ac221 En222
  refine from_end (by kernel_rfl) ?_
  refine then_normal ?_
  refine wp_ret ?_
  refine d_ret1 (t := 2) (v := .slice (some ⟨bk5, 0, none⟩) ((List.length lx) / 4) ((List.length lx) / 4)) En222 (by kernel_rfl) (by kernel_rfl) ?_
  obtain rfl : i = List.length lx / 4 := by omega
  have e : o = wordsF lx := eq_range_map 0 ho (fun j hj => by rw [hp j hj, if_pos hj])
  have e2 : List.length lx / 4 = List.length (wordsF lx) := by simp [wordsF]
  have Hf223 := Hv19.pick [0] (by kernel_rfl) (by decide) (M := [.vec (some ⟨bk5, 0, none⟩) ((List.length lx) / 4) 1 (u32s o) 23])
  rw [e] at Hf223
  exact ⟨_, _, by rw [e2], Hf223⟩

theorem word_ref (w : World) (ax : Option Addr) (nx cx : Nat) (lx : List UInt8) (ex : nx = List.length lx) (ix : InB w [] ax cx lx) (h4 : 4 ≤ List.length lx) : Calls Try.prog 23 #[.slice ax nx cx] w fun e w' => e = .returned (.int .u32 ((UInt32.toNat (partW lx 0 4) : Nat) : Int)) ∧ Ev w [] w' [] := by
 subst ex
 have hs := ix.small
 have hcx := ix.cap
 refine d_start [(0, .slice ax (List.length lx) cx)] 25 Go.Proofs.Try.func23 Go.Proofs.Try.ntmps23 rfl (by kernel_rfl) (by kernel_rfl) ?_
 intro act0 En0
 have Hv0 : Ev w [] w [] := Ev.refl (Heap.nil _)
 refine wp_seq ?_
 refine region_from ?_
 refine d_pures [(0, .slice ax (List.length lx) cx), (2, .int .u32 0)] [.int .u32 0] 1 En0 (by kernel_rfl) (by kernel_rfl) rfl ?_
 intro ac1 En2
 refine from_end (by kernel_rfl) ?_
 refine then_normal ?_
 refine wp_seq ?_
 refine region_cut (F := fun ac wo => Env ac 25 [(2, .int .u32 ((UInt32.toNat ((((UInt8.toUInt32 (List.getD lx 0 0)) ||| ((UInt8.toUInt32 (List.getD lx 1 0)) <<< UInt32.ofNat 8)) ||| ((UInt8.toUInt32 (List.getD lx 2 0)) <<< UInt32.ofNat 16)) ||| ((UInt8.toUInt32 (List.getD lx 3 0)) <<< UInt32.ofNat 24)) : Nat) : Int))] ∧ Ev w [] wo []) ?_ ?_
 ·
  refine h_start (fun wv => Ev w [] wv []) [] (by kernel_rfl) 23 (by kernel_rfl) ?_
  have wo3 := Hv0.trans (Ev.drew Hv0.heap)
  refine h_pureR (d := some 3) En2 (v := .slice ax (List.length lx) cx) 0 (by kernel_rfl) (by kernel_rfl) rfl (fun _ => wo3.pick [] (by kernel_rfl) (by decide)) ?_
  intro ac486 En487
  have hb490 : 0 < List.length lx := (by omega)
  obtain ⟨adr488, had489⟩ := some_of ix.nz hb490
  refine h_free (d := some 4) (s := nv (Instr.indexAt 25 (.slice ax (List.length lx) cx) (.int .i64 0))) En487 (v := .pointer (some (Addr.add adr488 0))) 1 (by kernel_rfl) (fun _ => run_nv (Go.Dbr.run_indexsl (e := 5) (sz := 1) (j := 0) (jo := 0) had489 (by kernel_rfl) (by kernel_rfl) (by omega) hb490 (Nat.mul_one _) _)) (by kernel_rfl) rfl (fun _ => wo3.pick [] (by kernel_rfl) (by decide)) ?_
  intro ac491 En492
  have hb493 : 0 < List.length lx := by omega
  refine h_read (d := some 5) (s := nv (Instr.loadAt 5 (.pointer (some (Addr.add adr488 0))))) En492 (v := .int .u8 ((UInt8.toNat (List.getD lx 0 0) : Nat) : Int)) 2 (by kernel_rfl) (fun w hS => run_nv (run_loadel (ad := adr488) (o := 0) rfl (ix.ev hS).reads had489 (bys_getD hb493) (by kernel_rfl))) (by kernel_rfl) rfl (wo3.pick [] (by kernel_rfl) (by decide)) ?_
  intro ac494 En495
  refine h_pureR (d := some 6) En495 (v := .int .u32 (IntKind.wrap .u32 ((UInt8.toNat (List.getD lx 0 0) : Nat) : Int))) 3 (by kernel_rfl) (by kernel_rfl) rfl (fun _ => wo3.pick [] (by kernel_rfl) (by decide)) ?_
  intro ac496 En497
  rw [Go.Dbr.u8_to_u32 (a := ((UInt8.toNat (List.getD lx 0 0) : Nat) : Int)) (x := List.getD lx 0 0) rfl] at En497
  refine h_pureR (d := some 7) En497 (v := .slice ax (List.length lx) cx) 4 (by kernel_rfl) (by kernel_rfl) rfl (fun _ => wo3.pick [] (by kernel_rfl) (by decide)) ?_
  intro ac498 En499
  have hb502 : 1 < List.length lx := (by omega)
  obtain ⟨adr500, had501⟩ := some_of ix.nz hb502
  refine h_free (d := some 8) (s := nv (Instr.indexAt 25 (.slice ax (List.length lx) cx) (.int .i64 1))) En499 (v := .pointer (some (Addr.add adr500 1))) 5 (by kernel_rfl) (fun _ => run_nv (Go.Dbr.run_indexsl (e := 5) (sz := 1) (j := 1) (jo := 1) had501 (by kernel_rfl) (by kernel_rfl) (by omega) hb502 (Nat.mul_one _) _)) (by kernel_rfl) rfl (fun _ => wo3.pick [] (by kernel_rfl) (by decide)) ?_
  intro ac503 En504
  have hb505 : 1 < List.length lx := by omega
  refine h_read (d := some 9) (s := nv (Instr.loadAt 5 (.pointer (some (Addr.add adr500 1))))) En504 (v := .int .u8 ((UInt8.toNat (List.getD lx 1 0) : Nat) : Int)) 6 (by kernel_rfl) (fun w hS => run_nv (run_loadel (ad := adr500) (o := 1) rfl (ix.ev hS).reads had501 (bys_getD hb505) (by kernel_rfl))) (by kernel_rfl) rfl (wo3.pick [] (by kernel_rfl) (by decide)) ?_
  intro ac506 En507
  refine h_pureR (d := some 10) En507 (v := .int .u32 (IntKind.wrap .u32 ((UInt8.toNat (List.getD lx 1 0) : Nat) : Int))) 7 (by kernel_rfl) (by kernel_rfl) rfl (fun _ => wo3.pick [] (by kernel_rfl) (by decide)) ?_
  intro ac508 En509
  rw [Go.Dbr.u8_to_u32 (a := ((UInt8.toNat (List.getD lx 1 0) : Nat) : Int)) (x := List.getD lx 1 0) rfl] at En509
  refine h_pureR (d := some 11) En509 (v := .int .u32 (IntKind.wrap .u32 (((UInt32.toNat (UInt8.toUInt32 (List.getD lx 1 0)) : Nat) : Int) * 2 ^ 8))) 8 (by kernel_rfl) (by kernel_rfl) rfl (fun _ => wo3.pick [] (by kernel_rfl) (by decide)) ?_
  intro ac510 En511
  rw [Go.Dbr.u32_shl (a := ((UInt32.toNat (UInt8.toUInt32 (List.getD lx 1 0)) : Nat) : Int)) (x := UInt8.toUInt32 (List.getD lx 1 0)) (n := 8) rfl (by decide)] at En511
  refine h_pureR (d := some 12) En511 (v := .int .u32 (IntKind.wrap .u32 ((BitVec.ofInt (IntKind.bits .u32) ((UInt32.toNat (UInt8.toUInt32 (List.getD lx 0 0)) : Nat) : Int) ||| BitVec.ofInt (IntKind.bits .u32) ((UInt32.toNat ((UInt8.toUInt32 (List.getD lx 1 0)) <<< UInt32.ofNat 8) : Nat) : Int)).toNat : Int))) 9 (by kernel_rfl) (by kernel_rfl) rfl (fun _ => wo3.pick [] (by kernel_rfl) (by decide)) ?_
  intro ac512 En513
  rw [Go.Dbr.u32_or (a := ((UInt32.toNat (UInt8.toUInt32 (List.getD lx 0 0)) : Nat) : Int)) (b := ((UInt32.toNat ((UInt8.toUInt32 (List.getD lx 1 0)) <<< UInt32.ofNat 8) : Nat) : Int)) (x := UInt8.toUInt32 (List.getD lx 0 0)) (y := (UInt8.toUInt32 (List.getD lx 1 0)) <<< UInt32.ofNat 8) rfl rfl] at En513
  refine h_pureR (d := some 13) En513 (v := .slice ax (List.length lx) cx) 10 (by kernel_rfl) (by kernel_rfl) rfl (fun _ => wo3.pick [] (by kernel_rfl) (by decide)) ?_
  intro ac514 En515
  have hb518 : 2 < List.length lx := (by omega)
  obtain ⟨adr516, had517⟩ := some_of ix.nz hb518
  refine h_free (d := some 14) (s := nv (Instr.indexAt 25 (.slice ax (List.length lx) cx) (.int .i64 2))) En515 (v := .pointer (some (Addr.add adr516 2))) 11 (by kernel_rfl) (fun _ => run_nv (Go.Dbr.run_indexsl (e := 5) (sz := 1) (j := 2) (jo := 2) had517 (by kernel_rfl) (by kernel_rfl) (by omega) hb518 (Nat.mul_one _) _)) (by kernel_rfl) rfl (fun _ => wo3.pick [] (by kernel_rfl) (by decide)) ?_
  intro ac519 En520
  have hb521 : 2 < List.length lx := by omega
  refine h_read (d := some 15) (s := nv (Instr.loadAt 5 (.pointer (some (Addr.add adr516 2))))) En520 (v := .int .u8 ((UInt8.toNat (List.getD lx 2 0) : Nat) : Int)) 12 (by kernel_rfl) (fun w hS => run_nv (run_loadel (ad := adr516) (o := 2) rfl (ix.ev hS).reads had517 (bys_getD hb521) (by kernel_rfl))) (by kernel_rfl) rfl (wo3.pick [] (by kernel_rfl) (by decide)) ?_
  intro ac522 En523
  refine h_pureR (d := some 16) En523 (v := .int .u32 (IntKind.wrap .u32 ((UInt8.toNat (List.getD lx 2 0) : Nat) : Int))) 13 (by kernel_rfl) (by kernel_rfl) rfl (fun _ => wo3.pick [] (by kernel_rfl) (by decide)) ?_
  intro ac524 En525
  rw [Go.Dbr.u8_to_u32 (a := ((UInt8.toNat (List.getD lx 2 0) : Nat) : Int)) (x := List.getD lx 2 0) rfl] at En525
  refine h_pureR (d := some 17) En525 (v := .int .u32 (IntKind.wrap .u32 (((UInt32.toNat (UInt8.toUInt32 (List.getD lx 2 0)) : Nat) : Int) * 2 ^ 16))) 14 (by kernel_rfl) (by kernel_rfl) rfl (fun _ => wo3.pick [] (by kernel_rfl) (by decide)) ?_
  intro ac526 En527
  rw [Go.Dbr.u32_shl (a := ((UInt32.toNat (UInt8.toUInt32 (List.getD lx 2 0)) : Nat) : Int)) (x := UInt8.toUInt32 (List.getD lx 2 0)) (n := 16) rfl (by decide)] at En527
  refine h_pureR (d := some 18) En527 (v := .int .u32 (IntKind.wrap .u32 ((BitVec.ofInt (IntKind.bits .u32) ((UInt32.toNat ((UInt8.toUInt32 (List.getD lx 0 0)) ||| ((UInt8.toUInt32 (List.getD lx 1 0)) <<< UInt32.ofNat 8)) : Nat) : Int) ||| BitVec.ofInt (IntKind.bits .u32) ((UInt32.toNat ((UInt8.toUInt32 (List.getD lx 2 0)) <<< UInt32.ofNat 16) : Nat) : Int)).toNat : Int))) 15 (by kernel_rfl) (by kernel_rfl) rfl (fun _ => wo3.pick [] (by kernel_rfl) (by decide)) ?_
  intro ac528 En529
  rw [Go.Dbr.u32_or (a := ((UInt32.toNat ((UInt8.toUInt32 (List.getD lx 0 0)) ||| ((UInt8.toUInt32 (List.getD lx 1 0)) <<< UInt32.ofNat 8)) : Nat) : Int)) (b := ((UInt32.toNat ((UInt8.toUInt32 (List.getD lx 2 0)) <<< UInt32.ofNat 16) : Nat) : Int)) (x := (UInt8.toUInt32 (List.getD lx 0 0)) ||| ((UInt8.toUInt32 (List.getD lx 1 0)) <<< UInt32.ofNat 8)) (y := (UInt8.toUInt32 (List.getD lx 2 0)) <<< UInt32.ofNat 16) rfl rfl] at En529
  refine h_pureR (d := some 19) En529 (v := .slice ax (List.length lx) cx) 16 (by kernel_rfl) (by kernel_rfl) rfl (fun _ => wo3.pick [] (by kernel_rfl) (by decide)) ?_
  intro ac530 En531
  have hb534 : 3 < List.length lx := (by omega)
  obtain ⟨adr532, had533⟩ := some_of ix.nz hb534
  refine h_free (d := some 20) (s := nv (Instr.indexAt 25 (.slice ax (List.length lx) cx) (.int .i64 3))) En531 (v := .pointer (some (Addr.add adr532 3))) 17 (by kernel_rfl) (fun _ => run_nv (Go.Dbr.run_indexsl (e := 5) (sz := 1) (j := 3) (jo := 3) had533 (by kernel_rfl) (by kernel_rfl) (by omega) hb534 (Nat.mul_one _) _)) (by kernel_rfl) rfl (fun _ => wo3.pick [] (by kernel_rfl) (by decide)) ?_
  intro ac535 En536
  have hb537 : 3 < List.length lx := by omega
  refine h_read (d := some 21) (s := nv (Instr.loadAt 5 (.pointer (some (Addr.add adr532 3))))) En536 (v := .int .u8 ((UInt8.toNat (List.getD lx 3 0) : Nat) : Int)) 18 (by kernel_rfl) (fun w hS => run_nv (run_loadel (ad := adr532) (o := 3) rfl (ix.ev hS).reads had533 (bys_getD hb537) (by kernel_rfl))) (by kernel_rfl) rfl (wo3.pick [] (by kernel_rfl) (by decide)) ?_
  intro ac538 En539
  refine h_pureR (d := some 22) En539 (v := .int .u32 (IntKind.wrap .u32 ((UInt8.toNat (List.getD lx 3 0) : Nat) : Int))) 19 (by kernel_rfl) (by kernel_rfl) rfl (fun _ => wo3.pick [] (by kernel_rfl) (by decide)) ?_
  intro ac540 En541
  rw [Go.Dbr.u8_to_u32 (a := ((UInt8.toNat (List.getD lx 3 0) : Nat) : Int)) (x := List.getD lx 3 0) rfl] at En541
  refine h_pureR (d := some 23) En541 (v := .int .u32 (IntKind.wrap .u32 (((UInt32.toNat (UInt8.toUInt32 (List.getD lx 3 0)) : Nat) : Int) * 2 ^ 24))) 20 (by kernel_rfl) (by kernel_rfl) rfl (fun _ => wo3.pick [] (by kernel_rfl) (by decide)) ?_
  intro ac542 En543
  rw [Go.Dbr.u32_shl (a := ((UInt32.toNat (UInt8.toUInt32 (List.getD lx 3 0)) : Nat) : Int)) (x := UInt8.toUInt32 (List.getD lx 3 0)) (n := 24) rfl (by decide)] at En543
  refine h_pureR (d := some 24) En543 (v := .int .u32 (IntKind.wrap .u32 ((BitVec.ofInt (IntKind.bits .u32) ((UInt32.toNat (((UInt8.toUInt32 (List.getD lx 0 0)) ||| ((UInt8.toUInt32 (List.getD lx 1 0)) <<< UInt32.ofNat 8)) ||| ((UInt8.toUInt32 (List.getD lx 2 0)) <<< UInt32.ofNat 16)) : Nat) : Int) ||| BitVec.ofInt (IntKind.bits .u32) ((UInt32.toNat ((UInt8.toUInt32 (List.getD lx 3 0)) <<< UInt32.ofNat 24) : Nat) : Int)).toNat : Int))) 21 (by kernel_rfl) (by kernel_rfl) rfl (fun _ => wo3.pick [] (by kernel_rfl) (by decide)) ?_
  intro ac544 En545
  rw [Go.Dbr.u32_or (a := ((UInt32.toNat (((UInt8.toUInt32 (List.getD lx 0 0)) ||| ((UInt8.toUInt32 (List.getD lx 1 0)) <<< UInt32.ofNat 8)) ||| ((UInt8.toUInt32 (List.getD lx 2 0)) <<< UInt32.ofNat 16)) : Nat) : Int)) (b := ((UInt32.toNat ((UInt8.toUInt32 (List.getD lx 3 0)) <<< UInt32.ofNat 24) : Nat) : Int)) (x := ((UInt8.toUInt32 (List.getD lx 0 0)) ||| ((UInt8.toUInt32 (List.getD lx 1 0)) <<< UInt32.ofNat 8)) ||| ((UInt8.toUInt32 (List.getD lx 2 0)) <<< UInt32.ofNat 16)) (y := (UInt8.toUInt32 (List.getD lx 3 0)) <<< UInt32.ofNat 24) rfl rfl] at En545
  refine h_pureR (d := some 2) En545 (v := .int .u32 ((UInt32.toNat ((((UInt8.toUInt32 (List.getD lx 0 0)) ||| ((UInt8.toUInt32 (List.getD lx 1 0)) <<< UInt32.ofNat 8)) ||| ((UInt8.toUInt32 (List.getD lx 2 0)) <<< UInt32.ofNat 16)) ||| ((UInt8.toUInt32 (List.getD lx 3 0)) <<< UInt32.ofNat 24)) : Nat) : Int)) 22 (by kernel_rfl) (by kernel_rfl) rfl (fun _ => wo3.pick [] (by kernel_rfl) (by decide)) ?_
  intro ac546 En547
  exact h_end (by kernel_rfl) ⟨En547.sub (by kernel_rfl), wo3.pick [] (by kernel_rfl) (by decide)⟩
 rintro ac548 wo549 ⟨En550, Hv551⟩
 refine then_normal ?_
 refine wp_ret ?_
 refine d_ret1 (t := 2) (v := .int .u32 ((UInt32.toNat ((((UInt8.toUInt32 (List.getD lx 0 0)) ||| ((UInt8.toUInt32 (List.getD lx 1 0)) <<< UInt32.ofNat 8)) ||| ((UInt8.toUInt32 (List.getD lx 2 0)) <<< UInt32.ofNat 16)) ||| ((UInt8.toUInt32 (List.getD lx 3 0)) <<< UInt32.ofNat 24)) : Nat) : Int)) En550 (by kernel_rfl) (by kernel_rfl) ?_
 have e : (((UInt8.toUInt32 (List.getD lx 0 0)) ||| ((UInt8.toUInt32 (List.getD lx 1 0)) <<< UInt32.ofNat 8)) ||| ((UInt8.toUInt32 (List.getD lx 2 0)) <<< UInt32.ofNat 16)) ||| ((UInt8.toUInt32 (List.getD lx 3 0)) <<< UInt32.ofNat 24) = partW lx 0 4 := by simp [partW]
 exact ⟨by rw [e], Hv551.pick [] (by kernel_rfl) (by decide)⟩

end Go.Proofs.Ytnahplggflhdaaa
