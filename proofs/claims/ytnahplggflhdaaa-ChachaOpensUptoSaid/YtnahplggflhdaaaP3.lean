/- Layer 9: the code of a text, by the program. -/
import Derived.Test.YtnahplggflhdaaaP2
import Derived.Test.YtnahplggflhdaaaHeld
namespace Go.Proofs.Ytnahplggflhdaaa
open Go.Dbr
set_option maxRecDepth 100000
set_option maxHeartbeats 2000000
set_option linter.unusedVariables false
set_option linter.unusedSimpArgs false

/-- the number of bytes, the lowest first -/
def leN : List UInt8 → Nat
  | [] => 0
  | b :: r => b.toNat + 256 * leN r
def chunk (l : List UInt8) (q : Nat) : List UInt8 := List.take 16 (List.drop (16 * q) l)
def macQ (r : Nat) (l : List UInt8) : Nat → Nat
  | 0 => 0
  | q + 1 => ((macQ r l q + (leN (chunk l q) + 256 ^ (chunk l q).length)) * r) % 1361129467683753853853498429727072845819
def twoF (w : List UInt32) (i : Nat) : UInt64 := UInt32.toUInt64 (List.getD w i 0) ||| (UInt32.toUInt64 (List.getD w (i + 1) 0) <<< UInt64.ofNat 32)
def rF (key : List UInt8) : List UInt64 := [twoF (wordsF key) 0 &&& 1152921487695413247, twoF (wordsF key) 2 &&& 1152921487695413244]
def macN (key text : List UInt8) : Nat := macQ (dv B64 (rF key)) text ((text.length + 15) / 16)
def polyB (key text : List UInt8) (j : Nat) : UInt8 := UInt8.ofNat ((macN key text + ((twoF (wordsF key) 4).toNat + B64 * (twoF (wordsF key) 6).toNat)) / 256 ^ j)
def polyF (key text : List UInt8) : List UInt8 := (List.range 16).map (polyB key text)
theorem polyF_len (key text : List UInt8) : (polyF key text).length = 16 := by simp [polyF]
def padF (c : List UInt8) : List UInt8 := c ++ [1] ++ List.replicate (23 - c.length) 0
theorem padF_len {c : List UInt8} (h : c.length ≤ 16) : (padF c).length = 24 := by simp [padF]; omega
theorem chunk_le (l : List UInt8) (q : Nat) : (chunk l q).length ≤ 16 := by simp [chunk]; omega
theorem pad_eq {Z D : List UInt8} {m : Nat} (hZ : Z = List.replicate 24 0) (hm : m = min D.length 16) : List.set (List.take 0 Z ++ List.take m D ++ List.drop (0 + m) Z) m 1 = padF (List.take 16 D) := by
  subst hZ
  have h1 : List.take m D = List.take 16 D := by
    subst hm
    by_cases h : D.length ≤ 16
    · rw [Nat.min_eq_left h, List.take_of_length_le (Nat.le_refl _), List.take_of_length_le h]
    · rw [Nat.min_eq_right (by omega)]
  have h2 : (List.take 16 D).length = m := by rw [List.length_take]; omega
  rw [h1, List.take_zero, List.nil_append, Nat.zero_add, List.drop_replicate]
  have h3 : 24 - m = (23 - m) + 1 := by omega
  rw [h3, List.replicate_succ, List.set_append, if_neg (by omega), h2, Nat.sub_self, List.set_cons_zero]
  unfold padF
  rw [h2, List.append_assoc]
  rfl

theorem two_go (w : World) (bk : Nat) (ak : Option Addr) (ck : Nat) (lw : List UInt32) (i : Nat) (hi : i + 1 < List.length lw) (hi2 : i ≤ 100) (hH : Heap w [.box bk [.slice ak (List.length lw) ck] 43, .vec ak ck 1 (u32s lw) 23]) : Calls Try.prog 25 #[ni i, pt bk] w fun e w' => e = .returned (.int .u64 ((UInt64.toNat (twoF lw i) : Nat) : Int)) ∧ Ev w [.box bk [.slice ak (List.length lw) ck] 43, .vec ak ck 1 (u32s lw) 23] w' [.box bk [.slice ak (List.length lw) ck] 43, .vec ak ck 1 (u32s lw) 23] := by
 refine d_start [(0, ni i), (1, pt bk)] 17 Go.Proofs.Try.func25 Go.Proofs.Try.ntmps25 rfl (by kernel_rfl) (by kernel_rfl) ?_
 intro act0 En0
 have Hv0 : Ev w [.box bk [.slice ak (List.length lw) ck] 43, .vec ak ck 1 (u32s lw) 23] w [.box bk [.slice ak (List.length lw) ck] 43, .vec ak ck 1 (u32s lw) 23] := Ev.refl (hH)
 refine wp_seq ?_
 refine region_from ?_
 refine d_pures [(0, ni i), (1, pt bk), (3, .int .u64 0)] [.int .u64 0] 1 En0 (by kernel_rfl) (by kernel_rfl) rfl ?_
 intro ac1 En2
 refine from_end (by kernel_rfl) ?_
 refine then_normal ?_
 refine wp_seq ?_
 refine region_cut (F := fun ac wo => Env ac 17 [(3, .int .u64 ((UInt64.toNat ((UInt32.toUInt64 (List.getD lw i 0)) ||| ((UInt32.toUInt64 (List.getD lw (i + 1) 0)) <<< UInt64.ofNat 32)) : Nat) : Int))] ∧ Ev w [.box bk [.slice ak (List.length lw) ck] 43, .vec ak ck 1 (u32s lw) 23] wo [.box bk [.slice ak (List.length lw) ck] 43, .vec ak ck 1 (u32s lw) 23]) ?_ ?_
 ·
  refine h_start (fun wv => Ev w [.box bk [.slice ak (List.length lw) ck] 43, .vec ak ck 1 (u32s lw) 23] wv [.box bk [.slice ak (List.length lw) ck] 43, .vec ak ck 1 (u32s lw) 23]) [] (by kernel_rfl) 14 (by kernel_rfl) ?_
  have wo3 := Hv0.trans (Ev.drew Hv0.heap)
  refine h_read (d := some 4) (s := nv (Instr.loadAt 43 (pt bk))) En2 (v := .slice ak (List.length lw) ck) 0 (by kernel_rfl) (fun w hS => run_nv (run_load1 (by kernel_rfl) (hS.heap.cell (k := 0) rfl rfl))) (by kernel_rfl) rfl (wo3.pick [0, 1] (by kernel_rfl) (by decide)) ?_
  intro ac158 En159
  refine h_pureR (d := some 5) En159 (v := ni i) 1 (by kernel_rfl) (by kernel_rfl) rfl (fun _ => wo3.pick [0, 1] (by kernel_rfl) (by decide)) ?_
  intro ac160 En161
  have hb164 : i < List.length lw := (by omega)
  obtain ⟨adr162, had163⟩ := some_of (u32s_vnz wo3.heap (k := 1) rfl) hb164
  refine h_free (d := some 6) (s := nv (Instr.indexAt 43 (.slice ak (List.length lw) ck) (ni i))) En161 (v := .pointer (some (Addr.add adr162 i))) 2 (by kernel_rfl) (fun _ => run_nv (Go.Dbr.run_indexsl (e := 23) (sz := 1) (j := i) (jo := i) had163 (by kernel_rfl) (by kernel_rfl) (by omega) hb164 (Nat.mul_one _) _)) (by kernel_rfl) rfl (fun _ => wo3.pick [0, 1] (by kernel_rfl) (by decide)) ?_
  intro ac165 En166
  have hb167 : i < List.length lw := by omega
  refine h_read (d := some 7) (s := nv (Instr.loadAt 23 (.pointer (some (Addr.add adr162 i))))) En166 (v := .int .u32 ((UInt32.toNat (List.getD lw i 0) : Nat) : Int)) 3 (by kernel_rfl) (fun w hS => run_nv (run_loadel (ad := adr162) (o := i) rfl (hS.heap.reads (k := 1) rfl) had163 (u32s_getD hb167) (by kernel_rfl))) (by kernel_rfl) rfl (wo3.pick [0, 1] (by kernel_rfl) (by decide)) ?_
  intro ac168 En169
  refine h_pureR (d := some 8) En169 (v := .int .u64 (IntKind.wrap .u64 ((UInt32.toNat (List.getD lw i 0) : Nat) : Int))) 4 (by kernel_rfl) (by kernel_rfl) rfl (fun _ => wo3.pick [0, 1] (by kernel_rfl) (by decide)) ?_
  intro ac170 En171
  rw [Go.Dbr.u32_to_u64 (a := ((UInt32.toNat (List.getD lw i 0) : Nat) : Int)) (x := List.getD lw i 0) rfl] at En171
  refine h_read (d := some 9) (s := nv (Instr.loadAt 43 (pt bk))) En171 (v := .slice ak (List.length lw) ck) 5 (by kernel_rfl) (fun w hS => run_nv (run_load1 (by kernel_rfl) (hS.heap.cell (k := 0) rfl rfl))) (by kernel_rfl) rfl (wo3.pick [0, 1] (by kernel_rfl) (by decide)) ?_
  intro ac172 En173
  refine h_pureR (d := some 10) En173 (v := ni i) 6 (by kernel_rfl) (by kernel_rfl) rfl (fun _ => wo3.pick [0, 1] (by kernel_rfl) (by decide)) ?_
  intro ac174 En175
  refine h_pureR (d := some 11) En175 (v := .int .i64 (IntKind.wrap .i64 (((i : Nat) : Int) + (1 : Int)))) 7 (by kernel_rfl) (by kernel_rfl) rfl (fun _ => wo3.pick [0, 1] (by kernel_rfl) (by decide)) ?_
  intro ac176 En177
  rw [Go.Dbr.wr64 (e := ((i : Nat) : Int) + (1 : Int)) (x := ((i + 1 : Nat) : Int)) (by omega) (by omega) (by omega)] at En177
  have hb180 : i + 1 < List.length lw := (by omega)
  obtain ⟨adr178, had179⟩ := some_of (u32s_vnz wo3.heap (k := 1) rfl) hb180
  refine h_free (d := some 12) (s := nv (Instr.indexAt 43 (.slice ak (List.length lw) ck) (.int .i64 ((i + 1 : Nat) : Int)))) En177 (v := .pointer (some (Addr.add adr178 (i + 1)))) 8 (by kernel_rfl) (fun _ => run_nv (Go.Dbr.run_indexsl (e := 23) (sz := 1) (j := i + 1) (jo := i + 1) had179 (by kernel_rfl) (by kernel_rfl) (by omega) hb180 (Nat.mul_one _) _)) (by kernel_rfl) rfl (fun _ => wo3.pick [0, 1] (by kernel_rfl) (by decide)) ?_
  intro ac181 En182
  have hb183 : i + 1 < List.length lw := by omega
  refine h_read (d := some 13) (s := nv (Instr.loadAt 23 (.pointer (some (Addr.add adr178 (i + 1)))))) En182 (v := .int .u32 ((UInt32.toNat (List.getD lw (i + 1) 0) : Nat) : Int)) 9 (by kernel_rfl) (fun w hS => run_nv (run_loadel (ad := adr178) (o := i + 1) rfl (hS.heap.reads (k := 1) rfl) had179 (u32s_getD hb183) (by kernel_rfl))) (by kernel_rfl) rfl (wo3.pick [0, 1] (by kernel_rfl) (by decide)) ?_
  intro ac184 En185
  refine h_pureR (d := some 14) En185 (v := .int .u64 (IntKind.wrap .u64 ((UInt32.toNat (List.getD lw (i + 1) 0) : Nat) : Int))) 10 (by kernel_rfl) (by kernel_rfl) rfl (fun _ => wo3.pick [0, 1] (by kernel_rfl) (by decide)) ?_
  intro ac186 En187
  rw [Go.Dbr.u32_to_u64 (a := ((UInt32.toNat (List.getD lw (i + 1) 0) : Nat) : Int)) (x := List.getD lw (i + 1) 0) rfl] at En187
  refine h_pureR (d := some 15) En187 (v := .int .u64 (IntKind.wrap .u64 (((UInt64.toNat (UInt32.toUInt64 (List.getD lw (i + 1) 0)) : Nat) : Int) * 2 ^ 32))) 11 (by kernel_rfl) (by kernel_rfl) rfl (fun _ => wo3.pick [0, 1] (by kernel_rfl) (by decide)) ?_
  intro ac188 En189
  rw [Go.Dbr.u64_shl (a := ((UInt64.toNat (UInt32.toUInt64 (List.getD lw (i + 1) 0)) : Nat) : Int)) (x := UInt32.toUInt64 (List.getD lw (i + 1) 0)) (n := 32) rfl (by decide)] at En189
  refine h_pureR (d := some 16) En189 (v := .int .u64 (IntKind.wrap .u64 ((BitVec.ofInt (IntKind.bits .u64) ((UInt64.toNat (UInt32.toUInt64 (List.getD lw i 0)) : Nat) : Int) ||| BitVec.ofInt (IntKind.bits .u64) ((UInt64.toNat ((UInt32.toUInt64 (List.getD lw (i + 1) 0)) <<< UInt64.ofNat 32) : Nat) : Int)).toNat : Int))) 12 (by kernel_rfl) (by kernel_rfl) rfl (fun _ => wo3.pick [0, 1] (by kernel_rfl) (by decide)) ?_
  intro ac190 En191
  rw [Go.Dbr.u64_or (a := ((UInt64.toNat (UInt32.toUInt64 (List.getD lw i 0)) : Nat) : Int)) (b := ((UInt64.toNat ((UInt32.toUInt64 (List.getD lw (i + 1) 0)) <<< UInt64.ofNat 32) : Nat) : Int)) (x := UInt32.toUInt64 (List.getD lw i 0)) (y := (UInt32.toUInt64 (List.getD lw (i + 1) 0)) <<< UInt64.ofNat 32) rfl rfl] at En191
  refine h_pureR (d := some 3) En191 (v := .int .u64 ((UInt64.toNat ((UInt32.toUInt64 (List.getD lw i 0)) ||| ((UInt32.toUInt64 (List.getD lw (i + 1) 0)) <<< UInt64.ofNat 32)) : Nat) : Int)) 13 (by kernel_rfl) (by kernel_rfl) rfl (fun _ => wo3.pick [0, 1] (by kernel_rfl) (by decide)) ?_
  intro ac192 En193
  exact h_end (by kernel_rfl) ⟨En193.sub (by kernel_rfl), wo3.pick [0, 1] (by kernel_rfl) (by decide)⟩
 rintro ac194 wo195 ⟨En196, Hv197⟩
 refine then_normal ?_
 refine wp_ret ?_
 refine d_ret1 (t := 3) (v := .int .u64 ((UInt64.toNat ((UInt32.toUInt64 (List.getD lw i 0)) ||| ((UInt32.toUInt64 (List.getD lw (i + 1) 0)) <<< UInt64.ofNat 32)) : Nat) : Int)) En196 (by kernel_rfl) (by kernel_rfl) ?_
 exact ⟨rfl, Hv197.pick [0, 1] (by kernel_rfl) (by decide)⟩

theorem macQ_lt (r : Nat) (l : List UInt8) (q : Nat) : macQ r l q < 1361129467683753853853498429727072845819 := by
  cases q with
  | zero => show 0 < _; decide
  | succ q => exact Nat.mod_lt _ (by decide)
theorem rF_lt (key : List UInt8) : dv B64 (rF key) < 21267647932558653966460912964485513216 := by
  have h1 : ∀ (x : UInt64), (x &&& 1152921487695413247).toNat ≤ 1152921487695413247 := fun x => by rw [UInt64.toNat_and]; exact Nat.and_le_right
  have h2 : ∀ (x : UInt64), (x &&& 1152921487695413244).toNat ≤ 1152921487695413244 := fun x => by rw [UInt64.toNat_and]; exact Nat.and_le_right
  have a1 := h1 (twoF (wordsF key) 0)
  have a2 := h2 (twoF (wordsF key) 2)
  simp only [rF, dv, B64, Nat.mul_zero, Nat.add_zero]
  omega
def loF (c : List UInt8) (j : Nat) : UInt64 := UInt32.toUInt64 (List.getD (wordsF (padF c)) j 0) ||| (UInt32.toUInt64 (List.getD (wordsF (padF c)) (j + 1) 0) <<< UInt64.ofNat 32)
theorem leN_append (a b : List UInt8) : leN (a ++ b) = leN a + 256 ^ a.length * leN b := by
  induction a with
  | nil => simp [leN]
  | cons x r ih =>
    rw [List.cons_append, leN, leN, ih, List.length_cons, Nat.pow_succ, Nat.mul_add, Nat.mul_comm (256 ^ r.length) 256, Nat.mul_assoc, Nat.add_assoc]
theorem leN_zeros (n : Nat) : leN (List.replicate n 0) = 0 := by
  induction n with
  | zero => rfl
  | succ n ih => rw [List.replicate_succ, leN, ih]; rfl
theorem leN_lt (l : List UInt8) : leN l < 256 ^ l.length := by
  induction l with
  | nil => decide
  | cons x r ih =>
    have := x.toNat_lt
    rw [leN, List.length_cons, Nat.pow_succ]
    omega
theorem leN_pad {c : List UInt8} : leN (padF c) = leN c + 256 ^ c.length := by
  unfold padF
  rw [leN_append, leN_append, leN_zeros, leN, leN]
  show leN c + 256 ^ c.length * (1 + 256 * 0) + _ * 0 = _
  omega
theorem or_byte {u : UInt32} {b : UInt8} {k : Nat} (hk : k < 4) (hu : u.toNat < 2 ^ (8 * k)) : (u ||| (UInt8.toUInt32 b <<< UInt32.ofNat (8 * k))).toNat = u.toNat + 2 ^ (8 * k) * b.toNat := by
  have hb := b.toNat_lt
  have h1 : (UInt32.ofNat (8 * k)).toNat = 8 * k := by
    show (BitVec.ofNat 32 (8 * k)).toNat = _
    rw [BitVec.toNat_ofNat]
    omega
  have h2 : (UInt8.toUInt32 b <<< UInt32.ofNat (8 * k)).toNat = b.toNat <<< (8 * k) := by
    rw [UInt32.toNat_shiftLeft, h1, UInt8.toNat_toUInt32]
    rw [Nat.mod_eq_of_lt (show 8 * k < 32 by omega), Nat.shiftLeft_eq]
    apply Nat.mod_eq_of_lt
    have h3 : 2 ^ (8 * k) ≤ 2 ^ 24 := Nat.pow_le_pow_right (by decide) (by omega)
    have h4 : b.toNat * 2 ^ (8 * k) ≤ 255 * 2 ^ 24 := Nat.mul_le_mul (by omega) h3
    omega
  rw [UInt32.toNat_or, h2, Nat.or_comm, ← Nat.shiftLeft_add_eq_or_of_lt hu, Nat.shiftLeft_eq, Nat.mul_comm, Nat.add_comm]
theorem partW_val (l : List UInt8) (i : Nat) : (partW l i 4).toNat = (List.getD l (4 * i) 0).toNat + 256 * ((List.getD l (4 * i + 1) 0).toNat + 256 * ((List.getD l (4 * i + 2) 0).toNat + 256 * (List.getD l (4 * i + 3) 0).toNat)) := by
  have b0 := (List.getD l (4 * i) 0).toNat_lt
  have b1 := (List.getD l (4 * i + 1) 0).toNat_lt
  have b2 := (List.getD l (4 * i + 2) 0).toNat_lt
  have p1 : (partW l i 1).toNat = (List.getD l (4 * i) 0).toNat := by
    unfold partW
    rw [or_byte (by decide) (by show 0 < 1; decide)]
    show 0 + 1 * _ = _
    rw [Nat.zero_add, Nat.one_mul]
    rfl
  have p2 : (partW l i 2).toNat = (partW l i 1).toNat + 256 * (List.getD l (4 * i + 1) 0).toNat := by
    rw [partW, or_byte (by decide) (by rw [p1]; exact b0)]
  have p3 : (partW l i 3).toNat = (partW l i 2).toNat + 65536 * (List.getD l (4 * i + 2) 0).toNat := by
    rw [partW, or_byte (by decide) (by rw [p2, p1]; show _ < 65536; omega)]
  have p4 : (partW l i 4).toNat = (partW l i 3).toNat + 16777216 * (List.getD l (4 * i + 3) 0).toNat := by
    rw [partW, or_byte (by decide) (by rw [p3, p2, p1]; show _ < 16777216; omega)]
  rw [p4, p3, p2, p1]
  omega
theorem or_word (x y : UInt32) : (UInt32.toUInt64 x ||| (UInt32.toUInt64 y <<< UInt64.ofNat 32)).toNat = x.toNat + 4294967296 * y.toNat := by
  have hx := x.toNat_lt
  have hy := y.toNat_lt
  have h2 : (UInt32.toUInt64 y <<< UInt64.ofNat 32).toNat = y.toNat <<< 32 := by
    rw [UInt64.toNat_shiftLeft, UInt32.toNat_toUInt64]
    show (y.toNat <<< (32 % 64)) % 2 ^ 64 = _
    rw [Nat.shiftLeft_eq]
    apply Nat.mod_eq_of_lt
    show y.toNat * 4294967296 < 18446744073709551616
    omega
  rw [UInt64.toNat_or, h2, UInt32.toNat_toUInt64, Nat.or_comm, ← Nat.shiftLeft_add_eq_or_of_lt hx, Nat.shiftLeft_eq]
  omega
theorem words_get {l : List UInt8} {i : Nat} (h : i < l.length / 4) : List.getD (wordsF l) i 0 = partW l i 4 := by
  simp [wordsF, List.getD, h]
theorem partW_leN {l : List UInt8} {i : Nat} (h : 4 * i + 4 ≤ l.length) : (partW l i 4).toNat = leN (List.take 4 (List.drop (4 * i) l)) := by
  rw [partW_val]
  have e : ∀ k, List.getD l (4 * i + k) 0 = List.getD (List.drop (4 * i) l) k 0 := fun k => by simp [List.getD, List.getElem?_drop]
  have e0 : List.getD l (4 * i) 0 = List.getD (List.drop (4 * i) l) 0 0 := e 0
  have hl : 4 ≤ (List.drop (4 * i) l).length := by rw [List.length_drop]; omega
  rw [e0, e 1, e 2, e 3]
  generalize List.drop (4 * i) l = d at *
  match d, hl with
  | a :: b :: c :: e :: r, _ => simp [leN, List.getD]
theorem leN_four {l : List UInt8} {i : Nat} (h : i + 4 ≤ l.length) : leN (List.drop i l) = leN (List.take 4 (List.drop i l)) + 4294967296 * leN (List.drop (i + 4) l) := by
  have h1 := leN_append (List.take 4 (List.drop i l)) (List.drop 4 (List.drop i l))
  rw [List.take_append_drop, List.drop_drop, List.length_take, List.length_drop, Nat.min_eq_left (by omega)] at h1
  exact h1
theorem leN24 {l : List UInt8} (h : l.length = 24) : leN l = (List.getD (wordsF l) 0 0).toNat + 4294967296 * ((List.getD (wordsF l) 1 0).toNat + 4294967296 * ((List.getD (wordsF l) 2 0).toNat + 4294967296 * ((List.getD (wordsF l) 3 0).toNat + 4294967296 * ((List.getD (wordsF l) 4 0).toNat + 4294967296 * (List.getD (wordsF l) 5 0).toNat)))) := by
  have a0 := leN_four (l := l) (i := 0) (by omega)
  have a1 := leN_four (l := l) (i := 4) (by omega)
  have a2 := leN_four (l := l) (i := 8) (by omega)
  have a3 := leN_four (l := l) (i := 12) (by omega)
  have a4 := leN_four (l := l) (i := 16) (by omega)
  have a5 := leN_four (l := l) (i := 20) (by omega)
  have a6 : leN (List.drop (20 + 4) l) = 0 := by rw [List.drop_eq_nil_of_le (by omega)]; rfl
  have w : ∀ i, i < 6 → (List.getD (wordsF l) i 0).toNat = leN (List.take 4 (List.drop (4 * i) l)) := fun i hi => by rw [words_get (by omega), partW_leN (by omega)]
  rw [w 0 (by decide), w 1 (by decide), w 2 (by decide), w 3 (by decide), w 4 (by decide), w 5 (by decide)]
  have e : leN l = leN (List.drop 0 l) := rfl
  rw [e, a0, a1, a2, a3, a4, a5, a6]
  simp only [Nat.reduceMul, Nat.reduceAdd, Nat.mul_zero, Nat.add_zero, Nat.zero_add]
/-- the number that a block adds -/
theorem block_val {c : List UInt8} (h : c.length ≤ 16) : (loF c 0).toNat + B64 * (loF c 2).toNat + B64 * (B64 * (UInt32.toUInt64 (List.getD (wordsF (padF c)) 4 0)).toNat) = leN c + 256 ^ c.length := by
  have h1 := leN24 (padF_len h)
  rw [leN_pad] at h1
  have h2 : leN c + 256 ^ c.length < 256 ^ 17 := by
    have := leN_lt c
    have h3 : 256 ^ c.length ≤ 256 ^ 16 := Nat.pow_le_pow_right (by decide) h
    have h4 : (256 : Nat) ^ 16 = 340282366920938463463374607431768211456 := rfl
    have h5 : (256 : Nat) ^ 17 = 87112285931760246646623899502532662132736 := rfl
    omega
  have h5 : (256 : Nat) ^ 17 = 87112285931760246646623899502532662132736 := rfl
  unfold loF
  rw [or_word, or_word, UInt32.toNat_toUInt64]
  simp only [Nat.zero_add, Nat.reduceAdd]
  have w5 : (List.getD (wordsF (padF c)) 5 0).toNat = 0 := by omega
  rw [w5] at h1
  simp only [B64]
  omega

end Go.Proofs.Ytnahplggflhdaaa
