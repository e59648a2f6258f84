/- Layer 5: a block is taken into a state. -/
import Derived.Test.YtbpihljkkkeijaaDoorS2
namespace Go.Proofs.YtbpihljkkkeijaaDoor
open Go.Dbr
set_option maxRecDepth 100000
set_option maxHeartbeats 2000000
set_option linter.unusedVariables false
set_option linter.unusedSimpArgs false

theorem seg_eq {l : List Value} {i j : Nat} {v : Option Value} (h : i = j) (e : l[j]? = v) : l[i]? = v := by rw [h]; exact e
theorem set_eq {l m : List Value} {i j : Nat} {v : Value} (h : i = j) (e : l.set j v = m) : l.set i v = m := by rw [h]; exact e

theorem v8 {α : Type} {v : List α} (h : v.length = 8) : ∃ a0 a1 a2 a3 a4 a5 a6 a7, v = [a0, a1, a2, a3, a4, a5, a6, a7] := by
  match v, h with
  | [a0, a1, a2, a3, a4, a5, a6, a7], _ => exact ⟨a0, a1, a2, a3, a4, a5, a6, a7, rfl⟩

def K32 : List UInt32 := [1116352408, 1899447441, 3049323471, 3921009573, 961987163, 1508970993, 2453635748, 2870763221, 3624381080, 310598401, 607225278, 1426881987, 1925078388, 2162078206, 2614888103, 3248222580, 3835390401, 4022224774, 264347078, 604807628, 770255983, 1249150122, 1555081692, 1996064986, 2554220882, 2821834349, 2952996808, 3210313671, 3336571891, 3584528711, 113926993, 338241895, 666307205, 773529912, 1294757372, 1396182291, 1695183700, 1986661051, 2177026350, 2456956037, 2730485921, 2820302411, 3259730800, 3345764771, 3516065817, 3600352804, 4094571909, 275423344, 430227734, 506948616, 659060556, 883997877, 958139571, 1322822218, 1537002063, 1747873779, 1955562222, 2024104815, 2227730452, 2361852424, 2428436474, 2756734187, 3204031479, 3329325298]
def sch32 (w : List UInt32) : Nat → List UInt32
  | 0 => w
  | q + 1 => sch32 w q ++ [((mix32 (List.getD (sch32 w q) (14 + q) 0) 17 19 10 true + List.getD (sch32 w q) (9 + q) 0) + mix32 (List.getD (sch32 w q) (1 + q) 0) 7 18 3 true) + List.getD (sch32 w q) q 0]
theorem sch32_len (w : List UInt32) (q : Nat) : (sch32 w q).length = w.length + q := by
  induction q with
  | zero => rfl
  | succ q ih => rw [sch32, List.length_append, ih]; rfl
def x32 (v : List UInt32) (k w : UInt32) : UInt32 := (((List.getD v 7 0 + mix32 (List.getD v 4 0) 6 11 25 false) + (List.getD v 6 0 ^^^ (List.getD v 4 0 &&& (List.getD v 5 0 ^^^ List.getD v 6 0)))) + k) + w
def y32 (v : List UInt32) : UInt32 := mix32 (List.getD v 0 0) 2 13 22 false + ((List.getD v 0 0 &&& List.getD v 1 0) ||| (List.getD v 2 0 &&& (List.getD v 0 0 ||| List.getD v 1 0)))
def step32 (v : List UInt32) (k w : UInt32) : List UInt32 := [x32 v k w + y32 v, List.getD v 0 0, List.getD v 1 0, List.getD v 2 0, List.getD v 3 0 + x32 v k w, List.getD v 4 0, List.getD v 5 0, List.getD v 6 0]
def rnd32 (w v : List UInt32) : Nat → List UInt32
  | 0 => v
  | j + 1 => step32 (rnd32 w v j) (List.getD K32 j 0) (List.getD w j 0)
def add32 (s v : List UInt32) : Nat → List UInt32
  | 0 => s
  | i + 1 => List.set (add32 s v i) i (List.getD (add32 s v i) i 0 + List.getD v i 0)
theorem add32_len {s : List UInt32} {m : Nat} (h : s.length = m) (v : List UInt32) (i : Nat) : (add32 s v i).length = m := by
  induction i with
  | zero => exact h
  | succ i ih => simp [add32, ih]
/-- a state behind a block's words -/
def blk32 (s w : List UInt32) : List UInt32 := add32 s (rnd32 (sch32 w 48) s 64) 8
theorem blk32_len {s : List UInt32} {m : Nat} (h : s.length = m) (w : List UInt32) : (blk32 s w).length = m := add32_len h _ _

def K64 : List UInt64 := [4794697086780616226, 8158064640168781261, 13096744586834688815, 16840607885511220156, 4131703408338449720, 6480981068601479193, 10538285296894168987, 12329834152419229976, 15566598209576043074, 1334009975649890238, 2608012711638119052, 6128411473006802146, 8268148722764581231, 9286055187155687089, 11230858885718282805, 13951009754708518548, 16472876342353939154, 17275323862435702243, 1135362057144423861, 2597628984639134821, 3308224258029322869, 5365058923640841347, 6679025012923562964, 8573033837759648693, 10970295158949994411, 12119686244451234320, 12683024718118986047, 13788192230050041572, 14330467153632333762, 15395433587784984357, 489312712824947311, 1452737877330783856, 2861767655752347644, 3322285676063803686, 5560940570517711597, 5996557281743188959, 7280758554555802590, 8532644243296465576, 9350256976987008742, 10552545826968843579, 11727347734174303076, 12113106623233404929, 14000437183269869457, 14369950271660146224, 15101387698204529176, 15463397548674623760, 17586052441742319658, 1182934255886127544, 1847814050463011016, 2177327727835720531, 2830643537854262169, 3796741975233480872, 4115178125766777443, 5681478168544905931, 6601373596472566643, 7507060721942968483, 8399075790359081724, 8693463985226723168, 9568029438360202098, 10144078919501101548, 10430055236837252648, 11840083180663258601, 13761210420658862357, 14299343276471374635, 14566680578165727644, 15097957966210449927, 16922976911328602910, 17689382322260857208, 500013540394364858, 748580250866718886, 1242879168328830382, 1977374033974150939, 2944078676154940804, 3659926193048069267, 4368137639120453308, 4836135668995329356, 5532061633213252278, 6448918945643986474, 6902733635092675308, 7801388544844847127]
def sch64 (w : List UInt64) : Nat → List UInt64
  | 0 => w
  | q + 1 => sch64 w q ++ [((mix64 (List.getD (sch64 w q) (14 + q) 0) 19 61 6 true + List.getD (sch64 w q) (9 + q) 0) + mix64 (List.getD (sch64 w q) (1 + q) 0) 1 8 7 true) + List.getD (sch64 w q) q 0]
theorem sch64_len (w : List UInt64) (q : Nat) : (sch64 w q).length = w.length + q := by
  induction q with
  | zero => rfl
  | succ q ih => rw [sch64, List.length_append, ih]; rfl
def x64 (v : List UInt64) (k w : UInt64) : UInt64 := (((List.getD v 7 0 + mix64 (List.getD v 4 0) 14 18 41 false) + (List.getD v 6 0 ^^^ (List.getD v 4 0 &&& (List.getD v 5 0 ^^^ List.getD v 6 0)))) + k) + w
def y64 (v : List UInt64) : UInt64 := mix64 (List.getD v 0 0) 28 34 39 false + ((List.getD v 0 0 &&& List.getD v 1 0) ||| (List.getD v 2 0 &&& (List.getD v 0 0 ||| List.getD v 1 0)))
def step64 (v : List UInt64) (k w : UInt64) : List UInt64 := [x64 v k w + y64 v, List.getD v 0 0, List.getD v 1 0, List.getD v 2 0, List.getD v 3 0 + x64 v k w, List.getD v 4 0, List.getD v 5 0, List.getD v 6 0]
def rnd64 (w v : List UInt64) : Nat → List UInt64
  | 0 => v
  | j + 1 => step64 (rnd64 w v j) (List.getD K64 j 0) (List.getD w j 0)
def add64 (s v : List UInt64) : Nat → List UInt64
  | 0 => s
  | i + 1 => List.set (add64 s v i) i (List.getD (add64 s v i) i 0 + List.getD v i 0)
theorem add64_len {s : List UInt64} {m : Nat} (h : s.length = m) (v : List UInt64) (i : Nat) : (add64 s v i).length = m := by
  induction i with
  | zero => exact h
  | succ i ih => simp [add64, ih]
/-- a state behind a block's words -/
def blk64 (s w : List UInt64) : List UInt64 := add64 s (rnd64 (sch64 w 64) s 80) 8
theorem blk64_len {s : List UInt64} {m : Nat} (h : s.length = m) (w : List UInt64) : (blk64 s w).length = m := add64_len h _ _

abbrev kL32 : List Value := [Value.int .i64 32, Value.int .i64 7, Value.int .i64 18, Value.int .i64 3, Value.int .i64 17, Value.int .i64 19, Value.int .i64 10, Value.int .i64 2, Value.int .i64 13, Value.int .i64 22, Value.int .i64 6, Value.int .i64 11, Value.int .i64 25]
abbrev kL64 : List Value := [Value.int .i64 64, Value.int .i64 1, Value.int .i64 8, Value.int .i64 7, Value.int .i64 19, Value.int .i64 61, Value.int .i64 6, Value.int .i64 28, Value.int .i64 34, Value.int .i64 39, Value.int .i64 14, Value.int .i64 18, Value.int .i64 41]
abbrev dB (b : Nat) (hh : Int) (s : List UInt32) (s2 : List UInt64) (a : Option Addr) (n c : Nat) (dn : UInt64) : Ent := Ent.box b ([Value.int .i64 hh] ++ (u32s s ++ (u64s s2 ++ [Value.slice a n c, uv64 dn]))) 58

end Go.Proofs.YtbpihljkkkeijaaDoor
