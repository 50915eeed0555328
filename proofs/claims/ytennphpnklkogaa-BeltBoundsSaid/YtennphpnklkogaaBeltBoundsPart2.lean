/- BeltBounds: for every input the law answers true and its arguments read as before; no condition. Part 2 of 6: BSpec, Types, W1, W2, W3, W4, W5, W6, W7, W8, W9, BFlow, W10, BShare. -/
import Derived.Test.YtennphpnklkogaaProg
import Derived.Test.YtennphpnklkogaaBeltBoundsPart1
set_option linter.unusedSimpArgs false
set_option linter.unusedVariables false
/- What the functions of layer 5 compute, in plain words. -/
namespace Go.Sx

def inD (n lo hi : Int) : Bool := decide (lo ≤ n ∧ n ≤ hi)
/-- The first of so many, -1 if there is none. -/
def findI (n : Nat) (p : Nat → Bool) : Int := match (List.range n).find? p with
  | some i => i
  | none => -1
def allI (n : Nat) (p : Nat → Bool) : Bool := (List.range n).all p
theorem findI_neg (n : Nat) (p : Nat → Bool) : decide (0 ≤ findI n p) = !(allI n fun i => !p i) := by
  unfold findI allI
  cases hf : (List.range n).find? p with
  | none =>
    simp only [List.find?_eq_none] at hf
    have : ((List.range n).all fun i => !p i) = true := by
      simp only [List.all_eq_true]; intro x hx; have := hf x hx; simpa using this
    simp [this]
  | some i =>
    have h1 := List.find?_some hf
    have h2 := List.mem_of_find?_eq_some hf
    have : ((List.range n).all fun i => !p i) = false := by
      simp only [List.all_eq_false]; exact ⟨i, h2, by simp [h1]⟩
    simp [this]
theorem findI_at {n k : Nat} {p : Nat → Bool} (hk : k < n) (hb : ∀ i, i < k → p i = false) (hp : p k = true) : findI n p = k := by
  have : (List.range n).find? p = some k := by
    rw [List.find?_eq_some_iff_getElem]
    refine ⟨hp, k, by simpa using hk, by simp, fun j hj => ?_⟩
    simp [hb j hj]
  simp [findI, this]
theorem findI_none {n : Nat} {p : Nat → Bool} (hb : ∀ i, i < n → p i = false) : findI n p = -1 := by
  have : (List.range n).find? p = none := by
    simp only [List.find?_eq_none]; intro x hx; have := hb x (by simpa using hx); simp [this]
  simp [findI, this]

def risesD (l : List Int) : Bool := allI (l.length - 1) fun i => decide (l.getD i 0 < l.getD (i + 1) 0)
def piecesD (t : Nat → Int) : Bool := allI 5 fun m => inD (t m) 0 60
def checkD (b : BeltD) : Int :=
  if (!(inD b.nt 1 8) || decide (b.nh > 5)) = true then 3
  else if (!(allI b.nt fun i => piecesD (b.tray i))) = true then 4
  else if (!(allI b.nh fun i => inD (b.hand i).str 0 40 && inD (b.hand i).tire 0 10 && inD (b.hand i).slip 0 100)) = true then 4
  else if (!(allI b.nh fun i => allI (b.hand i).rests.length fun j => inD ((b.hand i).rests.getD j 0) 0 (b.nt - 1))) = true then 2
  else if (!(allI b.nh fun i => risesD (b.hand i).rests)) = true then 6
  else 0

/-- The force of a hand at a tray, and how often it has taken since its last rest. -/
def forceS (H : HandD) (s : Int × Int) (t : Nat) : Int × Int := if H.rests.contains (t : Int) then (0, 0) else (max 0 (H.str - H.tire * s.2), s.2 + 1)
def forceN (H : HandD) (k : Nat) : Int × Int := (List.range k).foldl (forceS H) (0, 0)
def forceD (H : HandD) (t : Nat) : Int := (forceN H (t + 1)).1
theorem forceN_succ (H : HandD) (k : Nat) : forceN H (k + 1) = forceS H (forceN H k) k := by
  simp [forceN, List.range_succ, List.foldl_append]

def sumN : Nat → (Nat → Int) → Int
  | 0, _ => 0
  | n + 1, f => sumN n f + f n
theorem sumN_congr {n : Nat} {f g : Nat → Int} (h : ∀ i, i < n → f i = g i) : sumN n f = sumN n g := by
  induction n with
  | zero => rfl
  | succ n ih => simp only [sumN]; rw [ih (fun i hi => h i (by omega)), h n (by omega)]
theorem sumN_bound {n : Nat} {f : Nat → Int} {B : Int} (h : ∀ i, i < n → 0 ≤ f i ∧ f i ≤ B) : 0 ≤ sumN n f ∧ sumN n f ≤ B * n := by
  induction n with
  | zero => simp [sumN]
  | succ n ih =>
    have h1 := ih (fun i hi => h i (by omega))
    have h2 := h n (by omega)
    simp only [sumN]
    have e : B * ((n + 1 : Nat) : Int) = B * n + B := by rw [Int.natCast_add, Int.mul_add]; simp
    rw [e]; omega
theorem contains_all (l : List Int) (x : Int) : (!(allI l.length fun i => !decide (x = l.getD i 0))) = l.contains x := by
  rw [Bool.eq_iff_iff]
  simp only [allI, Bool.not_eq_true', List.all_eq_false, List.mem_range, Bool.not_eq_true', decide_eq_false_iff_not, Decidable.not_not, List.contains_iff_mem]
  constructor
  · rintro ⟨i, hi, h⟩
    have e : l.getD i 0 = l[i] := by simp [List.getD_eq_getElem?_getD, hi]
    rw [e] at h
    have h : x = l[i] := by simpa using h
    rw [h]; exact List.getElem_mem hi
  · intro h
    obtain ⟨i, hi, e⟩ := List.getElem_of_mem h
    refine ⟨i, hi, ?_⟩
    simp [List.getD_eq_getElem?_getD, hi, e]
structure OKH (H : HandD) : Prop where
  s0 : 0 ≤ H.str
  s1 : H.str ≤ 40
  t0 : 0 ≤ H.tire
  t1 : H.tire ≤ 10
theorem forceN_bound {H : HandD} (o : OKH H) (k : Nat) : 0 ≤ (forceN H k).1 ∧ (forceN H k).1 ≤ 40 ∧ 0 ≤ (forceN H k).2 ∧ (forceN H k).2 ≤ k := by
  induction k with
  | zero => simp [forceN]
  | succ k ih =>
    rw [forceN_succ]
    unfold forceS
    split
    · simp; omega
    · obtain ⟨s0, s1, t0, t1⟩ := o
      have h1 : 0 ≤ H.tire * (forceN H k).2 := Int.mul_nonneg t0 ih.2.2.1
      refine ⟨?_, ?_, ?_, ?_⟩ <;> simp only <;> omega

/-! Sets of materials, as numbers. -/
def setL (s : Nat) : List Nat := (List.range 5).filter fun m => s.testBit m
def anyTake (H : HandD) (s : Nat) : Bool := (setL s).any H.takes
def behindD (H : Nat → HandD) (nh tray s : Nat) : Int := sumN nh fun i => if anyTake (H i) s = true then forceD (H i) tray else 0
def bitsOf (l : List Int) : Nat := l.foldl (fun s m => s ||| (1 <<< m.toNat)) 0
theorem bit_of : ∀ s : Fin 32, ∀ m : Fin 5, IntKind.i64.wrap (BitVec.ofInt IntKind.i64.bits (((s : Nat) : Int).fdiv (2 ^ (min ((m : Nat) : Int).toNat IntKind.i64.bits))) &&& BitVec.ofInt IntKind.i64.bits 1).toNat = if (s : Nat).testBit m then 1 else 0 := by decide +kernel
theorem bit_or : ∀ s : Fin 32, ∀ m : Fin 5, IntKind.i64.wrap (BitVec.ofInt IntKind.i64.bits ((s : Nat) : Int) ||| BitVec.ofInt IntKind.i64.bits (IntKind.i64.wrap (1 * 2 ^ (min ((m : Nat) : Int).toNat IntKind.i64.bits)))).toNat = (((s : Nat) ||| (1 <<< (m : Nat)) : Nat) : Int) ∧ ((s : Nat) ||| (1 <<< (m : Nat))) < 32 := by decide +kernel

def chosenE (l : List Int) : Int := if (!(allI l.length fun i => inD (l.getD i 0) 0 4)) = true then 2 else if (!risesD l) = true then 6 else 0
theorem bitsOf_append (l : List Int) (x : Int) : bitsOf (l ++ [x]) = bitsOf l ||| (1 <<< x.toNat) := by simp [bitsOf, List.foldl_append]
def keptE (b : BeltD) (left : Nat → Int) : Int := if checkD b = 0 then (if piecesD left = true then 0 else 4) else checkD b
def keptD (left t : Nat → Int) (m : Nat) : Int := max 0 (t m - left m)
def wholeD (t : Nat → Int) (m : Nat) : Int := t m
theorem allI_iff {n : Nat} {p : Nat → Bool} : allI n p = true ↔ ∀ i, i < n → p i = true := by simp [allI]
theorem piecesD_iff {t : Nat → Int} : piecesD t = true ↔ ∀ m, m < 5 → 0 ≤ t m ∧ t m ≤ 60 := by
  simp only [piecesD, allI_iff, inD, decide_eq_true_eq]
end Go.Sx

/- What the program says of its types, one instance each (laid by wip/types.py). -/
namespace Go.Sx
open Go.Proofs

instance : Ty Try.prog 3 (.int .i64) := ⟨Try.underlying3⟩
instance : One Try.prog 3 := ⟨_, Try.underlying3, rfl⟩
instance : Info Try.prog 3 [.int .i64 0] 1 8 := mk_info (z := .int .i64 0) (by kernel_rfl) rfl rfl
instance : Ty Try.prog 4 (.bool) := ⟨Try.underlying4⟩
instance : One Try.prog 4 := ⟨_, Try.underlying4, rfl⟩
instance : Info Try.prog 4 [.bool false] 1 1 := mk_info (z := .bool false) (by kernel_rfl) rfl rfl
instance : Ty Try.prog 5 (.int .u8) := ⟨Try.underlying5⟩
instance : One Try.prog 5 := ⟨_, Try.underlying5, rfl⟩
instance : Info Try.prog 5 [.int .u8 0] 1 1 := mk_info (z := .int .u8 0) (by kernel_rfl) rfl rfl
instance : Ty Try.prog 22 (.slice 5) := ⟨Try.underlying22⟩
instance : One Try.prog 22 := ⟨_, Try.underlying22, rfl⟩
instance : Info Try.prog 22 [.slice none 0 0] 1 24 := mk_info (z := .slice none 0 0) (by kernel_rfl) rfl rfl
instance : Ty Try.prog 23 (.slice 31) := ⟨Try.underlying23⟩
instance : One Try.prog 23 := ⟨_, Try.underlying23, rfl⟩
instance : Info Try.prog 23 [.slice none 0 0] 1 24 := mk_info (z := .slice none 0 0) (by kernel_rfl) rfl rfl
instance : Ty Try.prog 24 (.slice 41) := ⟨Try.underlying24⟩
instance : One Try.prog 24 := ⟨_, Try.underlying24, rfl⟩
instance : Info Try.prog 24 [.slice none 0 0] 1 24 := mk_info (z := .slice none 0 0) (by kernel_rfl) rfl rfl
instance : Agg Try.prog 26 := ⟨_, Try.underlying26, rfl⟩
instance : Info Try.prog 26 [.slice none 0 0, .slice none 0 0] 2 48 := mk_info (z := .agg #[.slice none 0 0, .slice none 0 0]) (by kernel_rfl) rfl rfl
instance : Ty Try.prog 28 (.pointer 115) := ⟨Try.underlying28⟩
instance : One Try.prog 28 := ⟨_, Try.underlying28, rfl⟩
instance : Info Try.prog 28 [.pointer none] 1 8 := mk_info (z := .pointer none) (by kernel_rfl) rfl rfl
instance : Ty Try.prog 31 (.array 5 3) := ⟨Try.underlying31⟩
instance : Agg Try.prog 31 := ⟨_, Try.underlying31, rfl⟩
instance : Info Try.prog 31 [.int .i64 0, .int .i64 0, .int .i64 0, .int .i64 0, .int .i64 0] 5 40 := mk_info (z := .agg #[.int .i64 0, .int .i64 0, .int .i64 0, .int .i64 0, .int .i64 0]) (by kernel_rfl) rfl rfl
instance : Ty Try.prog 33 (.slice 3) := ⟨Try.underlying33⟩
instance : One Try.prog 33 := ⟨_, Try.underlying33, rfl⟩
instance : Info Try.prog 33 [.slice none 0 0] 1 24 := mk_info (z := .slice none 0 0) (by kernel_rfl) rfl rfl
instance : Ty Try.prog 34 (.int .i64) := ⟨Try.underlying34⟩
instance : One Try.prog 34 := ⟨_, Try.underlying34, rfl⟩
instance : Info Try.prog 34 [.int .i64 0] 1 8 := mk_info (z := .int .i64 0) (by kernel_rfl) rfl rfl
instance : Ty Try.prog 39 (.array 5 4) := ⟨Try.underlying39⟩
instance : Agg Try.prog 39 := ⟨_, Try.underlying39, rfl⟩
instance : Info Try.prog 39 [.bool false, .bool false, .bool false, .bool false, .bool false] 5 5 := mk_info (z := .agg #[.bool false, .bool false, .bool false, .bool false, .bool false]) (by kernel_rfl) rfl rfl
instance : Agg Try.prog 41 := ⟨_, Try.underlying41, rfl⟩
instance : Info Try.prog 41 [.bool false, .bool false, .bool false, .bool false, .bool false, .int .i64 0, .int .i64 0, .int .i64 0, .slice none 0 0] 9 56 := mk_info (z := .agg #[.bool false, .bool false, .bool false, .bool false, .bool false, .int .i64 0, .int .i64 0, .int .i64 0, .slice none 0 0]) (by kernel_rfl) rfl rfl
instance : One Try.prog 44 := ⟨_, Try.underlying44, rfl⟩
instance : Info Try.prog 44 [.nilFunc] 1 8 := mk_info (z := .nilFunc) (by kernel_rfl) rfl rfl
instance : Ty Try.prog 52 (.slice 26) := ⟨Try.underlying52⟩
instance : One Try.prog 52 := ⟨_, Try.underlying52, rfl⟩
instance : Info Try.prog 52 [.slice none 0 0] 1 24 := mk_info (z := .slice none 0 0) (by kernel_rfl) rfl rfl
instance : Ty Try.prog 56 (.slice 70) := ⟨Try.underlying56⟩
instance : One Try.prog 56 := ⟨_, Try.underlying56, rfl⟩
instance : Info Try.prog 56 [.slice none 0 0] 1 24 := mk_info (z := .slice none 0 0) (by kernel_rfl) rfl rfl
instance : Ty Try.prog 57 (.slice 127) := ⟨Try.underlying57⟩
instance : One Try.prog 57 := ⟨_, Try.underlying57, rfl⟩
instance : Info Try.prog 57 [.slice none 0 0] 1 24 := mk_info (z := .slice none 0 0) (by kernel_rfl) rfl rfl
instance : Agg Try.prog 59 := ⟨_, Try.underlying59, rfl⟩
instance : Info Try.prog 59 [.slice none 0 0, .slice none 0 0] 2 48 := mk_info (z := .agg #[.slice none 0 0, .slice none 0 0]) (by kernel_rfl) rfl rfl
instance : Ty Try.prog 70 (.array 5 3) := ⟨Try.underlying70⟩
instance : Agg Try.prog 70 := ⟨_, Try.underlying70, rfl⟩
instance : Info Try.prog 70 [.int .i64 0, .int .i64 0, .int .i64 0, .int .i64 0, .int .i64 0] 5 40 := mk_info (z := .agg #[.int .i64 0, .int .i64 0, .int .i64 0, .int .i64 0, .int .i64 0]) (by kernel_rfl) rfl rfl
instance : Ty Try.prog 80 (.slice 86) := ⟨Try.underlying80⟩
instance : One Try.prog 80 := ⟨_, Try.underlying80, rfl⟩
instance : Info Try.prog 80 [.slice none 0 0] 1 24 := mk_info (z := .slice none 0 0) (by kernel_rfl) rfl rfl
instance : Ty Try.prog 86 (.int .i64) := ⟨Try.underlying86⟩
instance : One Try.prog 86 := ⟨_, Try.underlying86, rfl⟩
instance : Info Try.prog 86 [.int .i64 0] 1 8 := mk_info (z := .int .i64 0) (by kernel_rfl) rfl rfl
instance : Ty Try.prog 113 (.int .u64) := ⟨Try.underlying113⟩
instance : One Try.prog 113 := ⟨_, Try.underlying113, rfl⟩
instance : Info Try.prog 113 [.int .u64 0] 1 8 := mk_info (z := .int .u64 0) (by kernel_rfl) rfl rfl
instance : Agg Try.prog 115 := ⟨_, Try.underlying115, rfl⟩
instance : Info Try.prog 115 [.slice none 0 0, .int .i64 0, .int .u64 0] 3 40 := mk_info (z := .agg #[.slice none 0 0, .int .i64 0, .int .u64 0]) (by kernel_rfl) rfl rfl
instance : Ty Try.prog 116 (.pointer 150) := ⟨Try.underlying116⟩
instance : One Try.prog 116 := ⟨_, Try.underlying116, rfl⟩
instance : Info Try.prog 116 [.pointer none] 1 8 := mk_info (z := .pointer none) (by kernel_rfl) rfl rfl
instance : Agg Try.prog 127 := ⟨_, Try.underlying127, rfl⟩
instance : Info Try.prog 127 [.bool false, .bool false, .bool false, .bool false, .bool false, .int .i64 0, .int .i64 0, .int .i64 0, .slice none 0 0] 9 56 := mk_info (z := .agg #[.bool false, .bool false, .bool false, .bool false, .bool false, .int .i64 0, .int .i64 0, .int .i64 0, .slice none 0 0]) (by kernel_rfl) rfl rfl
instance : One Try.prog 130 := ⟨_, Try.underlying130, rfl⟩
instance : Info Try.prog 130 [.nilFunc] 1 8 := mk_info (z := .nilFunc) (by kernel_rfl) rfl rfl
instance : One Try.prog 132 := ⟨_, Try.underlying132, rfl⟩
instance : Info Try.prog 132 [.nilFunc] 1 8 := mk_info (z := .nilFunc) (by kernel_rfl) rfl rfl
instance : Ty Try.prog 137 (.int .i64) := ⟨Try.underlying137⟩
instance : One Try.prog 137 := ⟨_, Try.underlying137, rfl⟩
instance : Info Try.prog 137 [.int .i64 0] 1 8 := mk_info (z := .int .i64 0) (by kernel_rfl) rfl rfl
instance : Ty Try.prog 147 (.map 161 3) := ⟨Try.underlying147⟩
instance : One Try.prog 147 := ⟨_, Try.underlying147, rfl⟩
instance : Info Try.prog 147 [.map none] 1 8 := mk_info (z := .map none) (by kernel_rfl) rfl rfl
instance : One Try.prog 148 := ⟨_, Try.underlying148, rfl⟩
instance : Info Try.prog 148 [.nilFunc] 1 8 := mk_info (z := .nilFunc) (by kernel_rfl) rfl rfl
instance : Agg Try.prog 150 := ⟨_, Try.underlying150, rfl⟩
instance : Info Try.prog 150 [.slice none 0 0, .slice none 0 0, .map none, .nilFunc] 4 64 := mk_info (z := .agg #[.slice none 0 0, .slice none 0 0, .map none, .nilFunc]) (by kernel_rfl) rfl rfl
instance : Ty Try.prog 151 (.slice 33) := ⟨Try.underlying151⟩
instance : One Try.prog 151 := ⟨_, Try.underlying151, rfl⟩
instance : Info Try.prog 151 [.slice none 0 0] 1 24 := mk_info (z := .slice none 0 0) (by kernel_rfl) rfl rfl
instance : One Try.prog 158 := ⟨_, Try.underlying158, rfl⟩
instance : Info Try.prog 158 [.nilFunc] 1 8 := mk_info (z := .nilFunc) (by kernel_rfl) rfl rfl
instance : Agg Try.prog 161 := ⟨_, Try.underlying161, rfl⟩
instance : Info Try.prog 161 [.int .i64 0, .int .i64 0] 2 16 := mk_info (z := .agg #[.int .i64 0, .int .i64 0]) (by kernel_rfl) rfl rfl
instance : One Try.prog 164 := ⟨_, Try.underlying164, rfl⟩
instance : Info Try.prog 164 [.nilFunc] 1 8 := mk_info (z := .nilFunc) (by kernel_rfl) rfl rfl
instance : Fd Try.prog 26 0 0 := mk_fd 23 _ _ _ rfl Try.underlying26 rfl rfl rfl
instance : Fd Try.prog 26 1 1 := mk_fd 24 _ _ _ rfl Try.underlying26 rfl rfl rfl
instance : Fd Try.prog 41 0 0 := mk_fd 39 _ _ _ rfl Try.underlying41 rfl rfl rfl
instance : Fd Try.prog 41 1 5 := mk_fd 3 _ _ _ rfl Try.underlying41 rfl rfl rfl
instance : Fd Try.prog 41 2 6 := mk_fd 3 _ _ _ rfl Try.underlying41 rfl rfl rfl
instance : Fd Try.prog 41 3 7 := mk_fd 3 _ _ _ rfl Try.underlying41 rfl rfl rfl
instance : Fd Try.prog 41 4 8 := mk_fd 33 _ _ _ rfl Try.underlying41 rfl rfl rfl
instance : Fd Try.prog 59 0 0 := mk_fd 56 _ _ _ rfl Try.underlying59 rfl rfl rfl
instance : Fd Try.prog 59 1 1 := mk_fd 57 _ _ _ rfl Try.underlying59 rfl rfl rfl
instance : Fd Try.prog 115 0 0 := mk_fd 22 _ _ _ rfl Try.underlying115 rfl rfl rfl
instance : Fd Try.prog 115 1 1 := mk_fd 3 _ _ _ rfl Try.underlying115 rfl rfl rfl
instance : Fd Try.prog 115 2 2 := mk_fd 113 _ _ _ rfl Try.underlying115 rfl rfl rfl
instance : Fd Try.prog 127 0 0 := mk_fd 39 _ _ _ rfl Try.underlying127 rfl rfl rfl
instance : Fd Try.prog 127 1 5 := mk_fd 3 _ _ _ rfl Try.underlying127 rfl rfl rfl
instance : Fd Try.prog 127 2 6 := mk_fd 3 _ _ _ rfl Try.underlying127 rfl rfl rfl
instance : Fd Try.prog 127 3 7 := mk_fd 3 _ _ _ rfl Try.underlying127 rfl rfl rfl
instance : Fd Try.prog 127 4 8 := mk_fd 33 _ _ _ rfl Try.underlying127 rfl rfl rfl
instance : Fd Try.prog 150 0 0 := mk_fd 26 _ _ _ rfl Try.underlying150 rfl rfl rfl
instance : Fd Try.prog 150 1 2 := mk_fd 147 _ _ _ rfl Try.underlying150 rfl rfl rfl
instance : Fd Try.prog 150 2 3 := mk_fd 148 _ _ _ rfl Try.underlying150 rfl rfl rfl
instance : Fd Try.prog 161 0 0 := mk_fd 3 _ _ _ rfl Try.underlying161 rfl rfl rfl
instance : Fd Try.prog 161 1 1 := mk_fd 3 _ _ _ rfl Try.underlying161 rfl rfl rfl
end Go.Sx

/- Lists of which all elements are asked. -/
namespace Go.Sx
open Go.Proofs
set_option maxRecDepth 100000
attribute [local irreducible] Code.wpIn wpListIn Exit.then Exit.inBlock BQ Again Hd St En OpT box blk RQ BQ0 fmap own
theorem gi {ρ : Env} {t : Nat} {k : IntKind} {x y : Int} (h : ρ.get t = some (.int k x)) (e : x = y) : ρ.get t = some (.int k y) := e ▸ h
theorem gb {ρ : Env} {t : Nat} {x y : Bool} (h : ρ.get t = some (.bool x)) (e : x = y) : ρ.get t = some (.bool y) := e ▸ h

theorem in_ct (n lo hi : Int) (h : Heap) : CT Try.prog 80 [.int .i64 n, .int .i64 lo, .int .i64 hi] h [] (DetW (.bool (inD n lo hi)) []) := by
  refine ct_intro Try.func80 rfl rfl rfl rfl fun Φ => ?_
  skip
  by_cases h1 : lo ≤ n
  · refine en_seq <| en_region <| en_det (opT_assign rfl) rfl <| en_nil <| en_then <| en_seq <| en_region <| en_det (opT_move rfl) rfl <| en_det (opT_move rfl) rfl <| ?_
    first | refine en_det (opT_geq_t rfl rfl (by omega)) rfl ?_ | refine en_det (opT_geq_f rfl rfl (by omega)) rfl ?_ | refine en_det (opT_geq rfl rfl) rfl ?_
    refine en_det (opT_move rfl) rfl <| en_g_yes rfl rfl <| en_det (opT_move rfl) rfl <| en_g_yes rfl rfl <| en_det (opT_move rfl) rfl <| en_g_yes rfl rfl <| ?_
    first | refine en_det (opT_leq_t rfl rfl (by omega)) rfl ?_ | refine en_det (opT_leq_f rfl rfl (by omega)) rfl ?_ | refine en_det (opT_leq rfl rfl) rfl ?_
    first | refine en_det (opT_pick_t rfl rfl) rfl ?_ | refine en_det (opT_pick_f rfl rfl) rfl ?_
    refine en_det (opT_assign rfl) rfl <| en_nil <| en_then <| en_ret <| ?_
    refine en_return (rs := [.tmp 6]) rfl (.cons (.tmp rfl) .nil) (.refl _) ⟨by simp [resVal, h1, inD], rfl⟩
  · skip
    refine en_seq <| en_region <| en_det (opT_assign rfl) rfl <| en_nil <| en_then <| en_seq <| en_region <| en_det (opT_move rfl) rfl <| en_det (opT_move rfl) rfl <| ?_
    first | refine en_det (opT_geq_t rfl rfl (by omega)) rfl ?_ | refine en_det (opT_geq_f rfl rfl (by omega)) rfl ?_ | refine en_det (opT_geq rfl rfl) rfl ?_
    refine en_det (opT_move rfl) rfl <| en_g_no rfl rfl rfl <| en_g_no rfl rfl rfl <| en_g_no rfl rfl rfl <| ?_
    first | refine en_det (opT_pick_t rfl rfl) rfl ?_ | refine en_det (opT_pick_f rfl rfl) rfl ?_
    refine en_det (opT_assign rfl) rfl <| en_nil <| en_then <| en_ret <| ?_
    refine en_return (rs := [.tmp 6]) rfl (.cons (.tmp rfl) .nil) (.refl _) ⟨by simp [resVal, h1, inD], rfl⟩

theorem index124_ct (h : Heap) (ad : Option Addr) (n cp : Nat) (hn : n ≤ 9223372036854775807) (el : Nat → Int) (hel : 0 < n → ∃ b off, ad = some ⟨b, off, none⟩ ∧ ∀ i, i < n → cellH h b (off + i) = some (.int .i64 (el i)))
    (f : FuncId) (first capt : Array Value) (p : Nat → Bool) (hc : ∀ i, i < n → CT Try.prog f (first.toList ++ [.int .i64 (el i)] ++ capt.toList) h [] (DetW (.bool (p i)) [])) :
    CT Try.prog 124 [.slice ad n cp, .func (.func f) first capt] h [] (DetW (.int .i64 (findI n p)) []) := by
  refine ct_intro Try.func124 rfl rfl rfl rfl fun Φ => ?_
  refine en_seq <| en_region <| en_det (opT_assign rfl) rfl <| en_nil <| en_then <| en_seq <| en_seq <| en_region <| en_det (opT_move rfl) rfl <| en_det (opT_len rfl) rfl <| en_det (opT_move rfl) rfl <| en_nil <| en_then <| en_block <| ?_
  refine en_loop (fun k => k ≤ n ∧ ∀ i, i < k → p i = false) (fun k : Nat => [(0, .slice ad n cp), (1, .func (.func f) first capt), (7, .int .i64 n), (8, .int .i64 k)]) (fun _ => h) (fun _ => []) (fun k => n - k) 0 ⟨by omega, fun i hi => by omega⟩ ⟨rfl, rfl, rfl, rfl, trivial⟩ (.refl _) inferInstance fun k ⟨hk, hb⟩ => ?_
  refine en_seq <| en_region <| ?_
  first | refine en_det (opT_lss_t rfl rfl (by omega)) rfl ?_ | refine en_det (opT_lss_f rfl rfl (by omega)) rfl ?_ | refine en_det (opT_lss rfl rfl) rfl ?_
  refine en_nil <| en_then <| en_seq <| ?_
  refine en_if rfl (fun hlt => ?_) (fun hlt => ?_)
  · skip
    have hkl : k < n := by omega
    obtain ⟨b, off, rfl, hcc⟩ := hel (by omega)
    have hck := hcc k hkl
    refine en_skip <| en_then <| en_seq <| en_block <| en_seq <| en_region <| en_det (opT_move rfl) rfl <| en_det (opT_assign rfl) rfl <| en_nil <| en_then <| en_seq <| en_region <| en_det (opT_move rfl) rfl <| en_det (opT_move rfl) rfl <| en_det (opT_move rfl) rfl <| ?_
    first | refine en_det (opT_idx1 rfl rfl (by omega) (by omega)) rfl ?_ | refine en_det (opT_idx (ks := 0) rfl rfl (by omega) (by omega)) rfl ?_
    first | refine en_det (opT_load_h rfl (by assumption)) rfl ?_ | refine en_det (opT_load_own rfl rfl) rfl ?_
    refine en_calld (hc k hkl) rfl rfl rfl rfl <| en_nil <| en_then <| ?_
    cases hp : p k with
    | true =>
      skip
      refine en_cond_t rfl <| en_seq <| en_region <| en_det (opT_move rfl) rfl <| en_det (opT_assign rfl) rfl <| en_nil <| en_then <| en_ret <| en_blk_ret <| en_then_ret <| en_then_ret <| en_blk_ret <| en_then_ret <| ?_
      refine en_return (rs := [.tmp 4]) rfl (.cons (.tmp rfl) .nil) (.refl _) ⟨by simp [resVal, findI_at hkl hb hp], rfl⟩
    | false =>
      refine en_cond_f rfl <| en_skip <| en_blk <| en_then <| en_region <| en_det (opT_add rfl rfl (by constructor <;> omega)) rfl <| en_det (opT_move rfl) rfl <| en_nil <| en_then <| ?_
      exact en_again (k + 1) ⟨by omega, fun i hi => by rcases Nat.lt_succ_iff_lt_or_eq.1 hi with h1 | rfl; exact hb i h1; exact hp⟩ (by omega) ⟨rfl, rfl, rfl, gi rfl (by omega), trivial⟩ (.refl _) inferInstance
  · skip
    obtain rfl : k = n := by omega
    refine en_exit <| en_then_exit <| en_then_exit <| en_blk_hit <| en_then <| en_seq <| en_region <| en_det (opT_assign rfl) rfl <| en_nil <| en_then <| en_ret <| ?_
    refine en_return (rs := [.tmp 4]) rfl (.cons (.tmp rfl) .nil) (.refl _) ⟨by simp [resVal, findI_none hb], rfl⟩
theorem index127_ct (h : Heap) (ad : Option Addr) (n cp : Nat) (hn : n ≤ 9223372036854775807) (el : Nat → Int) (hel : 0 < n → ∃ b off, ad = some ⟨b, off, none⟩ ∧ ∀ i, i < n → cellH h b (off + i) = some (.int .i64 (el i)))
    (f : FuncId) (first capt : Array Value) (p : Nat → Bool) (hc : ∀ i, i < n → CT Try.prog f (first.toList ++ [.int .i64 (el i)] ++ capt.toList) h [] (DetW (.bool (p i)) [])) :
    CT Try.prog 127 [.slice ad n cp, .func (.func f) first capt] h [] (DetW (.int .i64 (findI n p)) []) := by
  refine ct_intro Try.func127 rfl rfl rfl rfl fun Φ => ?_
  refine en_seq <| en_region <| en_det (opT_assign rfl) rfl <| en_nil <| en_then <| en_seq <| en_seq <| en_region <| en_det (opT_move rfl) rfl <| en_det (opT_len rfl) rfl <| en_det (opT_move rfl) rfl <| en_nil <| en_then <| en_block <| ?_
  refine en_loop (fun k => k ≤ n ∧ ∀ i, i < k → p i = false) (fun k : Nat => [(0, .slice ad n cp), (1, .func (.func f) first capt), (7, .int .i64 n), (8, .int .i64 k)]) (fun _ => h) (fun _ => []) (fun k => n - k) 0 ⟨by omega, fun i hi => by omega⟩ ⟨rfl, rfl, rfl, rfl, trivial⟩ (.refl _) inferInstance fun k ⟨hk, hb⟩ => ?_
  refine en_seq <| en_region <| ?_
  first | refine en_det (opT_lss_t rfl rfl (by omega)) rfl ?_ | refine en_det (opT_lss_f rfl rfl (by omega)) rfl ?_ | refine en_det (opT_lss rfl rfl) rfl ?_
  refine en_nil <| en_then <| en_seq <| ?_
  refine en_if rfl (fun hlt => ?_) (fun hlt => ?_)
  · skip
    have hkl : k < n := by omega
    obtain ⟨b, off, rfl, hcc⟩ := hel (by omega)
    have hck := hcc k hkl
    refine en_skip <| en_then <| en_seq <| en_block <| en_seq <| en_region <| en_det (opT_move rfl) rfl <| en_det (opT_assign rfl) rfl <| en_nil <| en_then <| en_seq <| en_region <| en_det (opT_move rfl) rfl <| en_det (opT_move rfl) rfl <| en_det (opT_move rfl) rfl <| ?_
    first | refine en_det (opT_idx1 rfl rfl (by omega) (by omega)) rfl ?_ | refine en_det (opT_idx (ks := 0) rfl rfl (by omega) (by omega)) rfl ?_
    first | refine en_det (opT_load_h rfl (by assumption)) rfl ?_ | refine en_det (opT_load_own rfl rfl) rfl ?_
    refine en_calld (hc k hkl) rfl rfl rfl rfl <| en_nil <| en_then <| ?_
    cases hp : p k with
    | true =>
      skip
      refine en_cond_t rfl <| en_seq <| en_region <| en_det (opT_move rfl) rfl <| en_det (opT_assign rfl) rfl <| en_nil <| en_then <| en_ret <| en_blk_ret <| en_then_ret <| en_then_ret <| en_blk_ret <| en_then_ret <| ?_
      refine en_return (rs := [.tmp 4]) rfl (.cons (.tmp rfl) .nil) (.refl _) ⟨by simp [resVal, findI_at hkl hb hp], rfl⟩
    | false =>
      refine en_cond_f rfl <| en_skip <| en_blk <| en_then <| en_region <| en_det (opT_add rfl rfl (by constructor <;> omega)) rfl <| en_det (opT_move rfl) rfl <| en_nil <| en_then <| ?_
      exact en_again (k + 1) ⟨by omega, fun i hi => by rcases Nat.lt_succ_iff_lt_or_eq.1 hi with h1 | rfl; exact hb i h1; exact hp⟩ (by omega) ⟨rfl, rfl, rfl, gi rfl (by omega), trivial⟩ (.refl _) inferInstance
  · skip
    obtain rfl : k = n := by omega
    refine en_exit <| en_then_exit <| en_then_exit <| en_blk_hit <| en_then <| en_seq <| en_region <| en_det (opT_assign rfl) rfl <| en_nil <| en_then <| en_ret <| ?_
    refine en_return (rs := [.tmp 4]) rfl (.cons (.tmp rfl) .nil) (.refl _) ⟨by simp [resVal, findI_none hb], rfl⟩

theorem index122_ct (h : Heap) (ad : Option Addr) (n cp : Nat) (hn : n ≤ 9223372036854775807) (el : Nat → Nat → Value) (hel : 0 < n → ∃ b off, ad = some ⟨b, off, none⟩ ∧ CellsH h b off (rows n 5 el))
    (f : FuncId) (first capt : Array Value) (p : Nat → Bool) (hc : ∀ i, i < n → CT Try.prog f (first.toList ++ [.agg (row 5 (el i)).toArray] ++ capt.toList) h [] (DetW (.bool (p i)) [])) :
    CT Try.prog 122 [.slice ad n cp, .func (.func f) first capt] h [] (DetW (.int .i64 (findI n p)) []) := by
  refine ct_intro Try.func122 rfl rfl rfl rfl fun Φ => ?_
  refine en_seq <| en_region <| en_det (opT_assign rfl) rfl <| en_nil <| en_then <| en_seq <| en_seq <| en_region <| en_det (opT_move rfl) rfl <| en_det (opT_len rfl) rfl <| en_det (opT_move rfl) rfl <| en_nil <| en_then <| en_block <| ?_
  refine en_loop (fun k => k ≤ n ∧ ∀ i, i < k → p i = false) (fun k : Nat => [(0, .slice ad n cp), (1, .func (.func f) first capt), (7, .int .i64 n), (8, .int .i64 k)]) (fun _ => h) (fun _ => []) (fun k => n - k) 0 ⟨by omega, fun i hi => by omega⟩ ⟨rfl, rfl, rfl, rfl, trivial⟩ (.refl _) inferInstance fun k ⟨hk, hb⟩ => ?_
  refine en_seq <| en_region <| ?_
  first | refine en_det (opT_lss_t rfl rfl (by omega)) rfl ?_ | refine en_det (opT_lss_f rfl rfl (by omega)) rfl ?_ | refine en_det (opT_lss rfl rfl) rfl ?_
  refine en_nil <| en_then <| en_seq <| ?_
  refine en_if rfl (fun hlt => ?_) (fun hlt => ?_)
  · skip
    have hkl : k < n := by omega
    obtain ⟨b, off, rfl, hcc⟩ := hel (by omega)
    have hck := hcc.row hkl
    refine en_skip <| en_then <| en_seq <| en_block <| en_seq <| en_region <| en_det (opT_move rfl) rfl <| en_det (opT_assign rfl) rfl <| en_nil <| en_then <| en_seq <| en_region <| en_det (opT_move rfl) rfl <| en_det (opT_move rfl) rfl <| en_det (opT_move rfl) rfl <| ?_
    first | refine en_det (opT_idx1 rfl rfl (by omega) (by omega)) rfl ?_ | refine en_det (opT_idx (ks := 0) rfl rfl (by omega) (by omega)) rfl ?_
    first | refine en_det (opT_loadA_h rfl (by assumption) (by rfl)) rfl ?_ | refine en_det (opT_loadW_own rfl rfl) rfl ?_ | refine en_det (opT_loadA_own rfl) rfl ?_
    refine en_calld (hc k hkl) rfl rfl rfl rfl <| en_nil <| en_then <| ?_
    cases hp : p k with
    | true =>
      skip
      refine en_cond_t rfl <| en_seq <| en_region <| en_det (opT_move rfl) rfl <| en_det (opT_assign rfl) rfl <| en_nil <| en_then <| en_ret <| en_blk_ret <| en_then_ret <| en_then_ret <| en_blk_ret <| en_then_ret <| ?_
      refine en_return (rs := [.tmp 4]) rfl (.cons (.tmp rfl) .nil) (.refl _) ⟨by simp [resVal, findI_at hkl hb hp], rfl⟩
    | false =>
      refine en_cond_f rfl <| en_skip <| en_blk <| en_then <| en_region <| en_det (opT_add rfl rfl (by constructor <;> omega)) rfl <| en_det (opT_move rfl) rfl <| en_nil <| en_then <| ?_
      exact en_again (k + 1) ⟨by omega, fun i hi => by rcases Nat.lt_succ_iff_lt_or_eq.1 hi with h1 | rfl; exact hb i h1; exact hp⟩ (by omega) ⟨rfl, rfl, rfl, gi rfl (by omega), trivial⟩ (.refl _) inferInstance
  · skip
    obtain rfl : k = n := by omega
    refine en_exit <| en_then_exit <| en_then_exit <| en_blk_hit <| en_then <| en_seq <| en_region <| en_det (opT_assign rfl) rfl <| en_nil <| en_then <| en_ret <| ?_
    refine en_return (rs := [.tmp 4]) rfl (.cons (.tmp rfl) .nil) (.refl _) ⟨by simp [resVal, findI_none hb], rfl⟩
theorem index123_ct (h : Heap) (ad : Option Addr) (n cp : Nat) (hn : n ≤ 9223372036854775807) (el : Nat → Nat → Value) (hel : 0 < n → ∃ b off, ad = some ⟨b, off, none⟩ ∧ CellsH h b off (rows n 9 el))
    (f : FuncId) (first capt : Array Value) (p : Nat → Bool) (hc : ∀ i, i < n → CT Try.prog f (first.toList ++ [.agg (row 9 (el i)).toArray] ++ capt.toList) h [] (DetW (.bool (p i)) [])) :
    CT Try.prog 123 [.slice ad n cp, .func (.func f) first capt] h [] (DetW (.int .i64 (findI n p)) []) := by
  refine ct_intro Try.func123 rfl rfl rfl rfl fun Φ => ?_
  refine en_seq <| en_region <| en_det (opT_assign rfl) rfl <| en_nil <| en_then <| en_seq <| en_seq <| en_region <| en_det (opT_move rfl) rfl <| en_det (opT_len rfl) rfl <| en_det (opT_move rfl) rfl <| en_nil <| en_then <| en_block <| ?_
  refine en_loop (fun k => k ≤ n ∧ ∀ i, i < k → p i = false) (fun k : Nat => [(0, .slice ad n cp), (1, .func (.func f) first capt), (7, .int .i64 n), (8, .int .i64 k)]) (fun _ => h) (fun _ => []) (fun k => n - k) 0 ⟨by omega, fun i hi => by omega⟩ ⟨rfl, rfl, rfl, rfl, trivial⟩ (.refl _) inferInstance fun k ⟨hk, hb⟩ => ?_
  refine en_seq <| en_region <| ?_
  first | refine en_det (opT_lss_t rfl rfl (by omega)) rfl ?_ | refine en_det (opT_lss_f rfl rfl (by omega)) rfl ?_ | refine en_det (opT_lss rfl rfl) rfl ?_
  refine en_nil <| en_then <| en_seq <| ?_
  refine en_if rfl (fun hlt => ?_) (fun hlt => ?_)
  · skip
    have hkl : k < n := by omega
    obtain ⟨b, off, rfl, hcc⟩ := hel (by omega)
    have hck := hcc.row hkl
    refine en_skip <| en_then <| en_seq <| en_block <| en_seq <| en_region <| en_det (opT_move rfl) rfl <| en_det (opT_assign rfl) rfl <| en_nil <| en_then <| en_seq <| en_region <| en_det (opT_move rfl) rfl <| en_det (opT_move rfl) rfl <| en_det (opT_move rfl) rfl <| ?_
    first | refine en_det (opT_idx1 rfl rfl (by omega) (by omega)) rfl ?_ | refine en_det (opT_idx (ks := 0) rfl rfl (by omega) (by omega)) rfl ?_
    first | refine en_det (opT_loadA_h rfl (by assumption) (by rfl)) rfl ?_ | refine en_det (opT_loadW_own rfl rfl) rfl ?_ | refine en_det (opT_loadA_own rfl) rfl ?_
    refine en_calld (hc k hkl) rfl rfl rfl rfl <| en_nil <| en_then <| ?_
    cases hp : p k with
    | true =>
      skip
      refine en_cond_t rfl <| en_seq <| en_region <| en_det (opT_move rfl) rfl <| en_det (opT_assign rfl) rfl <| en_nil <| en_then <| en_ret <| en_blk_ret <| en_then_ret <| en_then_ret <| en_blk_ret <| en_then_ret <| ?_
      refine en_return (rs := [.tmp 4]) rfl (.cons (.tmp rfl) .nil) (.refl _) ⟨by simp [resVal, findI_at hkl hb hp], rfl⟩
    | false =>
      refine en_cond_f rfl <| en_skip <| en_blk <| en_then <| en_region <| en_det (opT_add rfl rfl (by constructor <;> omega)) rfl <| en_det (opT_move rfl) rfl <| en_nil <| en_then <| ?_
      exact en_again (k + 1) ⟨by omega, fun i hi => by rcases Nat.lt_succ_iff_lt_or_eq.1 hi with h1 | rfl; exact hb i h1; exact hp⟩ (by omega) ⟨rfl, rfl, rfl, gi rfl (by omega), trivial⟩ (.refl _) inferInstance
  · skip
    obtain rfl : k = n := by omega
    refine en_exit <| en_then_exit <| en_then_exit <| en_blk_hit <| en_then <| en_seq <| en_region <| en_det (opT_assign rfl) rfl <| en_nil <| en_then <| en_ret <| ?_
    refine en_return (rs := [.tmp 4]) rfl (.cons (.tmp rfl) .nil) (.refl _) ⟨by simp [resVal, findI_none hb], rfl⟩
theorem contains114_ct (h : Heap) (ad : Option Addr) (n cp : Nat) (hn : n ≤ 9223372036854775807) (el : Nat → Int) (hel : 0 < n → ∃ b off, ad = some ⟨b, off, none⟩ ∧ ∀ i, i < n → cellH h b (off + i) = some (.int .i64 (el i)))
    (f : FuncId) (first capt : Array Value) (p : Nat → Bool) (hc : ∀ i, i < n → CT Try.prog f (first.toList ++ [.int .i64 (el i)] ++ capt.toList) h [] (DetW (.bool (p i)) [])) :
    CT Try.prog 114 [.slice ad n cp, .func (.func f) first capt] h [] (DetW (.bool (!(allI n fun i => !p i))) []) := by
  refine ct_intro Try.func114 rfl rfl rfl rfl fun Φ => ?_
  refine en_seq <| en_region <| en_det (opT_assign rfl) rfl <| en_nil <| en_then <| en_seq <| en_region <| en_det (opT_move rfl) rfl <| en_det (opT_move rfl) rfl <| en_calld (index124_ct h ad n cp hn el hel f first capt p hc) rfl rfl rfl rfl <| en_det (opT_geq rfl rfl) rfl <| en_det (opT_assign rfl) rfl <| en_nil <| en_then <| en_ret <| ?_
  refine en_return (rs := [.tmp 4]) rfl (.cons (.tmp rfl) .nil) (.refl _) ⟨by rw [← findI_neg]; rfl, rfl⟩
theorem contains125_ct (h : Heap) (ad : Option Addr) (n cp : Nat) (hn : n ≤ 9223372036854775807) (el : Nat → Int) (hel : 0 < n → ∃ b off, ad = some ⟨b, off, none⟩ ∧ ∀ i, i < n → cellH h b (off + i) = some (.int .i64 (el i)))
    (f : FuncId) (first capt : Array Value) (p : Nat → Bool) (hc : ∀ i, i < n → CT Try.prog f (first.toList ++ [.int .i64 (el i)] ++ capt.toList) h [] (DetW (.bool (p i)) [])) :
    CT Try.prog 125 [.slice ad n cp, .func (.func f) first capt] h [] (DetW (.bool (!(allI n fun i => !p i))) []) := by
  refine ct_intro Try.func125 rfl rfl rfl rfl fun Φ => ?_
  refine en_seq <| en_region <| en_det (opT_assign rfl) rfl <| en_nil <| en_then <| en_seq <| en_region <| en_det (opT_move rfl) rfl <| en_det (opT_move rfl) rfl <| en_calld (index127_ct h ad n cp hn el hel f first capt p hc) rfl rfl rfl rfl <| en_det (opT_geq rfl rfl) rfl <| en_det (opT_assign rfl) rfl <| en_nil <| en_then <| en_ret <| ?_
  refine en_return (rs := [.tmp 4]) rfl (.cons (.tmp rfl) .nil) (.refl _) ⟨by rw [← findI_neg]; rfl, rfl⟩
theorem contains109_ct (h : Heap) (ad : Option Addr) (n cp : Nat) (hn : n ≤ 9223372036854775807) (el : Nat → Nat → Value) (hel : 0 < n → ∃ b off, ad = some ⟨b, off, none⟩ ∧ CellsH h b off (rows n 5 el))
    (f : FuncId) (first capt : Array Value) (p : Nat → Bool) (hc : ∀ i, i < n → CT Try.prog f (first.toList ++ [.agg (row 5 (el i)).toArray] ++ capt.toList) h [] (DetW (.bool (p i)) [])) :
    CT Try.prog 109 [.slice ad n cp, .func (.func f) first capt] h [] (DetW (.bool (!(allI n fun i => !p i))) []) := by
  refine ct_intro Try.func109 rfl rfl rfl rfl fun Φ => ?_
  refine en_seq <| en_region <| en_det (opT_assign rfl) rfl <| en_nil <| en_then <| en_seq <| en_region <| en_det (opT_move rfl) rfl <| en_det (opT_move rfl) rfl <| en_calld (index122_ct h ad n cp hn el hel f first capt p hc) rfl rfl rfl rfl <| en_det (opT_geq rfl rfl) rfl <| en_det (opT_assign rfl) rfl <| en_nil <| en_then <| en_ret <| ?_
  refine en_return (rs := [.tmp 4]) rfl (.cons (.tmp rfl) .nil) (.refl _) ⟨by rw [← findI_neg]; rfl, rfl⟩
theorem contains112_ct (h : Heap) (ad : Option Addr) (n cp : Nat) (hn : n ≤ 9223372036854775807) (el : Nat → Nat → Value) (hel : 0 < n → ∃ b off, ad = some ⟨b, off, none⟩ ∧ CellsH h b off (rows n 9 el))
    (f : FuncId) (first capt : Array Value) (p : Nat → Bool) (hc : ∀ i, i < n → CT Try.prog f (first.toList ++ [.agg (row 9 (el i)).toArray] ++ capt.toList) h [] (DetW (.bool (p i)) [])) :
    CT Try.prog 112 [.slice ad n cp, .func (.func f) first capt] h [] (DetW (.bool (!(allI n fun i => !p i))) []) := by
  refine ct_intro Try.func112 rfl rfl rfl rfl fun Φ => ?_
  refine en_seq <| en_region <| en_det (opT_assign rfl) rfl <| en_nil <| en_then <| en_seq <| en_region <| en_det (opT_move rfl) rfl <| en_det (opT_move rfl) rfl <| en_calld (index123_ct h ad n cp hn el hel f first capt p hc) rfl rfl rfl rfl <| en_det (opT_geq rfl rfl) rfl <| en_det (opT_assign rfl) rfl <| en_nil <| en_then <| en_ret <| ?_
  refine en_return (rs := [.tmp 4]) rfl (.cons (.tmp rfl) .nil) (.refl _) ⟨by rw [← findI_neg]; rfl, rfl⟩
theorem all1115_ct (h : Heap) (b : Nat) (v : Int) (f : FuncId) (first capt : Array Value) (p : Bool) (hb : cellH h b 0 = some (.func (.func f) first capt)) (hc : CT Try.prog f (first.toList ++ [.int .i64 v] ++ capt.toList) h [] (DetW (.bool p) [])) :
    CT Try.prog 115 [.int .i64 v, .pointer (some ⟨b, 0, none⟩)] h [] (DetW (.bool (!p)) []) := by
  refine ct_intro Try.func115 rfl rfl rfl rfl fun Φ => ?_
  refine en_seq <| en_region <| en_det (opT_assign rfl) rfl <| en_nil <| en_then <| en_seq <| en_region <| ?_
  first | refine en_det (opT_load_h rfl (by assumption)) rfl ?_ | refine en_det (opT_load_own rfl rfl) rfl ?_
  refine en_det (opT_move rfl) rfl <| en_calld (hc) rfl rfl rfl rfl <| ?_
  first | refine en_det (opT_not_t rfl) rfl ?_ | refine en_det (opT_not_f rfl) rfl ?_ | refine en_det (opT_not rfl) rfl ?_
  refine en_det (opT_assign rfl) rfl <| en_nil <| en_then <| en_ret <| ?_
  refine en_return (rs := [.tmp 3]) rfl (.cons (.tmp rfl) .nil) (.refl _) ⟨by cases p <;> rfl, rfl⟩
theorem all1126_ct (h : Heap) (b : Nat) (v : Int) (f : FuncId) (first capt : Array Value) (p : Bool) (hb : cellH h b 0 = some (.func (.func f) first capt)) (hc : CT Try.prog f (first.toList ++ [.int .i64 v] ++ capt.toList) h [] (DetW (.bool p) [])) :
    CT Try.prog 126 [.int .i64 v, .pointer (some ⟨b, 0, none⟩)] h [] (DetW (.bool (!p)) []) := by
  refine ct_intro Try.func126 rfl rfl rfl rfl fun Φ => ?_
  refine en_seq <| en_region <| en_det (opT_assign rfl) rfl <| en_nil <| en_then <| en_seq <| en_region <| ?_
  first | refine en_det (opT_load_h rfl (by assumption)) rfl ?_ | refine en_det (opT_load_own rfl rfl) rfl ?_
  refine en_det (opT_move rfl) rfl <| en_calld (hc) rfl rfl rfl rfl <| ?_
  first | refine en_det (opT_not_t rfl) rfl ?_ | refine en_det (opT_not_f rfl) rfl ?_ | refine en_det (opT_not rfl) rfl ?_
  refine en_det (opT_assign rfl) rfl <| en_nil <| en_then <| en_ret <| ?_
  refine en_return (rs := [.tmp 3]) rfl (.cons (.tmp rfl) .nil) (.refl _) ⟨by cases p <;> rfl, rfl⟩

theorem all1110_ct (h : Heap) (b : Nat) (g : Nat → Value) (f : FuncId) (first capt : Array Value) (p : Bool) (hb : cellH h b 0 = some (.func (.func f) first capt)) (hc : CT Try.prog f (first.toList ++ [.agg (row 5 g).toArray] ++ capt.toList) h [] (DetW (.bool p) [])) :
    CT Try.prog 110 [.agg (row 5 g).toArray, .pointer (some ⟨b, 0, none⟩)] h [] (DetW (.bool (!p)) []) := by
  refine ct_intro Try.func110 rfl rfl rfl rfl fun Φ => ?_
  refine en_seq <| en_region <| en_box rfl rfl rfl fun b2 => en_det (opT_assign rfl) rfl <| en_nil <| en_then <| en_seq <| en_region <| ?_
  first | refine en_det (opT_load_h rfl (by assumption)) rfl ?_ | refine en_det (opT_load_own rfl rfl) rfl ?_
  first | refine en_det (opT_loadW_own rfl rfl) rfl ?_ | refine en_det (opT_loadA_own rfl) rfl ?_
  refine en_calld (hc) rfl rfl rfl rfl <| ?_
  first | refine en_det (opT_not_t rfl) rfl ?_ | refine en_det (opT_not_f rfl) rfl ?_ | refine en_det (opT_not rfl) rfl ?_
  refine en_det (opT_assign rfl) rfl <| en_nil <| en_then <| en_ret <| ?_
  refine en_return (rs := [.tmp 3]) rfl (.cons (.tmp rfl) .nil) (.refl _) ⟨by cases p <;> rfl, rfl⟩
theorem all1113_ct (h : Heap) (b : Nat) (g : Nat → Value) (f : FuncId) (first capt : Array Value) (p : Bool) (hb : cellH h b 0 = some (.func (.func f) first capt)) (hc : CT Try.prog f (first.toList ++ [.agg (row 9 g).toArray] ++ capt.toList) h [] (DetW (.bool p) [])) :
    CT Try.prog 113 [.agg (row 9 g).toArray, .pointer (some ⟨b, 0, none⟩)] h [] (DetW (.bool (!p)) []) := by
  refine ct_intro Try.func113 rfl rfl rfl rfl fun Φ => ?_
  refine en_seq <| en_region <| en_box rfl rfl rfl fun b2 => en_det (opT_assign rfl) rfl <| en_nil <| en_then <| en_seq <| en_region <| ?_
  first | refine en_det (opT_load_h rfl (by assumption)) rfl ?_ | refine en_det (opT_load_own rfl rfl) rfl ?_
  first | refine en_det (opT_loadW_own rfl rfl) rfl ?_ | refine en_det (opT_loadA_own rfl) rfl ?_
  refine en_calld (hc) rfl rfl rfl rfl <| ?_
  first | refine en_det (opT_not_t rfl) rfl ?_ | refine en_det (opT_not_f rfl) rfl ?_ | refine en_det (opT_not rfl) rfl ?_
  refine en_det (opT_assign rfl) rfl <| en_nil <| en_then <| en_ret <| ?_
  refine en_return (rs := [.tmp 3]) rfl (.cons (.tmp rfl) .nil) (.refl _) ⟨by cases p <;> rfl, rfl⟩
theorem all86_ct (h : Heap) (ad : Option Addr) (n cp : Nat) (hn : n ≤ 9223372036854775807) (el : Nat → Int) (hel : 0 < n → ∃ b off, ad = some ⟨b, off, none⟩ ∧ ∀ i, i < n → cellH h b (off + i) = some (.int .i64 (el i)))
    (f : FuncId) (first capt : Array Value) (p : Nat → Bool) (hc : ∀ i, i < n → CT Try.prog f (first.toList ++ [.int .i64 (el i)] ++ capt.toList) h [] (DetW (.bool (p i)) [])) :
    CT Try.prog 86 [.slice ad n cp, .func (.func f) first capt] h [] (DetW (.bool (allI n p)) []) := by
  refine ct_intro Try.func86 rfl rfl rfl rfl fun Φ => ?_
  refine en_seq <| en_region <| en_box rfl rfl rfl fun b3 => en_det (opT_assign rfl) rfl <| en_nil <| en_then <| en_seq <| en_region <| en_det (opT_move rfl) rfl <| en_det (opT_makeFunc rfl rfl) rfl <| ?_
  refine en_fzb fun h1 hs1 hb1 => ?_
  have hel1 : 0 < n → ∃ b off, ad = some ⟨b, off, none⟩ ∧ ∀ i, i < n → cellH h1 b (off + i) = some (.int .i64 (el i)) := fun h0 => by
    obtain ⟨b, off, e, hh⟩ := hel h0
    exact ⟨b, off, e, fun i hi => cellH_sub hs1 (hh i hi)⟩
  have hc1 : ∀ i, i < n → CT Try.prog 115 ((#[] : Array Value).toList ++ [.int .i64 (el i)] ++ (#[.pointer (some ⟨b3, 0, none⟩)] : Array Value).toList) h1 [] (DetW (.bool (!p i)) []) := fun i hi =>
    all1115_ct h1 b3 (el i) f first capt (p i) (cellH_box hb1 rfl) (ct_upw hs1 (hc i hi))
  refine en_calld (contains114_ct h1 ad n cp hn el hel1 115 #[] #[.pointer (some ⟨b3, 0, none⟩)] (fun i => !p i) hc1) rfl rfl rfl rfl <| ?_
  first | refine en_det (opT_not_t rfl) rfl ?_ | refine en_det (opT_not_f rfl) rfl ?_ | refine en_det (opT_not rfl) rfl ?_
  refine en_det (opT_assign rfl) rfl <| en_nil <| en_then <| en_ret <| ?_
  refine en_return (rs := [.tmp 4]) rfl (.cons (.tmp rfl) .nil) hs1 ⟨by simp [resVal], rfl⟩
theorem all116_ct (h : Heap) (ad : Option Addr) (n cp : Nat) (hn : n ≤ 9223372036854775807) (el : Nat → Int) (hel : 0 < n → ∃ b off, ad = some ⟨b, off, none⟩ ∧ ∀ i, i < n → cellH h b (off + i) = some (.int .i64 (el i)))
    (f : FuncId) (first capt : Array Value) (p : Nat → Bool) (hc : ∀ i, i < n → CT Try.prog f (first.toList ++ [.int .i64 (el i)] ++ capt.toList) h [] (DetW (.bool (p i)) [])) :
    CT Try.prog 116 [.slice ad n cp, .func (.func f) first capt] h [] (DetW (.bool (allI n p)) []) := by
  refine ct_intro Try.func116 rfl rfl rfl rfl fun Φ => ?_
  refine en_seq <| en_region <| en_box rfl rfl rfl fun b3 => en_det (opT_assign rfl) rfl <| en_nil <| en_then <| en_seq <| en_region <| en_det (opT_move rfl) rfl <| en_det (opT_makeFunc rfl rfl) rfl <| ?_
  refine en_fzb fun h1 hs1 hb1 => ?_
  have hel1 : 0 < n → ∃ b off, ad = some ⟨b, off, none⟩ ∧ ∀ i, i < n → cellH h1 b (off + i) = some (.int .i64 (el i)) := fun h0 => by
    obtain ⟨b, off, e, hh⟩ := hel h0
    exact ⟨b, off, e, fun i hi => cellH_sub hs1 (hh i hi)⟩
  have hc1 : ∀ i, i < n → CT Try.prog 126 ((#[] : Array Value).toList ++ [.int .i64 (el i)] ++ (#[.pointer (some ⟨b3, 0, none⟩)] : Array Value).toList) h1 [] (DetW (.bool (!p i)) []) := fun i hi =>
    all1126_ct h1 b3 (el i) f first capt (p i) (cellH_box hb1 rfl) (ct_upw hs1 (hc i hi))
  refine en_calld (contains125_ct h1 ad n cp hn el hel1 126 #[] #[.pointer (some ⟨b3, 0, none⟩)] (fun i => !p i) hc1) rfl rfl rfl rfl <| ?_
  first | refine en_det (opT_not_t rfl) rfl ?_ | refine en_det (opT_not_f rfl) rfl ?_ | refine en_det (opT_not rfl) rfl ?_
  refine en_det (opT_assign rfl) rfl <| en_nil <| en_then <| en_ret <| ?_
  refine en_return (rs := [.tmp 4]) rfl (.cons (.tmp rfl) .nil) hs1 ⟨by simp [resVal], rfl⟩
theorem all81_ct (h : Heap) (ad : Option Addr) (n cp : Nat) (hn : n ≤ 9223372036854775807) (el : Nat → Nat → Value) (hel : 0 < n → ∃ b off, ad = some ⟨b, off, none⟩ ∧ CellsH h b off (rows n 5 el))
    (f : FuncId) (first capt : Array Value) (p : Nat → Bool) (hc : ∀ i, i < n → CT Try.prog f (first.toList ++ [.agg (row 5 (el i)).toArray] ++ capt.toList) h [] (DetW (.bool (p i)) [])) :
    CT Try.prog 81 [.slice ad n cp, .func (.func f) first capt] h [] (DetW (.bool (allI n p)) []) := by
  refine ct_intro Try.func81 rfl rfl rfl rfl fun Φ => ?_
  refine en_seq <| en_region <| en_box rfl rfl rfl fun b3 => en_det (opT_assign rfl) rfl <| en_nil <| en_then <| en_seq <| en_region <| en_det (opT_move rfl) rfl <| en_det (opT_makeFunc rfl rfl) rfl <| ?_
  refine en_fzb fun h1 hs1 hb1 => ?_
  have hel1 : 0 < n → ∃ b off, ad = some ⟨b, off, none⟩ ∧ CellsH h1 b off (rows n 5 el) := fun h0 => by
    obtain ⟨b, off, e, hh⟩ := hel h0
    exact ⟨b, off, e, hh.mono hs1⟩
  have hc1 : ∀ i, i < n → CT Try.prog 110 ((#[] : Array Value).toList ++ [.agg (row 5 (el i)).toArray] ++ (#[.pointer (some ⟨b3, 0, none⟩)] : Array Value).toList) h1 [] (DetW (.bool (!p i)) []) := fun i hi =>
    all1110_ct h1 b3 (el i) f first capt (p i) (cellH_box hb1 rfl) (ct_upw hs1 (hc i hi))
  refine en_calld (contains109_ct h1 ad n cp hn el hel1 110 #[] #[.pointer (some ⟨b3, 0, none⟩)] (fun i => !p i) hc1) rfl rfl rfl rfl <| ?_
  first | refine en_det (opT_not_t rfl) rfl ?_ | refine en_det (opT_not_f rfl) rfl ?_ | refine en_det (opT_not rfl) rfl ?_
  refine en_det (opT_assign rfl) rfl <| en_nil <| en_then <| en_ret <| ?_
  refine en_return (rs := [.tmp 4]) rfl (.cons (.tmp rfl) .nil) hs1 ⟨by simp [resVal], rfl⟩
theorem all83_ct (h : Heap) (ad : Option Addr) (n cp : Nat) (hn : n ≤ 9223372036854775807) (el : Nat → Nat → Value) (hel : 0 < n → ∃ b off, ad = some ⟨b, off, none⟩ ∧ CellsH h b off (rows n 9 el))
    (f : FuncId) (first capt : Array Value) (p : Nat → Bool) (hc : ∀ i, i < n → CT Try.prog f (first.toList ++ [.agg (row 9 (el i)).toArray] ++ capt.toList) h [] (DetW (.bool (p i)) [])) :
    CT Try.prog 83 [.slice ad n cp, .func (.func f) first capt] h [] (DetW (.bool (allI n p)) []) := by
  refine ct_intro Try.func83 rfl rfl rfl rfl fun Φ => ?_
  refine en_seq <| en_region <| en_box rfl rfl rfl fun b3 => en_det (opT_assign rfl) rfl <| en_nil <| en_then <| en_seq <| en_region <| en_det (opT_move rfl) rfl <| en_det (opT_makeFunc rfl rfl) rfl <| ?_
  refine en_fzb fun h1 hs1 hb1 => ?_
  have hel1 : 0 < n → ∃ b off, ad = some ⟨b, off, none⟩ ∧ CellsH h1 b off (rows n 9 el) := fun h0 => by
    obtain ⟨b, off, e, hh⟩ := hel h0
    exact ⟨b, off, e, hh.mono hs1⟩
  have hc1 : ∀ i, i < n → CT Try.prog 113 ((#[] : Array Value).toList ++ [.agg (row 9 (el i)).toArray] ++ (#[.pointer (some ⟨b3, 0, none⟩)] : Array Value).toList) h1 [] (DetW (.bool (!p i)) []) := fun i hi =>
    all1113_ct h1 b3 (el i) f first capt (p i) (cellH_box hb1 rfl) (ct_upw hs1 (hc i hi))
  refine en_calld (contains112_ct h1 ad n cp hn el hel1 113 #[] #[.pointer (some ⟨b3, 0, none⟩)] (fun i => !p i) hc1) rfl rfl rfl rfl <| ?_
  first | refine en_det (opT_not_t rfl) rfl ?_ | refine en_det (opT_not_f rfl) rfl ?_ | refine en_det (opT_not rfl) rfl ?_
  refine en_det (opT_assign rfl) rfl <| en_nil <| en_then <| en_ret <| ?_
  refine en_return (rs := [.tmp 4]) rfl (.cons (.tmp rfl) .nil) hs1 ⟨by simp [resVal], rfl⟩
end Go.Sx

/- Which belts are right. -/
namespace Go.Sx
open Go.Proofs
set_option maxRecDepth 100000
attribute [local irreducible] Code.wpIn wpListIn Exit.then Exit.inBlock BQ Again Hd St En OpT box blk RQ BQ0 fmap own

theorem getD_lt {l : List Int} {i : Nat} (h : i < l.length) : l.getD i 0 = l[i] := by simp [List.getD_eq_getElem?_getD, h]
theorem risesD_of {l : List Int} (h : ∀ i, i + 1 < l.length → l.getD i 0 < l.getD (i + 1) 0) : risesD l = true := by
  simp only [risesD, allI, List.all_eq_true, List.mem_range, decide_eq_true_eq]
  intro i hi; exact h i (by omega)
theorem risesD_not {l : List Int} {i : Nat} (hi : i + 1 < l.length) (h : ¬ l.getD i 0 < l.getD (i + 1) 0) : risesD l = false := by
  simp only [risesD, allI, List.all_eq_false, List.mem_range]
  exact ⟨i, by omega, by simpa using h⟩

theorem rises89_ct (h : Heap) (v : Value) (l : List Int) (hv : IsInts h v l) : CT Try.prog 89 [v] h [] (DetW (.bool (risesD l)) []) := by
  obtain ⟨ad, cp, rfl, hl, hc, hp⟩ := hv.shape
  refine ct_intro Try.func89 rfl rfl rfl rfl fun Φ => ?_
  refine en_seq <| en_region <| en_det (opT_assign rfl) rfl <| en_nil <| en_then <| en_seq <| en_seq <| en_region <| en_det (opT_assign rfl) rfl <| en_nil <| en_then <| en_block <| ?_
  refine en_loop (fun k => 1 ≤ k ∧ (k ≤ l.length ∨ k = 1) ∧ ∀ i, i + 1 < k → l.getD i 0 < l.getD (i + 1) 0) (fun k : Nat => [(0, .slice ad l.length cp), (3, .int .i64 k)]) (fun _ => h) (fun _ => []) (fun k => l.length - k) 1 ⟨by omega, by omega, fun i hi => by omega⟩ ⟨rfl, rfl, trivial⟩ (.refl _) inferInstance fun k ⟨hk1, hk, hb⟩ => ?_
  refine en_seq <| en_seq <| en_region <| en_det (opT_move rfl) rfl <| en_det (opT_move rfl) rfl <| en_det (opT_len rfl) rfl <| ?_
  first | refine en_det (opT_lss_t rfl rfl (by omega)) rfl ?_ | refine en_det (opT_lss_f rfl rfl (by omega)) rfl ?_ | refine en_det (opT_lss rfl rfl) rfl ?_
  refine en_nil <| en_then <| ?_
  refine en_if rfl (fun hlt => ?_) (fun hlt => ?_)
  · skip
    have hkl : k < l.length := by omega
    obtain ⟨b, off, rfl, hcc⟩ := hp (by omega)
    have hck := hcc k hkl
    have hck' := hcc (k - 1) (by omega)
    refine en_skip <| en_then <| en_seq <| en_block <| en_seq <| en_draw0 [0, 1, 2, 3, 4, 5, 6, 7, 8, 9] (by kernel_rfl) (by decide +kernel) (by decide +kernel) (by decide) <| dp_p rfl (fun _ _ => opT_move rfl) rfl rfl rfl <| dp_p rfl (fun _ _ => opT_move rfl) rfl rfl rfl <| ?_
    first | refine dp_p rfl (fun _ _ => opT_idx1 rfl rfl (by omega) (by omega)) rfl rfl rfl ?_ | refine dp_p rfl (fun _ _ => opT_idx (ks := 0) rfl rfl (by omega) (by omega)) rfl rfl rfl ?_
    first | refine dp_q rfl (opT_load_h rfl (by assumption)) rfl rfl rfl ?_ | refine dp_q rfl (opT_load_own rfl rfl) rfl rfl rfl ?_
    refine dp_p rfl (fun _ _ => opT_move rfl) rfl rfl rfl <| dp_p rfl (fun _ _ => opT_move rfl) rfl rfl rfl <| ?_
    refine dp_p rfl (fun _ _ => opT_sub_to (c := ((k - 1 : Nat) : Int)) rfl rfl (by constructor <;> omega) (by omega)) rfl rfl rfl ?_
    first | refine dp_p rfl (fun _ _ => opT_idx1 rfl rfl (by omega) (by omega)) rfl rfl rfl ?_ | refine dp_p rfl (fun _ _ => opT_idx (ks := 0) rfl rfl (by omega) (by omega)) rfl rfl rfl ?_
    first | refine dp_q rfl (opT_load_h rfl (by assumption)) rfl rfl rfl ?_ | refine dp_q rfl (opT_load_own rfl rfl) rfl rfl rfl ?_
    refine dp_p rfl (fun _ _ => opT_leq rfl rfl) rfl rfl rfl <| dp_done0 <| en_then <| ?_
    by_cases hlt2 : l[k] ≤ l[k - 1]
    · rw [decide_eq_true hlt2]
      skip
      refine en_cond_t rfl <| en_seq <| en_region <| en_det (opT_assign rfl) rfl <| en_nil <| en_then <| en_ret <| en_blk_ret <| en_then_ret <| en_then_ret <| en_blk_ret <| en_then_ret <| ?_
      have hnot : risesD l = false := risesD_not (i := k - 1) (by omega) (by
        rw [getD_lt (by omega : k - 1 < l.length)]
        have e : k - 1 + 1 = k := by omega
        simp only [e]
        rw [getD_lt hkl]; omega)
      refine en_return (rs := [.tmp 2]) rfl (.cons (.tmp rfl) .nil) (.refl _) ⟨by simp [resVal, hnot], rfl⟩
    · rw [decide_eq_false hlt2]
      refine en_cond_f rfl <| en_skip <| en_blk <| en_then <| en_region <| en_det (opT_move rfl) rfl <| en_det (opT_add rfl rfl (by constructor <;> omega)) rfl <| en_det (opT_assign rfl) rfl <| en_nil <| en_then <| ?_
      refine en_again (k + 1) ⟨by omega, by omega, fun i hi => ?_⟩ (by omega) ⟨rfl, gi rfl (by omega), trivial⟩ (.refl _) inferInstance
      rcases Nat.lt_succ_iff_lt_or_eq.1 hi with h1 | h1
      · exact hb i h1
      · have e : k - 1 = i := by omega
        subst h1
        rw [getD_lt (by omega : i < l.length), getD_lt hkl]
        simp only [e] at hlt2
        omega
  · skip
    refine en_exit <| en_then_exit <| en_then_exit <| en_blk_hit <| en_then <| en_seq <| en_region <| en_det (opT_assign rfl) rfl <| en_nil <| en_then <| en_ret <| ?_
    have hyes : risesD l = true := risesD_of fun i hi => hb i (by omega)
    refine en_return (rs := [.tmp 2]) rfl (.cons (.tmp rfl) .nil) (.refl _) ⟨by simp [resVal, hyes], rfl⟩
theorem rises118_ct (h : Heap) (v : Value) (l : List Int) (hv : IsInts h v l) : CT Try.prog 118 [v] h [] (DetW (.bool (risesD l)) []) := by
  obtain ⟨ad, cp, rfl, hl, hc, hp⟩ := hv.shape
  refine ct_intro Try.func118 rfl rfl rfl rfl fun Φ => ?_
  refine en_seq <| en_region <| en_det (opT_assign rfl) rfl <| en_nil <| en_then <| en_seq <| en_seq <| en_region <| en_det (opT_assign rfl) rfl <| en_nil <| en_then <| en_block <| ?_
  refine en_loop (fun k => 1 ≤ k ∧ (k ≤ l.length ∨ k = 1) ∧ ∀ i, i + 1 < k → l.getD i 0 < l.getD (i + 1) 0) (fun k : Nat => [(0, .slice ad l.length cp), (3, .int .i64 k)]) (fun _ => h) (fun _ => []) (fun k => l.length - k) 1 ⟨by omega, by omega, fun i hi => by omega⟩ ⟨rfl, rfl, trivial⟩ (.refl _) inferInstance fun k ⟨hk1, hk, hb⟩ => ?_
  refine en_seq <| en_seq <| en_region <| en_det (opT_move rfl) rfl <| en_det (opT_move rfl) rfl <| en_det (opT_len rfl) rfl <| ?_
  first | refine en_det (opT_lss_t rfl rfl (by omega)) rfl ?_ | refine en_det (opT_lss_f rfl rfl (by omega)) rfl ?_ | refine en_det (opT_lss rfl rfl) rfl ?_
  refine en_nil <| en_then <| ?_
  refine en_if rfl (fun hlt => ?_) (fun hlt => ?_)
  · skip
    have hkl : k < l.length := by omega
    obtain ⟨b, off, rfl, hcc⟩ := hp (by omega)
    have hck := hcc k hkl
    have hck' := hcc (k - 1) (by omega)
    refine en_skip <| en_then <| en_seq <| en_block <| en_seq <| en_draw0 [0, 1, 2, 3, 4, 5, 6, 7, 8, 9] (by kernel_rfl) (by decide +kernel) (by decide +kernel) (by decide) <| dp_p rfl (fun _ _ => opT_move rfl) rfl rfl rfl <| dp_p rfl (fun _ _ => opT_move rfl) rfl rfl rfl <| ?_
    first | refine dp_p rfl (fun _ _ => opT_idx1 rfl rfl (by omega) (by omega)) rfl rfl rfl ?_ | refine dp_p rfl (fun _ _ => opT_idx (ks := 0) rfl rfl (by omega) (by omega)) rfl rfl rfl ?_
    first | refine dp_q rfl (opT_load_h rfl (by assumption)) rfl rfl rfl ?_ | refine dp_q rfl (opT_load_own rfl rfl) rfl rfl rfl ?_
    refine dp_p rfl (fun _ _ => opT_move rfl) rfl rfl rfl <| dp_p rfl (fun _ _ => opT_move rfl) rfl rfl rfl <| ?_
    refine dp_p rfl (fun _ _ => opT_sub_to (c := ((k - 1 : Nat) : Int)) rfl rfl (by constructor <;> omega) (by omega)) rfl rfl rfl ?_
    first | refine dp_p rfl (fun _ _ => opT_idx1 rfl rfl (by omega) (by omega)) rfl rfl rfl ?_ | refine dp_p rfl (fun _ _ => opT_idx (ks := 0) rfl rfl (by omega) (by omega)) rfl rfl rfl ?_
    first | refine dp_q rfl (opT_load_h rfl (by assumption)) rfl rfl rfl ?_ | refine dp_q rfl (opT_load_own rfl rfl) rfl rfl rfl ?_
    refine dp_p rfl (fun _ _ => opT_leq rfl rfl) rfl rfl rfl <| dp_done0 <| en_then <| ?_
    by_cases hlt2 : l[k] ≤ l[k - 1]
    · rw [decide_eq_true hlt2]
      skip
      refine en_cond_t rfl <| en_seq <| en_region <| en_det (opT_assign rfl) rfl <| en_nil <| en_then <| en_ret <| en_blk_ret <| en_then_ret <| en_then_ret <| en_blk_ret <| en_then_ret <| ?_
      have hnot : risesD l = false := risesD_not (i := k - 1) (by omega) (by
        rw [getD_lt (by omega : k - 1 < l.length)]
        have e : k - 1 + 1 = k := by omega
        simp only [e]
        rw [getD_lt hkl]; omega)
      refine en_return (rs := [.tmp 2]) rfl (.cons (.tmp rfl) .nil) (.refl _) ⟨by simp [resVal, hnot], rfl⟩
    · rw [decide_eq_false hlt2]
      refine en_cond_f rfl <| en_skip <| en_blk <| en_then <| en_region <| en_det (opT_move rfl) rfl <| en_det (opT_add rfl rfl (by constructor <;> omega)) rfl <| en_det (opT_assign rfl) rfl <| en_nil <| en_then <| ?_
      refine en_again (k + 1) ⟨by omega, by omega, fun i hi => ?_⟩ (by omega) ⟨rfl, gi rfl (by omega), trivial⟩ (.refl _) inferInstance
      rcases Nat.lt_succ_iff_lt_or_eq.1 hi with h1 | h1
      · exact hb i h1
      · have e : k - 1 = i := by omega
        subst h1
        rw [getD_lt (by omega : i < l.length), getD_lt hkl]
        simp only [e] at hlt2
        omega
  · skip
    refine en_exit <| en_then_exit <| en_then_exit <| en_blk_hit <| en_then <| en_seq <| en_region <| en_det (opT_assign rfl) rfl <| en_nil <| en_then <| en_ret <| ?_
    have hyes : risesD l = true := risesD_of fun i hi => hb i (by omega)
    refine en_return (rs := [.tmp 2]) rfl (.cons (.tmp rfl) .nil) (.refl _) ⟨by simp [resVal, hyes], rfl⟩

theorem pieces1_ct (h : Heap) (x : Int) : CT Try.prog 111 [.int .i64 x] h [] (DetW (.bool (inD x 0 60)) []) := by
  refine ct_intro Try.func111 rfl rfl rfl rfl fun Φ => ?_
  refine en_seq <| en_region <| en_det (opT_assign rfl) rfl <| en_nil <| en_then <| en_seq <| en_region <| en_det (opT_move rfl) rfl <| en_calld (in_ct x 0 60 h) rfl rfl rfl rfl <| en_det (opT_assign rfl) rfl <| en_nil <| en_then <| en_ret <| ?_
  refine en_return (rs := [.tmp 2]) rfl (.cons (.tmp rfl) .nil) (.refl _) ⟨rfl, rfl⟩
theorem pieces_ct (h : Heap) (t : Nat → Int) : CT Try.prog 82 [.agg (trayL t).toArray] h [] (DetW (.bool (piecesD t)) []) := by
  refine ct_intro Try.func82 rfl rfl rfl rfl fun Φ => ?_
  refine en_seq <| en_region <| en_box rfl rfl rfl fun b1 => en_det (opT_assign rfl) rfl <| en_nil <| en_then <| en_seq <| en_region <| ?_
  refine en_fzb fun h1 hs1 hb1 => ?_
  refine en_det (opT_sliceArr (by omega) rfl) rfl <| ?_
  have hel : 0 < 5 → ∃ b off, some (⟨b1, 0, none⟩ : Addr) = some ⟨b, off, none⟩ ∧ ∀ i, i < 5 → cellH h1 b (off + i) = some (.int .i64 (t i)) := fun _ =>
    ⟨b1, 0, rfl, fun i hi => by rw [Nat.zero_add]; exact cellH_box hb1 (row_get hi)⟩
  refine en_calld (all86_ct h1 (some ⟨b1, 0, none⟩) 5 5 (by omega) t hel 111 #[] #[] (fun m => inD (t m) 0 60) (fun i _ => pieces1_ct h1 (t i))) rfl rfl rfl rfl <| en_det (opT_assign rfl) rfl <| en_nil <| en_then <| en_ret <| ?_
  refine en_return (rs := [.tmp 2]) rfl (.cons (.tmp rfl) .nil) hs1 ⟨rfl, rfl⟩
end Go.Sx

/- The check of a belt. -/
namespace Go.Sx
open Go.Proofs
set_option maxRecDepth 100000
attribute [local irreducible] Code.wpIn wpListIn Exit.then Exit.inBlock BQ Again Hd St En OpT box blk RQ BQ0 fmap own

theorem check1_ct (h : Heap) (H : HandD) (r : Value) : CT Try.prog 84 [.agg (handL H r).toArray] h [] (DetW (.bool (inD H.str 0 40 && inD H.tire 0 10 && inD H.slip 0 100)) []) := by
  have c1 := in_ct H.str 0 40 h
  have c2 := in_ct H.tire 0 10 h
  have c3 := in_ct H.slip 0 100 h
  generalize inD H.str 0 40 = p1 at c1 ⊢
  generalize inD H.tire 0 10 = p2 at c2 ⊢
  generalize inD H.slip 0 100 = p3 at c3 ⊢
  refine ct_intro Try.func84 rfl rfl rfl rfl fun Φ => ?_
  refine en_seq <| en_region <| en_box rfl rfl rfl fun b1 => en_det (opT_assign rfl) rfl <| en_nil <| en_then <| en_seq <| en_region <| en_det (opT_fieldAddr rfl) rfl <| en_det (opT_load_own rfl rfl) rfl <| en_calld (c1) rfl rfl rfl rfl <| en_det (opT_move rfl) rfl <| ?_
  skip
  cases p1 with
  | false =>
    refine en_g_no rfl rfl rfl <| en_g_no rfl rfl rfl <| en_g_no rfl rfl rfl <| ?_
    first | refine en_det (opT_pick_t rfl rfl) rfl ?_ | refine en_det (opT_pick_f rfl rfl) rfl ?_
    refine en_det (opT_move rfl) rfl <| en_g_no rfl rfl rfl <| en_g_no rfl rfl rfl <| en_g_no rfl rfl rfl <| ?_
    first | refine en_det (opT_pick_t rfl rfl) rfl ?_ | refine en_det (opT_pick_f rfl rfl) rfl ?_
    refine en_det (opT_assign rfl) rfl <| en_nil <| en_then <| en_ret <| ?_
    refine en_return (rs := [.tmp 2]) rfl (.cons (.tmp rfl) .nil) (.refl _) ⟨rfl, rfl⟩
  | true =>
    cases p2 with
    | false =>
      refine en_g_yes rfl rfl <| en_det (opT_fieldAddr rfl) rfl <| en_g_yes rfl rfl <| en_det (opT_load_own rfl rfl) rfl <| en_g_yes rfl rfl <| en_calld (c2) rfl rfl rfl rfl <| ?_
      first | refine en_det (opT_pick_t rfl rfl) rfl ?_ | refine en_det (opT_pick_f rfl rfl) rfl ?_
      refine en_det (opT_move rfl) rfl <| en_g_no rfl rfl rfl <| en_g_no rfl rfl rfl <| en_g_no rfl rfl rfl <| ?_
      first | refine en_det (opT_pick_t rfl rfl) rfl ?_ | refine en_det (opT_pick_f rfl rfl) rfl ?_
      refine en_det (opT_assign rfl) rfl <| en_nil <| en_then <| en_ret <| ?_
      refine en_return (rs := [.tmp 2]) rfl (.cons (.tmp rfl) .nil) (.refl _) ⟨rfl, rfl⟩
    | true =>
      refine en_g_yes rfl rfl <| en_det (opT_fieldAddr rfl) rfl <| en_g_yes rfl rfl <| en_det (opT_load_own rfl rfl) rfl <| en_g_yes rfl rfl <| en_calld (c2) rfl rfl rfl rfl <| ?_
      first | refine en_det (opT_pick_t rfl rfl) rfl ?_ | refine en_det (opT_pick_f rfl rfl) rfl ?_
      refine en_det (opT_move rfl) rfl <| en_g_yes rfl rfl <| en_det (opT_fieldAddr rfl) rfl <| en_g_yes rfl rfl <| en_det (opT_load_own rfl rfl) rfl <| en_g_yes rfl rfl <| en_calld (c3) rfl rfl rfl rfl <| ?_
      first | refine en_det (opT_pick_t rfl rfl) rfl ?_ | refine en_det (opT_pick_f rfl rfl) rfl ?_
      refine en_det (opT_assign rfl) rfl <| en_nil <| en_then <| en_ret <| ?_
      refine en_return (rs := [.tmp 2]) rfl (.cons (.tmp rfl) .nil) (.refl _) ⟨by cases p3 <;> rfl, rfl⟩

theorem check21_ct (h : Heap) (x : Int) (b : Nat) (ad : Option Addr) (n cp : Nat) (hv : Value) (hb : cellH h b 0 = some (.slice ad n cp)) (hn : n ≤ 9223372036854775807) : CT Try.prog 87 [.int .i64 x, .pointer (some ⟨b, 0, none⟩)] h [] (DetW (.bool (inD x 0 (n - 1))) []) := by
  refine ct_intro Try.func87 rfl rfl rfl rfl fun Φ => ?_
  refine en_seq <| en_region <| en_det (opT_assign rfl) rfl <| en_nil <| en_then <| en_seq <| en_region <| en_det (opT_move rfl) rfl <| en_det (opT_fieldAddr rfl) rfl <| ?_
  first | refine en_det (opT_load_h rfl (by assumption)) rfl ?_ | refine en_det (opT_load_own rfl rfl) rfl ?_
  refine en_det (opT_len rfl) rfl <| en_det (opT_sub rfl rfl (by constructor <;> omega)) rfl <| en_calld (in_ct x 0 (n - 1) h) rfl rfl rfl rfl <| en_det (opT_assign rfl) rfl <| en_nil <| en_then <| en_ret <| ?_
  refine en_return (rs := [.tmp 3]) rfl (.cons (.tmp rfl) .nil) (.refl _) ⟨rfl, rfl⟩

theorem check2_ct (h : Heap) (H : HandD) (r : Value) (hr : IsInts h r H.rests) (b : Nat) (ad : Option Addr) (n cp : Nat) (hv : Value) (hb : cellH h b 0 = some (.slice ad n cp)) (hn : n ≤ 9223372036854775807) :
    CT Try.prog 85 [.agg (handL H r).toArray, .pointer (some ⟨b, 0, none⟩)] h [] (DetW (.bool (allI H.rests.length fun j => inD (H.rests.getD j 0) 0 (n - 1))) []) := by
  obtain ⟨ad', cp', rfl, hl, hc, hp⟩ := hr.shape
  refine ct_intro Try.func85 rfl rfl rfl rfl fun Φ => ?_
  have hel : 0 < H.rests.length → ∃ b off, ad' = some ⟨b, off, none⟩ ∧ ∀ i, i < H.rests.length → cellH h b (off + i) = some (.int .i64 (H.rests.getD i 0)) := fun h0 => by
    obtain ⟨b', off, e, hh⟩ := hp h0
    exact ⟨b', off, e, fun i hi => by rw [getD_lt hi]; exact hh i hi⟩
  refine en_seq <| en_region <| en_box rfl rfl rfl fun b2 => en_det (opT_assign rfl) rfl <| en_nil <| en_then <| en_seq <| en_region <| en_det (opT_fieldAddr rfl) rfl <| en_det (opT_load_own rfl rfl) rfl <| en_det (opT_makeFunc rfl rfl) rfl <| en_calld (all86_ct h ad' H.rests.length cp' (by omega) (fun i => H.rests.getD i 0) hel 87 #[] #[.pointer (some ⟨b, 0, none⟩)] (fun j => inD (H.rests.getD j 0) 0 (n - 1)) (fun i _ => check21_ct h _ b ad n cp hv hb hn)) rfl rfl rfl rfl <| en_det (opT_assign rfl) rfl <| en_nil <| en_then <| en_ret <| ?_
  refine en_return (rs := [.tmp 3]) rfl (.cons (.tmp rfl) .nil) (.refl _) ⟨rfl, rfl⟩

theorem check3_ct (h : Heap) (H : HandD) (r : Value) (hr : IsInts h r H.rests) : CT Try.prog 88 [.agg (handL H r).toArray] h [] (DetW (.bool (risesD H.rests)) []) := by
  refine ct_intro Try.func88 rfl rfl rfl rfl fun Φ => ?_
  refine en_seq <| en_region <| en_box rfl rfl rfl fun b1 => en_det (opT_assign rfl) rfl <| en_nil <| en_then <| en_seq <| en_region <| en_det (opT_fieldAddr rfl) rfl <| en_det (opT_load_own rfl rfl) rfl <| en_calld (rises89_ct h r H.rests hr) rfl rfl rfl rfl <| en_det (opT_assign rfl) rfl <| en_nil <| en_then <| en_ret <| ?_
  refine en_return (rs := [.tmp 2]) rfl (.cons (.tmp rfl) .nil) (.refl _) ⟨rfl, rfl⟩

theorem check_ct (h : Heap) (v : Value) (b : BeltD) (hb : IsBelt h v b) : CT Try.prog 27 [v] h [] (DetW (.int .i64 (checkD b)) []) := by
  obtain ⟨tv, hv, rfl, ht, rv, hhs, hrs⟩ := hb
  obtain ⟨hl1, ad1, cp1, rfl, hm1, hc1, hp1⟩ := ht
  obtain ⟨hl2, ad2, cp2, rfl, hm2, hc2, hp2⟩ := hhs
  have cA := in_ct b.nt 1 8
  have cB : ∀ h1, h.sub h1 → CT Try.prog 81 [.slice ad1 b.nt cp1, .func (.func 82) #[] #[]] h1 [] (DetW (.bool (allI b.nt fun i => piecesD (b.tray i))) []) := fun h1 hs =>
    all81_ct h1 ad1 b.nt cp1 (by omega) (icell b.tray) (fun h0 => by obtain ⟨q, off, e, hh⟩ := hp1 h0; exact ⟨q, off, e, hh.mono hs⟩) 82 #[] #[] _ (fun i _ => pieces_ct h1 (b.tray i))
  have hel2 : ∀ h1, h.sub h1 → (0 < b.nh → ∃ q off, ad2 = some ⟨q, off, none⟩ ∧ CellsH h1 q off (rows b.nh 9 fun i => hcell (b.hand i) (rv i))) := fun h1 hs h0 => by
    obtain ⟨q, off, e, hh⟩ := hp2 h0; exact ⟨q, off, e, hh.mono hs⟩
  have cC : ∀ h1, h.sub h1 → CT Try.prog 83 [.slice ad2 b.nh cp2, .func (.func 84) #[] #[]] h1 [] (DetW (.bool (allI b.nh fun i => inD (b.hand i).str 0 40 && inD (b.hand i).tire 0 10 && inD (b.hand i).slip 0 100)) []) := fun h1 hs =>
    all83_ct h1 ad2 b.nh cp2 (by omega) _ (hel2 h1 hs) 84 #[] #[] _ (fun i _ => check1_ct h1 (b.hand i) (rv i))
  have cD : ∀ h1 b1, h.sub h1 → cellH h1 b1 0 = some (.slice ad1 b.nt cp1) → CT Try.prog 83 [.slice ad2 b.nh cp2, .func (.func 85) #[] #[.pointer (some ⟨b1, 0, none⟩)]] h1 [] (DetW (.bool (allI b.nh fun i => allI (b.hand i).rests.length fun j => inD ((b.hand i).rests.getD j 0) 0 (b.nt - 1))) []) := fun h1 b1 hs hb =>
    all83_ct h1 ad2 b.nh cp2 (by omega) _ (hel2 h1 hs) 85 #[] #[.pointer (some ⟨b1, 0, none⟩)] _ (fun i hi => check2_ct h1 (b.hand i) (rv i) ((hrs i hi).mono hs) b1 ad1 b.nt cp1 (.int .i64 0) hb (by omega))
  have cE : ∀ h1, h.sub h1 → CT Try.prog 83 [.slice ad2 b.nh cp2, .func (.func 88) #[] #[]] h1 [] (DetW (.bool (allI b.nh fun i => risesD (b.hand i).rests)) []) := fun h1 hs =>
    all83_ct h1 ad2 b.nh cp2 (by omega) _ (hel2 h1 hs) 88 #[] #[] _ (fun i hi => check3_ct h1 (b.hand i) (rv i) ((hrs i hi).mono hs))
  unfold checkD
  generalize inD b.nt 1 8 = p1 at cA ⊢
  generalize (allI b.nt fun i => piecesD (b.tray i)) = p2 at cB ⊢
  generalize (allI b.nh fun i => inD (b.hand i).str 0 40 && inD (b.hand i).tire 0 10 && inD (b.hand i).slip 0 100) = p3 at cC ⊢
  generalize (allI b.nh fun i => allI (b.hand i).rests.length fun j => inD ((b.hand i).rests.getD j 0) 0 (b.nt - 1)) = p4 at cD ⊢
  generalize (allI b.nh fun i => risesD (b.hand i).rests) = p5 at cE ⊢
  refine ct_intro Try.func27 rfl rfl rfl rfl fun Φ => ?_
  refine en_seq <| en_region <| en_box rfl rfl rfl fun b1 => en_det (opT_assign rfl) rfl <| en_nil <| en_then <| en_seq <| en_block <| en_seq <| en_region <| en_det (opT_fieldAddr rfl) rfl <| en_det (opT_load_own rfl rfl) rfl <| en_det (opT_len rfl) rfl <| ?_
  refine en_fzb fun h1 hs1 hb1 => ?_
  have k0 : cellH h1 b1 0 = some (.slice ad1 b.nt cp1) := cellH_box hb1 rfl
  have k1 : cellH h1 b1 1 = some (.slice ad2 b.nh cp2) := cellH_box hb1 rfl
  replace cA := cA h1
  replace cB := cB h1 hs1
  replace cC := cC h1 hs1
  replace cD := cD h1 b1 hs1 k0
  replace cE := cE h1 hs1
  cases p1 with
  | false =>
    skip
    refine en_calld (cA) rfl rfl rfl rfl <| ?_
    first | refine en_det (opT_not_t rfl) rfl ?_ | refine en_det (opT_not_f rfl) rfl ?_ | refine en_det (opT_not rfl) rfl ?_
    refine en_det (opT_move rfl) rfl <| en_g_no rfl rfl rfl <| en_g_no rfl rfl rfl <| en_g_no rfl rfl rfl <| en_g_no rfl rfl rfl <| ?_
    first | refine en_det (opT_pick_t rfl rfl) rfl ?_ | refine en_det (opT_pick_f rfl rfl) rfl ?_
    refine en_det (opT_assign rfl) rfl <| en_nil <| en_then <| en_cond_t rfl <| en_seq <| en_region <| en_det (opT_assign rfl) rfl <| en_nil <| en_then <| en_ret <| en_blk_ret <| en_then_ret <| ?_
    refine en_return (rs := [.tmp 2]) rfl (.cons (.tmp rfl) .nil) hs1 ⟨rfl, rfl⟩
  | true =>
    by_cases h5 : 5 < b.nh
    · skip
      refine en_calld (cA) rfl rfl rfl rfl <| ?_
      first | refine en_det (opT_not_t rfl) rfl ?_ | refine en_det (opT_not_f rfl) rfl ?_ | refine en_det (opT_not rfl) rfl ?_
      refine en_det (opT_move rfl) rfl <| en_g_yes rfl rfl <| en_det (opT_fieldAddr rfl) rfl <| en_g_yes rfl rfl <| ?_
      first | refine en_det (opT_load_h rfl (by assumption)) rfl ?_ | refine en_det (opT_load_own rfl rfl) rfl ?_
      refine en_g_yes rfl rfl <| en_det (opT_len rfl) rfl <| en_g_yes rfl rfl <| en_det (opT_gtr_t rfl rfl (by omega)) rfl <| ?_
      first | refine en_det (opT_pick_t rfl rfl) rfl ?_ | refine en_det (opT_pick_f rfl rfl) rfl ?_
      refine en_det (opT_assign rfl) rfl <| en_nil <| en_then <| en_cond_t rfl <| en_seq <| en_region <| en_det (opT_assign rfl) rfl <| en_nil <| en_then <| en_ret <| en_blk_ret <| en_then_ret <| ?_
      have : decide (b.nh > 5) = true := by simpa using h5
      refine en_return (rs := [.tmp 2]) rfl (.cons (.tmp rfl) .nil) hs1 ⟨by rw [this]; rfl, rfl⟩
    · have h5' : decide (b.nh > 5) = false := by simpa using h5
      rw [h5']
      cases p2 with
      | false =>
        refine en_calld (cA) rfl rfl rfl rfl <| ?_
        first | refine en_det (opT_not_t rfl) rfl ?_ | refine en_det (opT_not_f rfl) rfl ?_ | refine en_det (opT_not rfl) rfl ?_
        refine en_det (opT_move rfl) rfl <| en_g_yes rfl rfl <| en_det (opT_fieldAddr rfl) rfl <| en_g_yes rfl rfl <| ?_
        first | refine en_det (opT_load_h rfl (by assumption)) rfl ?_ | refine en_det (opT_load_own rfl rfl) rfl ?_
        refine en_g_yes rfl rfl <| en_det (opT_len rfl) rfl <| en_g_yes rfl rfl <| en_det (opT_gtr_f rfl rfl (by omega)) rfl <| ?_
        first | refine en_det (opT_pick_t rfl rfl) rfl ?_ | refine en_det (opT_pick_f rfl rfl) rfl ?_
        refine en_det (opT_assign rfl) rfl <| en_nil <| en_then <| en_cond_f rfl <| en_seq <| en_region <| en_det (opT_fieldAddr rfl) rfl <| ?_
        first | refine en_det (opT_load_h rfl (by assumption)) rfl ?_ | refine en_det (opT_load_own rfl rfl) rfl ?_
        refine en_calld (cB) rfl rfl rfl rfl <| ?_
        first | refine en_det (opT_not_t rfl) rfl ?_ | refine en_det (opT_not_f rfl) rfl ?_ | refine en_det (opT_not rfl) rfl ?_
        refine en_det (opT_assign rfl) rfl <| en_nil <| en_then <| en_cond_t rfl <| en_seq <| en_region <| en_det (opT_assign rfl) rfl <| en_nil <| en_then <| en_ret <| en_blk_ret <| en_then_ret <| ?_
        refine en_return (rs := [.tmp 2]) rfl (.cons (.tmp rfl) .nil) hs1 ⟨rfl, rfl⟩
      | true =>
        cases p3 with
        | false =>
          refine en_calld (cA) rfl rfl rfl rfl <| ?_
          first | refine en_det (opT_not_t rfl) rfl ?_ | refine en_det (opT_not_f rfl) rfl ?_ | refine en_det (opT_not rfl) rfl ?_
          refine en_det (opT_move rfl) rfl <| en_g_yes rfl rfl <| en_det (opT_fieldAddr rfl) rfl <| en_g_yes rfl rfl <| ?_
          first | refine en_det (opT_load_h rfl (by assumption)) rfl ?_ | refine en_det (opT_load_own rfl rfl) rfl ?_
          refine en_g_yes rfl rfl <| en_det (opT_len rfl) rfl <| en_g_yes rfl rfl <| en_det (opT_gtr_f rfl rfl (by omega)) rfl <| ?_
          first | refine en_det (opT_pick_t rfl rfl) rfl ?_ | refine en_det (opT_pick_f rfl rfl) rfl ?_
          refine en_det (opT_assign rfl) rfl <| en_nil <| en_then <| en_cond_f rfl <| en_seq <| en_region <| en_det (opT_fieldAddr rfl) rfl <| ?_
          first | refine en_det (opT_load_h rfl (by assumption)) rfl ?_ | refine en_det (opT_load_own rfl rfl) rfl ?_
          refine en_calld (cB) rfl rfl rfl rfl <| ?_
          first | refine en_det (opT_not_t rfl) rfl ?_ | refine en_det (opT_not_f rfl) rfl ?_ | refine en_det (opT_not rfl) rfl ?_
          refine en_det (opT_assign rfl) rfl <| en_nil <| en_then <| en_cond_f rfl <| en_seq <| en_region <| en_det (opT_fieldAddr rfl) rfl <| ?_
          first | refine en_det (opT_load_h rfl (by assumption)) rfl ?_ | refine en_det (opT_load_own rfl rfl) rfl ?_
          refine en_calld (cC) rfl rfl rfl rfl <| ?_
          first | refine en_det (opT_not_t rfl) rfl ?_ | refine en_det (opT_not_f rfl) rfl ?_ | refine en_det (opT_not rfl) rfl ?_
          refine en_det (opT_assign rfl) rfl <| en_nil <| en_then <| en_cond_t rfl <| en_seq <| en_region <| en_det (opT_assign rfl) rfl <| en_nil <| en_then <| en_ret <| en_blk_ret <| en_then_ret <| ?_
          refine en_return (rs := [.tmp 2]) rfl (.cons (.tmp rfl) .nil) hs1 ⟨rfl, rfl⟩
        | true =>
          cases p4 with
          | false =>
            refine en_calld (cA) rfl rfl rfl rfl <| ?_
            first | refine en_det (opT_not_t rfl) rfl ?_ | refine en_det (opT_not_f rfl) rfl ?_ | refine en_det (opT_not rfl) rfl ?_
            refine en_det (opT_move rfl) rfl <| en_g_yes rfl rfl <| en_det (opT_fieldAddr rfl) rfl <| en_g_yes rfl rfl <| ?_
            first | refine en_det (opT_load_h rfl (by assumption)) rfl ?_ | refine en_det (opT_load_own rfl rfl) rfl ?_
            refine en_g_yes rfl rfl <| en_det (opT_len rfl) rfl <| en_g_yes rfl rfl <| en_det (opT_gtr_f rfl rfl (by omega)) rfl <| ?_
            first | refine en_det (opT_pick_t rfl rfl) rfl ?_ | refine en_det (opT_pick_f rfl rfl) rfl ?_
            refine en_det (opT_assign rfl) rfl <| en_nil <| en_then <| en_cond_f rfl <| en_seq <| en_region <| en_det (opT_fieldAddr rfl) rfl <| ?_
            first | refine en_det (opT_load_h rfl (by assumption)) rfl ?_ | refine en_det (opT_load_own rfl rfl) rfl ?_
            refine en_calld (cB) rfl rfl rfl rfl <| ?_
            first | refine en_det (opT_not_t rfl) rfl ?_ | refine en_det (opT_not_f rfl) rfl ?_ | refine en_det (opT_not rfl) rfl ?_
            refine en_det (opT_assign rfl) rfl <| en_nil <| en_then <| en_cond_f rfl <| en_seq <| en_region <| en_det (opT_fieldAddr rfl) rfl <| ?_
            first | refine en_det (opT_load_h rfl (by assumption)) rfl ?_ | refine en_det (opT_load_own rfl rfl) rfl ?_
            refine en_calld (cC) rfl rfl rfl rfl <| ?_
            first | refine en_det (opT_not_t rfl) rfl ?_ | refine en_det (opT_not_f rfl) rfl ?_ | refine en_det (opT_not rfl) rfl ?_
            refine en_det (opT_assign rfl) rfl <| en_nil <| en_then <| en_cond_f rfl <| en_seq <| en_region <| en_det (opT_fieldAddr rfl) rfl <| ?_
            first | refine en_det (opT_load_h rfl (by assumption)) rfl ?_ | refine en_det (opT_load_own rfl rfl) rfl ?_
            refine en_det (opT_makeFunc rfl rfl) rfl <| en_calld (cD) rfl rfl rfl rfl <| ?_
            first | refine en_det (opT_not_t rfl) rfl ?_ | refine en_det (opT_not_f rfl) rfl ?_ | refine en_det (opT_not rfl) rfl ?_
            refine en_det (opT_assign rfl) rfl <| en_nil <| en_then <| en_cond_t rfl <| en_seq <| en_region <| en_det (opT_assign rfl) rfl <| en_nil <| en_then <| en_ret <| en_blk_ret <| en_then_ret <| ?_
            refine en_return (rs := [.tmp 2]) rfl (.cons (.tmp rfl) .nil) hs1 ⟨rfl, rfl⟩
          | true =>
            cases p5 with
            | false =>
              refine en_calld (cA) rfl rfl rfl rfl <| ?_
              first | refine en_det (opT_not_t rfl) rfl ?_ | refine en_det (opT_not_f rfl) rfl ?_ | refine en_det (opT_not rfl) rfl ?_
              refine en_det (opT_move rfl) rfl <| en_g_yes rfl rfl <| en_det (opT_fieldAddr rfl) rfl <| en_g_yes rfl rfl <| ?_
              first | refine en_det (opT_load_h rfl (by assumption)) rfl ?_ | refine en_det (opT_load_own rfl rfl) rfl ?_
              refine en_g_yes rfl rfl <| en_det (opT_len rfl) rfl <| en_g_yes rfl rfl <| en_det (opT_gtr_f rfl rfl (by omega)) rfl <| ?_
              first | refine en_det (opT_pick_t rfl rfl) rfl ?_ | refine en_det (opT_pick_f rfl rfl) rfl ?_
              refine en_det (opT_assign rfl) rfl <| en_nil <| en_then <| en_cond_f rfl <| en_seq <| en_region <| en_det (opT_fieldAddr rfl) rfl <| ?_
              first | refine en_det (opT_load_h rfl (by assumption)) rfl ?_ | refine en_det (opT_load_own rfl rfl) rfl ?_
              refine en_calld (cB) rfl rfl rfl rfl <| ?_
              first | refine en_det (opT_not_t rfl) rfl ?_ | refine en_det (opT_not_f rfl) rfl ?_ | refine en_det (opT_not rfl) rfl ?_
              refine en_det (opT_assign rfl) rfl <| en_nil <| en_then <| en_cond_f rfl <| en_seq <| en_region <| en_det (opT_fieldAddr rfl) rfl <| ?_
              first | refine en_det (opT_load_h rfl (by assumption)) rfl ?_ | refine en_det (opT_load_own rfl rfl) rfl ?_
              refine en_calld (cC) rfl rfl rfl rfl <| ?_
              first | refine en_det (opT_not_t rfl) rfl ?_ | refine en_det (opT_not_f rfl) rfl ?_ | refine en_det (opT_not rfl) rfl ?_
              refine en_det (opT_assign rfl) rfl <| en_nil <| en_then <| en_cond_f rfl <| en_seq <| en_region <| en_det (opT_fieldAddr rfl) rfl <| ?_
              first | refine en_det (opT_load_h rfl (by assumption)) rfl ?_ | refine en_det (opT_load_own rfl rfl) rfl ?_
              refine en_det (opT_makeFunc rfl rfl) rfl <| en_calld (cD) rfl rfl rfl rfl <| ?_
              first | refine en_det (opT_not_t rfl) rfl ?_ | refine en_det (opT_not_f rfl) rfl ?_ | refine en_det (opT_not rfl) rfl ?_
              refine en_det (opT_assign rfl) rfl <| en_nil <| en_then <| en_cond_f rfl <| en_seq <| en_region <| en_det (opT_fieldAddr rfl) rfl <| ?_
              first | refine en_det (opT_load_h rfl (by assumption)) rfl ?_ | refine en_det (opT_load_own rfl rfl) rfl ?_
              refine en_calld (cE) rfl rfl rfl rfl <| ?_
              first | refine en_det (opT_not_t rfl) rfl ?_ | refine en_det (opT_not_f rfl) rfl ?_ | refine en_det (opT_not rfl) rfl ?_
              refine en_det (opT_assign rfl) rfl <| en_nil <| en_then <| en_cond_t rfl <| en_seq <| en_region <| en_det (opT_assign rfl) rfl <| en_nil <| en_then <| en_ret <| en_blk_ret <| en_then_ret <| ?_
              refine en_return (rs := [.tmp 2]) rfl (.cons (.tmp rfl) .nil) hs1 ⟨rfl, rfl⟩
            | true =>
              refine en_calld (cA) rfl rfl rfl rfl <| ?_
              first | refine en_det (opT_not_t rfl) rfl ?_ | refine en_det (opT_not_f rfl) rfl ?_ | refine en_det (opT_not rfl) rfl ?_
              refine en_det (opT_move rfl) rfl <| en_g_yes rfl rfl <| en_det (opT_fieldAddr rfl) rfl <| en_g_yes rfl rfl <| ?_
              first | refine en_det (opT_load_h rfl (by assumption)) rfl ?_ | refine en_det (opT_load_own rfl rfl) rfl ?_
              refine en_g_yes rfl rfl <| en_det (opT_len rfl) rfl <| en_g_yes rfl rfl <| en_det (opT_gtr_f rfl rfl (by omega)) rfl <| ?_
              first | refine en_det (opT_pick_t rfl rfl) rfl ?_ | refine en_det (opT_pick_f rfl rfl) rfl ?_
              refine en_det (opT_assign rfl) rfl <| en_nil <| en_then <| en_cond_f rfl <| en_seq <| en_region <| en_det (opT_fieldAddr rfl) rfl <| ?_
              first | refine en_det (opT_load_h rfl (by assumption)) rfl ?_ | refine en_det (opT_load_own rfl rfl) rfl ?_
              refine en_calld (cB) rfl rfl rfl rfl <| ?_
              first | refine en_det (opT_not_t rfl) rfl ?_ | refine en_det (opT_not_f rfl) rfl ?_ | refine en_det (opT_not rfl) rfl ?_
              refine en_det (opT_assign rfl) rfl <| en_nil <| en_then <| en_cond_f rfl <| en_seq <| en_region <| en_det (opT_fieldAddr rfl) rfl <| ?_
              first | refine en_det (opT_load_h rfl (by assumption)) rfl ?_ | refine en_det (opT_load_own rfl rfl) rfl ?_
              refine en_calld (cC) rfl rfl rfl rfl <| ?_
              first | refine en_det (opT_not_t rfl) rfl ?_ | refine en_det (opT_not_f rfl) rfl ?_ | refine en_det (opT_not rfl) rfl ?_
              refine en_det (opT_assign rfl) rfl <| en_nil <| en_then <| en_cond_f rfl <| en_seq <| en_region <| en_det (opT_fieldAddr rfl) rfl <| ?_
              first | refine en_det (opT_load_h rfl (by assumption)) rfl ?_ | refine en_det (opT_load_own rfl rfl) rfl ?_
              refine en_det (opT_makeFunc rfl rfl) rfl <| en_calld (cD) rfl rfl rfl rfl <| ?_
              first | refine en_det (opT_not_t rfl) rfl ?_ | refine en_det (opT_not_f rfl) rfl ?_ | refine en_det (opT_not rfl) rfl ?_
              refine en_det (opT_assign rfl) rfl <| en_nil <| en_then <| en_cond_f rfl <| en_seq <| en_region <| en_det (opT_fieldAddr rfl) rfl <| ?_
              first | refine en_det (opT_load_h rfl (by assumption)) rfl ?_ | refine en_det (opT_load_own rfl rfl) rfl ?_
              refine en_calld (cE) rfl rfl rfl rfl <| ?_
              first | refine en_det (opT_not_t rfl) rfl ?_ | refine en_det (opT_not_f rfl) rfl ?_ | refine en_det (opT_not rfl) rfl ?_
              refine en_det (opT_assign rfl) rfl <| en_nil <| en_then <| en_cond_f rfl <| en_skip <| en_blk <| en_then <| en_seq <| en_region <| en_det (opT_assign rfl) rfl <| en_nil <| en_then <| en_ret <| ?_
              refine en_return (rs := [.tmp 2]) rfl (.cons (.tmp rfl) .nil) hs1 ⟨rfl, rfl⟩
end Go.Sx

/- Sums, searches, and the desk. -/
namespace Go.Sx
open Go.Proofs
set_option maxRecDepth 100000
attribute [local irreducible] Code.wpIn wpListIn Exit.then Exit.inBlock BQ Again Hd St En OpT box blk RQ BQ0 fmap own

theorem add_own_ct (h : Heap) (b off n cp : Nat) (T : TypeId) (cs : List Value) (f : Nat → Int) (hn : n ≤ 1000) (hf : ∀ i, i < n → 0 ≤ f i ∧ f i ≤ 1000000) (hcs : ∀ i, i < n → cs[off + i]? = some (.int .i64 (f i))) :
    CT Try.prog 76 [.slice (some ⟨b, off, none⟩) n cp] h [box b T cs] (DetW (.int .i64 (sumN n f)) [box b T cs]) := by
  refine ct_intro Try.func76 rfl rfl rfl rfl fun Φ => ?_
  refine en_seq <| en_region <| en_det (opT_assign rfl) rfl <| en_nil <| en_then <| en_seq <| en_region <| en_det (opT_assign rfl) rfl <| en_nil <| en_then <| en_seq <| en_seq <| en_region <| en_det (opT_move rfl) rfl <| en_det (opT_len rfl) rfl <| en_det (opT_move rfl) rfl <| en_nil <| en_then <| en_block <| ?_
  refine en_loop (fun k => k ≤ n) (fun k : Nat => [(3, .int .i64 (sumN k f)), (6, .slice (some ⟨b, off, none⟩) n cp), (7, .int .i64 n), (8, .int .i64 k)]) (fun _ => h) (fun _ => [box b T cs]) (fun k => n - k) 0 (by omega) ⟨rfl, rfl, rfl, rfl, trivial⟩ (.refl _) inferInstance fun k hk => ?_
  refine en_seq <| en_region <| ?_
  first | refine en_det (opT_lss_t rfl rfl (by omega)) rfl ?_ | refine en_det (opT_lss_f rfl rfl (by omega)) rfl ?_ | refine en_det (opT_lss rfl rfl) rfl ?_
  refine en_nil <| en_then <| en_seq <| ?_
  refine en_if rfl (fun hlt => ?_) (fun hlt => ?_)
  · skip
    have hkl : k < n := by omega
    have hck := hcs k hkl
    have hb := sumN_bound (n := k) (f := f) (B := 1000000) fun i hi => hf i (by omega)
    have hb2 := hf k hkl
    refine en_skip <| en_then <| en_seq <| en_block <| en_seq <| en_region <| ?_
    first | refine en_det (opT_idx1 rfl rfl (by omega) (by omega)) rfl ?_ | refine en_det (opT_idx (ks := 0) rfl rfl (by omega) (by omega)) rfl ?_
    refine en_det (opT_load_own rfl hck) rfl <| en_det (opT_assign rfl) rfl <| en_nil <| en_then <| en_region <| en_det (opT_move rfl) rfl <| en_det (opT_move rfl) rfl <| en_det (opT_add rfl rfl (by constructor <;> omega)) rfl <| en_det (opT_assign rfl) rfl <| en_nil <| en_blk <| en_then <| en_region <| en_det (opT_add rfl rfl (by constructor <;> omega)) rfl <| en_det (opT_move rfl) rfl <| en_nil <| en_then <| ?_
    exact en_again (k + 1) (by omega) (by omega) ⟨rfl, rfl, rfl, gi rfl (by omega), trivial⟩ (.refl _) inferInstance
  · skip
    obtain rfl : k = n := by omega
    refine en_exit <| en_then_exit <| en_then_exit <| en_blk_hit <| en_then <| en_seq <| en_region <| en_det (opT_move rfl) rfl <| en_det (opT_assign rfl) rfl <| en_nil <| en_then <| en_ret <| ?_
    refine en_return (rs := [.tmp 2]) rfl (.cons (.tmp rfl) .nil) (.refl _) ⟨rfl, rfl⟩
theorem add_ct (h : Heap) (ad : Option Addr) (n cp : Nat) (f : Nat → Int) (hn : n ≤ 1000) (hf : ∀ i, i < n → 0 ≤ f i ∧ f i ≤ 1000000) (hcs : 0 < n → ∃ b off, ad = some ⟨b, off, none⟩ ∧ ∀ i, i < n → cellH h b (off + i) = some (.int .i64 (f i))) :
    CT Try.prog 76 [.slice ad n cp] h [] (DetW (.int .i64 (sumN n f)) []) := by
  refine ct_intro Try.func76 rfl rfl rfl rfl fun Φ => ?_
  refine en_seq <| en_region <| en_det (opT_assign rfl) rfl <| en_nil <| en_then <| en_seq <| en_region <| en_det (opT_assign rfl) rfl <| en_nil <| en_then <| en_seq <| en_seq <| en_region <| en_det (opT_move rfl) rfl <| en_det (opT_len rfl) rfl <| en_det (opT_move rfl) rfl <| en_nil <| en_then <| en_block <| ?_
  refine en_loop (fun k => k ≤ n) (fun k : Nat => [(3, .int .i64 (sumN k f)), (6, .slice ad n cp), (7, .int .i64 n), (8, .int .i64 k)]) (fun _ => h) (fun _ => []) (fun k => n - k) 0 (by omega) ⟨rfl, rfl, rfl, rfl, trivial⟩ (.refl _) inferInstance fun k hk => ?_
  refine en_seq <| en_region <| ?_
  first | refine en_det (opT_lss_t rfl rfl (by omega)) rfl ?_ | refine en_det (opT_lss_f rfl rfl (by omega)) rfl ?_ | refine en_det (opT_lss rfl rfl) rfl ?_
  refine en_nil <| en_then <| en_seq <| ?_
  refine en_if rfl (fun hlt => ?_) (fun hlt => ?_)
  · skip
    have hkl : k < n := by omega
    obtain ⟨b, off, rfl, hcc⟩ := hcs (by omega)
    have hck := hcc k hkl
    have hb := sumN_bound (n := k) (f := f) (B := 1000000) fun i hi => hf i (by omega)
    have hb2 := hf k hkl
    refine en_skip <| en_then <| en_seq <| en_block <| en_seq <| en_region <| ?_
    first | refine en_det (opT_idx1 rfl rfl (by omega) (by omega)) rfl ?_ | refine en_det (opT_idx (ks := 0) rfl rfl (by omega) (by omega)) rfl ?_
    first | refine en_det (opT_load_h rfl (by assumption)) rfl ?_ | refine en_det (opT_load_own rfl rfl) rfl ?_
    refine en_det (opT_assign rfl) rfl <| en_nil <| en_then <| en_region <| en_det (opT_move rfl) rfl <| en_det (opT_move rfl) rfl <| en_det (opT_add rfl rfl (by constructor <;> omega)) rfl <| en_det (opT_assign rfl) rfl <| en_nil <| en_blk <| en_then <| en_region <| en_det (opT_add rfl rfl (by constructor <;> omega)) rfl <| en_det (opT_move rfl) rfl <| en_nil <| en_then <| ?_
    exact en_again (k + 1) (by omega) (by omega) ⟨rfl, rfl, rfl, gi rfl (by omega), trivial⟩ (.refl _) inferInstance
  · skip
    obtain rfl : k = n := by omega
    refine en_exit <| en_then_exit <| en_then_exit <| en_blk_hit <| en_then <| en_seq <| en_region <| en_det (opT_move rfl) rfl <| en_det (opT_assign rfl) rfl <| en_nil <| en_then <| en_ret <| ?_
    refine en_return (rs := [.tmp 2]) rfl (.cons (.tmp rfl) .nil) (.refl _) ⟨rfl, rfl⟩

theorem index121_ct (h : Heap) (v : Value) (l : List Int) (x : Int) (hv : IsInts h v l) : CT Try.prog 121 [v, .int .i64 x] h [] (DetW (.int .i64 (findI l.length fun i => decide (x = l.getD i 0))) []) := by
  obtain ⟨ad, cp, rfl, hl, hc, hp⟩ := hv.shape
  refine ct_intro Try.func121 rfl rfl rfl rfl fun Φ => ?_
  refine en_seq <| en_region <| en_det (opT_assign rfl) rfl <| en_nil <| en_then <| en_seq <| en_seq <| en_region <| en_det (opT_move rfl) rfl <| en_det (opT_len rfl) rfl <| en_det (opT_move rfl) rfl <| en_nil <| en_then <| en_block <| ?_
  refine en_loop (fun k => k ≤ l.length ∧ ∀ i, i < k → decide (x = l.getD i 0) = false) (fun k : Nat => [(0, .slice ad l.length cp), (1, .int .i64 x), (7, .int .i64 l.length), (8, .int .i64 k)]) (fun _ => h) (fun _ => []) (fun k => l.length - k) 0 ⟨by omega, fun i hi => by omega⟩ ⟨rfl, rfl, rfl, rfl, trivial⟩ (.refl _) inferInstance fun k ⟨hk, hb⟩ => ?_
  refine en_seq <| en_region <| ?_
  first | refine en_det (opT_lss_t rfl rfl (by omega)) rfl ?_ | refine en_det (opT_lss_f rfl rfl (by omega)) rfl ?_ | refine en_det (opT_lss rfl rfl) rfl ?_
  refine en_nil <| en_then <| en_seq <| ?_
  refine en_if rfl (fun hlt => ?_) (fun hlt => ?_)
  · skip
    have hkl : k < l.length := by omega
    obtain ⟨b, off, rfl, hcc⟩ := hp (by omega)
    have hck := hcc k hkl
    rw [← getD_lt hkl] at hck
    by_cases hx : x = l.getD k 0
    · skip
      refine en_skip <| en_then <| en_seq <| en_block <| en_seq <| en_region <| en_det (opT_move rfl) rfl <| en_det (opT_assign rfl) rfl <| en_nil <| en_then <| en_seq <| en_region <| en_det (opT_move rfl) rfl <| en_det (opT_move rfl) rfl <| en_det (opT_move rfl) rfl <| ?_
      first | refine en_det (opT_idx1 rfl rfl (by omega) (by omega)) rfl ?_ | refine en_det (opT_idx (ks := 0) rfl rfl (by omega) (by omega)) rfl ?_
      first | refine en_det (opT_load_h rfl (by assumption)) rfl ?_ | refine en_det (opT_load_own rfl rfl) rfl ?_
      refine en_det (opT_eql_t rfl rfl (by omega)) rfl <| en_nil <| en_then <| en_cond_t rfl <| en_seq <| en_region <| en_det (opT_move rfl) rfl <| en_det (opT_assign rfl) rfl <| en_nil <| en_then <| en_ret <| en_blk_ret <| en_then_ret <| en_then_ret <| en_blk_ret <| en_then_ret <| ?_
      refine en_return (rs := [.tmp 4]) rfl (.cons (.tmp rfl) .nil) (.refl _) ⟨by rw [findI_at hkl hb (by simpa using hx)]; rfl, rfl⟩
    · skip
      refine en_skip <| en_then <| en_seq <| en_block <| en_seq <| en_region <| en_det (opT_move rfl) rfl <| en_det (opT_assign rfl) rfl <| en_nil <| en_then <| en_seq <| en_region <| en_det (opT_move rfl) rfl <| en_det (opT_move rfl) rfl <| en_det (opT_move rfl) rfl <| ?_
      first | refine en_det (opT_idx1 rfl rfl (by omega) (by omega)) rfl ?_ | refine en_det (opT_idx (ks := 0) rfl rfl (by omega) (by omega)) rfl ?_
      first | refine en_det (opT_load_h rfl (by assumption)) rfl ?_ | refine en_det (opT_load_own rfl rfl) rfl ?_
      refine en_det (opT_eql_f rfl rfl (by omega)) rfl <| en_nil <| en_then <| en_cond_f rfl <| en_skip <| en_blk <| en_then <| en_region <| en_det (opT_add rfl rfl (by constructor <;> omega)) rfl <| en_det (opT_move rfl) rfl <| en_nil <| en_then <| ?_
      exact en_again (k + 1) ⟨by omega, fun i hi => by rcases Nat.lt_succ_iff_lt_or_eq.1 hi with h1 | rfl; exact hb i h1; simpa using hx⟩ (by omega) ⟨rfl, rfl, rfl, gi rfl (by omega), trivial⟩ (.refl _) inferInstance
  · skip
    obtain rfl : k = l.length := by omega
    refine en_exit <| en_then_exit <| en_then_exit <| en_blk_hit <| en_then <| en_seq <| en_region <| en_det (opT_assign rfl) rfl <| en_nil <| en_then <| en_ret <| ?_
    refine en_return (rs := [.tmp 4]) rfl (.cons (.tmp rfl) .nil) (.refl _) ⟨by rw [findI_none hb]; rfl, rfl⟩
theorem contains106_ct (h : Heap) (v : Value) (l : List Int) (x : Int) (hv : IsInts h v l) : CT Try.prog 106 [v, .int .i64 x] h [] (DetW (.bool (l.contains x)) []) := by
  refine ct_intro Try.func106 rfl rfl rfl rfl fun Φ => ?_
  refine en_seq <| en_region <| en_det (opT_assign rfl) rfl <| en_nil <| en_then <| en_seq <| en_region <| en_det (opT_move rfl) rfl <| en_det (opT_move rfl) rfl <| en_calld (index121_ct h v l x hv) rfl rfl rfl rfl <| en_det (opT_geq rfl rfl) rfl <| en_det (opT_assign rfl) rfl <| en_nil <| en_then <| en_ret <| ?_
  refine en_return (rs := [.tmp 4]) rfl (.cons (.tmp rfl) .nil) (.refl _) ⟨by rw [← contains_all, ← findI_neg]; rfl, rfl⟩

theorem whole_ct (h : Heap) (t : Nat → Int) (m : Nat) (hm : m < 5) : CT Try.prog 108 [.agg (trayL t).toArray, .int .i64 m] h [] (DetW (.int .i64 (t m)) []) := by
  refine ct_intro Try.func108 rfl rfl rfl rfl fun Φ => ?_
  have hg : (trayL t)[m]? = some (.int .i64 (t m)) := row_get hm
  refine en_seq <| en_region <| en_box rfl rfl rfl fun b2 => en_det (opT_assign rfl) rfl <| en_nil <| en_then <| en_seq <| en_region <| en_det (opT_move rfl) rfl <| en_det (opT_idxArr rfl rfl (by omega) (by omega)) rfl <| en_det (opT_load_own rfl (by rw [hg])) rfl <| en_det (opT_assign rfl) rfl <| en_nil <| en_then <| en_ret <| ?_
  refine en_return (rs := [.tmp 4]) rfl (.cons (.tmp rfl) .nil) (.refl _) ⟨rfl, rfl⟩
end Go.Sx

/- The desk: a belt at work. -/
namespace Go.Sx
open Go.Proofs
set_option maxRecDepth 100000

instance : PairKey Try.prog 161 := by
  exact mk_pairKey Try.underlying161 (by kernel_rfl) rfl rfl rfl rfl

def forceI (H : Nat → HandD) (a t v : Int) : Prop := v = forceD (H a.toNat) t.toNat
def Desk (d : Nat) (tv hv wv : Value) (H : Nat → HandD) : HP := fun k => ∃ m, SepL [box d 150 [tv, hv, .map (some m), wv], fmap m (forceI H)] k
def wholeV : Value := .func (.func 108) #[] #[]

section
variable {n : Nat} {Φ : Fr} {Tt : Act → World → Prop} {ρ : Env} {h : Heap} {Γ : List HP} {d : Nat} {tv hv wv : Value} {H : Nat → HandD}
theorem en_desk (K : ∀ m es clock, PairsIn (forceI H) es.toList → En n Φ Tt ρ h (blk m (.map es clock) :: box d 150 [tv, hv, .map (some m), wv] :: Γ)) : En n Φ Tt ρ h (Desk d tv hv wv H :: Γ) :=
  en_ex fun m => en_sep <| en_perm (.swap _ _ _) <| en_fmap fun es clock hall => K m es clock hall
theorem en_to_desk {m clock : Nat} {es : Array MapEntry} (hall : PairsIn (forceI H) es.toList) (K : En n Φ Tt ρ h (Desk d tv hv wv H :: Γ)) : En n Φ Tt ρ h (blk m (.map es clock) :: box d 150 [tv, hv, .map (some m), wv] :: Γ) :=
  en_to_fmap hall <| en_perm (.swap _ _ _) <| en_fold2 (fun k hk => ⟨m, hk⟩) K
theorem en_to_desk' {m : Nat} (K : En n Φ Tt ρ h (Desk d tv hv wv H :: Γ)) : En n Φ Tt ρ h (fmap m (forceI H) :: box d 150 [tv, hv, .map (some m), wv] :: Γ) :=
  en_perm (.swap _ _ _) <| en_fold2 (fun k hk => ⟨m, hk⟩) K
end
class DeskIn (Γ : List HP) (b : Nat) (tv hv wv : outParam Value) (H : outParam (Nat → HandD)) : Prop where
  pk : ∃ Δ, Γ.Perm (Desk b tv hv wv H :: Δ)
instance (Γ : List HP) (b : Nat) (tv hv wv : Value) (H : Nat → HandD) : DeskIn (Desk b tv hv wv H :: Γ) b tv hv wv H := ⟨Γ, .refl _⟩
instance (priority := low) (q : HP) (Γ : List HP) (b : Nat) (tv hv wv : Value) (H : Nat → HandD) [x : DeskIn Γ b tv hv wv H] : DeskIn (q :: Γ) b tv hv wv H := ⟨by
  obtain ⟨Δ, p⟩ := x.pk; exact ⟨q :: Δ, (p.cons q).trans (.swap _ _ _)⟩⟩
section
variable {n : Nat} {ρ : Env} {h : Heap} {Γ Δ : List HP} {b : Nat} {tv hv wv : Value} {H : Nat → HandD} {T ty : TypeId} {x : Operand} {d : Option Nat} {pos : String} {af : Array Edge} {gd : Option (Nat × Bool)}
theorem desk_cell {Φ : Fr} {w : World} (s : St Φ h (Desk b tv hv wv H :: Γ) w) : ∃ m, w.heap[b]? = some (.cells #[tv, hv, .map (some m), wv] 150 (0, 0)) := by
  obtain ⟨k, ⟨m, k1, k2, hk1, _, _, rfl⟩, sk⟩ := s.pure_of
  simp only [box] at hk1
  subst hk1
  exact ⟨m, (sk.mono (Heap.un_left _ _)) b _ (Heap.one_same b _)⟩
theorem opT_desk_i {v : Value} {i : Nat} [hT : One Try.prog T] [t : DeskIn Γ b tv hv wv H] (hx : ρ.ev x = some (.pointer (some ⟨b, i, none⟩))) (hv' : ∀ m, (#[tv, hv, .map (some m), wv] : Array Value)[i]? = some v) : OpT Try.prog n ⟨d, .load T x, ty, pos, af, gd⟩ ρ h Γ (Det v h Γ) :=
  opT_run (by simp) fun Φ a w e s => ⟨v, w, h, Γ, by
    obtain ⟨Δ, pp⟩ := t.pk
    obtain ⟨m, hm⟩ := desk_cell (s.perm pp)
    have : w.cell? ⟨b, i, none⟩ = some v := by
      have := hv' m
      simp [World.cell?, hm, this]
    simp [execOp, e.ev hx, Instr.loadAt, Instr.sureAddr, run_loadVar_one hT this], .refl _, ⟨rfl, rfl, rfl⟩, s⟩
theorem opT_desk0 [hT : One Try.prog T] [t : DeskIn Γ b tv hv wv H] (hx : ρ.ev x = some (.pointer (some ⟨b, 0, none⟩))) : OpT Try.prog n ⟨d, .load T x, ty, pos, af, gd⟩ ρ h Γ (Det tv h Γ) := opT_desk_i hx fun _ => rfl
theorem opT_desk1 [hT : One Try.prog T] [t : DeskIn Γ b tv hv wv H] (hx : ρ.ev x = some (.pointer (some ⟨b, 1, none⟩))) : OpT Try.prog n ⟨d, .load T x, ty, pos, af, gd⟩ ρ h Γ (Det hv h Γ) := opT_desk_i hx fun _ => rfl
theorem opT_desk3 [hT : One Try.prog T] [t : DeskIn Γ b tv hv wv H] (hx : ρ.ev x = some (.pointer (some ⟨b, 3, none⟩))) : OpT Try.prog n ⟨d, .load T x, ty, pos, af, gd⟩ ρ h Γ (Det wv h Γ) := opT_desk_i hx fun _ => rfl
end
attribute [local irreducible] Code.wpIn wpListIn Exit.then Exit.inBlock BQ Again Hd St En OpT box blk RQ BQ0 fmap own Desk

theorem zero3 (w : World) : (zeroValue 3).run Try.prog w = .ok (.int .i64 0) w := by kernel_rfl
def OpenedR (b : BeltD) (tv hv : Value) (v : Value) (Γ' : List HP) : Prop :=
  (checkD b = 0 ∧ ∃ d, v = .tuple #[.pointer (some ⟨d, 0, none⟩), .int .i64 0] ∧ Γ' = [Desk d tv hv wholeV b.hand]) ∨ (checkD b ≠ 0 ∧ v = .tuple #[.pointer none, .int .i64 (checkD b)] ∧ Γ' = [])
theorem opened_ct (h : Heap) (tv hv : Value) (b : BeltD) (hb : IsBelt h (.agg #[tv, hv]) b) : CT Try.prog 74 [.agg #[tv, hv]] h [] (fun v _ Γ' => OpenedR b tv hv v Γ') := by
  have cA := check_ct h _ b hb
  refine ct_intro Try.func74 rfl rfl rfl rfl fun Φ => ?_
  skip
  by_cases hz : checkD b = 0
  · refine en_seq <| en_region <| en_box rfl rfl rfl fun b1 => en_det (opT_assign rfl) rfl <| en_det (opT_assign rfl) rfl <| en_nil <| en_then <| en_seq <| en_seq <| en_region <| ?_
    first | refine en_det (opT_loadW_own rfl rfl) rfl ?_ | refine en_det (opT_loadA_own rfl) rfl ?_
    refine en_calld (cA) rfl rfl rfl rfl <| en_det (opT_assign rfl) rfl <| en_nil <| en_then <| en_seq <| en_region <| en_det (opT_move rfl) rfl <| en_det (opT_neq_f rfl rfl (by omega)) rfl <| en_nil <| en_then <| en_cond_f rfl <| en_skip <| en_then <| en_seq <| en_region <| ?_
    first | refine en_det (opT_loadW_own rfl rfl) rfl ?_ | refine en_det (opT_loadA_own rfl) rfl ?_
    refine en_op opT_makeMap rfl fun v h' Γ' _ ⟨m, e1, e2, e3⟩ => ?_
    subst e1 e2 e3
    skip
    refine en_det (opT_build (cs := [tv, hv, .map (some m), wholeV]) rfl (by kernel_rfl)) rfl <| en_box rfl rfl rfl fun b13 => en_det (opT_assign rfl) rfl <| en_det (opT_assign rfl) rfl <| en_nil <| en_then <| en_ret <| ?_
    refine en_pick (box b13 150 [tv, hv, .map (some m), wholeV]) ?_
    refine en_pick (blk m (.map #[] 0)) ?_
    refine en_to_desk (H := b.hand) (by intro e he; simp at he) ?_
    refine en_return (rs := [.tmp 2, .tmp 3]) rfl (.cons (.tmp rfl) (.cons (.tmp rfl) .nil)) (.refl _) (Γ1 := [Desk b13 tv hv wholeV b.hand]) (.inl ⟨hz, b13, rfl, rfl⟩)
  · skip
    refine en_seq <| en_region <| en_box rfl rfl rfl fun b1 => en_det (opT_assign rfl) rfl <| en_det (opT_assign rfl) rfl <| en_nil <| en_then <| en_seq <| en_seq <| en_region <| ?_
    first | refine en_det (opT_loadW_own rfl rfl) rfl ?_ | refine en_det (opT_loadA_own rfl) rfl ?_
    refine en_calld (cA) rfl rfl rfl rfl <| en_det (opT_assign rfl) rfl <| en_nil <| en_then <| en_seq <| en_region <| en_det (opT_move rfl) rfl <| en_det (opT_neq_t rfl rfl (by omega)) rfl <| en_nil <| en_then <| en_cond_t rfl <| en_seq <| en_region <| en_det (opT_move rfl) rfl <| en_det (opT_assign rfl) rfl <| en_det (opT_assign rfl) rfl <| en_nil <| en_then <| en_ret <| en_then_ret <| ?_
    refine en_return (rs := [.tmp 2, .tmp 3]) rfl (.cons (.tmp rfl) (.cons (.tmp rfl) .nil)) (.refl _) (Γ1 := []) (.inr ⟨hz, rfl, rfl⟩)

def atD (b : BeltD) (tray : Int) : Int := if checkD b = 0 then (if inD tray 0 (b.nt - 1) = true then 0 else 2) else checkD b
def AtR (b : BeltD) (tray : Int) (tv hv : Value) (v : Value) (Γ' : List HP) : Prop :=
  (checkD b = 0 ∧ inD tray 0 (b.nt - 1) = true ∧ ∃ d, v = .tuple #[.pointer (some ⟨d, 0, none⟩), .int .i64 0] ∧ Γ' = [Desk d tv hv wholeV b.hand]) ∨ (atD b tray ≠ 0 ∧ v = .tuple #[.pointer none, .int .i64 (atD b tray)] ∧ Γ' = [])
theorem at_ct (h : Heap) (tv hv : Value) (b : BeltD) (tray : Int) (hb : IsBelt h (.agg #[tv, hv]) b) : CT Try.prog 100 [.agg #[tv, hv], .int .i64 tray] h [] (fun v _ Γ' => AtR b tray tv hv v Γ') := by
  have cA := opened_ct h tv hv b hb
  obtain ⟨ad, cp, rfl, hm, hc, hp⟩ : ∃ ad cp, tv = .slice ad b.nt cp ∧ b.nt ≤ cp ∧ cp ≤ 9223372036854775807 ∧ True := by
    obtain ⟨tv', hv', e, ht, _⟩ := hb
    simp only [Value.agg.injEq, Array.mk.injEq, List.cons.injEq, and_true] at e
    obtain ⟨rfl, rfl⟩ := e
    obtain ⟨_, ad, cp, e2, h1, h2, _⟩ := ht
    exact ⟨ad, cp, e2, h1, h2, trivial⟩
  refine ct_intro Try.func100 rfl rfl rfl rfl fun Φ => ?_
  refine en_seq <| en_region <| en_box rfl rfl rfl fun b2 => en_det (opT_assign rfl) rfl <| en_det (opT_assign rfl) rfl <| en_nil <| en_then <| en_seq <| en_region <| ?_
  first | refine en_det (opT_loadW_own rfl rfl) rfl ?_ | refine en_det (opT_loadA_own rfl) rfl ?_
  refine en_call cA rfl rfl rfl rfl fun v h1 Γ' hs1 hv => ?_
  skip
  skip
  rcases hv with ⟨hz, d, rfl, rfl⟩ | ⟨hz, rfl, rfl⟩
  · refine en_norm ?_
    cases hi : inD tray 0 (b.nt - 1) with
    | true =>
      have cI := in_ct tray 0 (b.nt - 1) h1
      rw [hi] at cI
      refine en_det (opT_move rfl) rfl <| en_det (opT_extract rfl rfl) rfl <| en_det (opT_extract rfl rfl) rfl <| en_det (opT_assign rfl) rfl <| en_det (opT_assign rfl) rfl <| en_nil <| en_then <| en_seq <| en_block <| en_seq <| en_region <| en_det (opT_move rfl) rfl <| en_det (opT_neq_f rfl rfl (by omega)) rfl <| en_det (opT_assign rfl) rfl <| en_nil <| en_then <| en_cond_f rfl <| en_seq <| en_region <| en_det (opT_move rfl) rfl <| en_det (opT_fieldAddr rfl) rfl <| en_det (opT_load_own rfl rfl) rfl <| en_det (opT_len rfl) rfl <| en_det (opT_sub rfl rfl (by constructor <;> omega)) rfl <| en_calld (cI) rfl rfl rfl rfl <| ?_
      first | refine en_det (opT_not_t rfl) rfl ?_ | refine en_det (opT_not_f rfl) rfl ?_ | refine en_det (opT_not rfl) rfl ?_
      refine en_det (opT_assign rfl) rfl <| en_nil <| en_then <| en_cond_f rfl <| en_skip <| en_blk <| en_then <| en_seq <| en_region <| en_det (opT_move rfl) rfl <| en_det (opT_assign rfl) rfl <| en_det (opT_assign rfl) rfl <| en_nil <| en_then <| en_ret <| ?_
      refine en_return (rs := [.tmp 4, .tmp 5]) rfl (.cons (.tmp rfl) (.cons (.tmp rfl) .nil)) hs1 (Γ1 := [Desk d (.slice ad b.nt cp) hv wholeV b.hand]) (.inl ⟨hz, hi, d, rfl, rfl⟩)
    | false =>
      have cI := in_ct tray 0 (b.nt - 1) h1
      rw [hi] at cI
      refine en_det (opT_move rfl) rfl <| en_det (opT_extract rfl rfl) rfl <| en_det (opT_extract rfl rfl) rfl <| en_det (opT_assign rfl) rfl <| en_det (opT_assign rfl) rfl <| en_nil <| en_then <| en_seq <| en_block <| en_seq <| en_region <| en_det (opT_move rfl) rfl <| en_det (opT_neq_f rfl rfl (by omega)) rfl <| en_det (opT_assign rfl) rfl <| en_nil <| en_then <| en_cond_f rfl <| en_seq <| en_region <| en_det (opT_move rfl) rfl <| en_det (opT_fieldAddr rfl) rfl <| en_det (opT_load_own rfl rfl) rfl <| en_det (opT_len rfl) rfl <| en_det (opT_sub rfl rfl (by constructor <;> omega)) rfl <| en_calld (cI) rfl rfl rfl rfl <| ?_
      first | refine en_det (opT_not_t rfl) rfl ?_ | refine en_det (opT_not_f rfl) rfl ?_ | refine en_det (opT_not rfl) rfl ?_
      refine en_det (opT_assign rfl) rfl <| en_nil <| en_then <| en_cond_t rfl <| en_seq <| en_region <| en_det (opT_assign rfl) rfl <| en_det (opT_assign rfl) rfl <| en_nil <| en_then <| en_ret <| en_blk_ret <| en_then_ret <| ?_
      have e2 : atD b tray = 2 := by simp [atD, hz, hi]
      refine en_return (rs := [.tmp 4, .tmp 5]) rfl (.cons (.tmp rfl) (.cons (.tmp rfl) .nil)) hs1 (Γ1 := []) (.inr ⟨by rw [e2]; decide, by rw [e2]; rfl, rfl⟩)
  · skip
    refine en_norm ?_
    have e2 : atD b tray = checkD b := by simp [atD, hz]
    refine en_det (opT_move rfl) rfl <| en_det (opT_extract rfl rfl) rfl <| en_det (opT_extract rfl rfl) rfl <| en_det (opT_assign rfl) rfl <| en_det (opT_assign rfl) rfl <| en_nil <| en_then <| en_seq <| en_block <| en_seq <| en_region <| en_det (opT_move rfl) rfl <| en_det (opT_neq_t rfl rfl (by omega)) rfl <| en_det (opT_assign rfl) rfl <| en_nil <| en_then <| en_cond_t rfl <| en_seq <| en_region <| en_det (opT_move rfl) rfl <| en_det (opT_assign rfl) rfl <| en_det (opT_assign rfl) rfl <| en_nil <| en_then <| en_ret <| en_blk_ret <| en_then_ret <| ?_
    refine en_return (rs := [.tmp 4, .tmp 5]) rfl (.cons (.tmp rfl) (.cons (.tmp rfl) .nil)) hs1 (Γ1 := []) (.inr ⟨by rw [e2]; exact hz, by rw [e2]; rfl, rfl⟩)
end Go.Sx

/- The force of a hand, by the desk. -/
namespace Go.Sx
open Go.Proofs
set_option maxRecDepth 100000
attribute [local irreducible] Code.wpIn wpListIn Exit.then Exit.inBlock BQ Again Hd St En OpT box blk RQ BQ0 fmap own Desk

theorem force_ct (h : Heap) (d : Nat) (tv hv wv : Value) (H : Nat → HandD) (nh hand tray : Nat) (hH : IsHands h hv nh H) (hh : hand < nh) (hnh : nh ≤ 1000) (ok : OKH (H hand)) (ht : tray < 1000) :
    CT Try.prog 92 [.pointer (some ⟨d, 0, none⟩), .int .i64 hand, .int .i64 tray] h [Desk d tv hv wv H] (DetW (.int .i64 (forceD (H hand) tray)) [Desk d tv hv wv H]) := by
  obtain ⟨rv, ⟨_, ad, cp, rfl, hm, hc, hp⟩, hr⟩ := hH
  obtain ⟨bh, off, rfl, hcells⟩ := hp (by omega)
  have hrow := hcells.row hh
  have hri := hr hand hh
  obtain ⟨rad, rcp, hre, _, _, _⟩ := hri.shape
  rw [hre] at hri hrow
  refine ct_intro Try.func92 rfl rfl rfl rfl fun Φ => ?_
  refine en_desk fun m es clock hall => ?_
  obtain ⟨okk, v, hvI, hl⟩ := lookup_known (P := Try.prog) (T := 147) (K := 161) (E := 3) (r := m) (clock := clock) (es := es) (a := (hand : Int)) (b := (tray : Int)) inferInstance inferInstance zero3 hall
  refine en_seq <| en_region <| en_det (opT_assign rfl) rfl <| en_nil <| en_then <| en_seq <| en_region <| en_det (opT_move rfl) rfl <| en_det (opT_move rfl) rfl <| en_det (opT_build (cs := [.int .i64 hand, .int .i64 tray]) rfl (by kernel_rfl)) rfl <| en_alloc rfl fun b7 => ?_
  first | refine en_det0 (opT_storeW rfl rfl rfl rfl (by simp [Value.oneCell'])) ?_ | refine en_det0 (opT_storeA rfl rfl rfl (by simp [Value.oneCell'])) ?_
  refine en_nil <| en_then <| en_seq <| en_seq <| en_draw0 [0, 1, 2, 3, 4, 5, 6, 7, 8, 9, 10] (by kernel_rfl) (by decide +kernel) (by decide +kernel) (by decide) <| dp_p rfl (fun _ _ => opT_move rfl) rfl rfl rfl <| dp_p rfl (fun _ _ => opT_nilCheck_p rfl) rfl rfl rfl <| dp_p rfl (fun _ _ => opT_fieldAddr rfl) rfl rfl rfl <| ?_
  first | refine dp_q rfl (opT_load_h rfl (by assumption)) rfl rfl rfl ?_ | refine dp_q rfl (opT_load_own rfl rfl) rfl rfl rfl ?_
  first | refine dp_q rfl (opT_loadW_own rfl rfl) rfl rfl rfl ?_ | refine dp_q rfl (opT_loadA_own rfl) rfl rfl rfl ?_
  refine dp_q rfl (opT_lookup hl rfl rfl) rfl rfl rfl <| dp_p rfl (fun _ _ => opT_move rfl) rfl rfl rfl <| dp_p rfl (fun _ _ => opT_extract rfl rfl) rfl rfl rfl <| dp_p rfl (fun _ _ => opT_extract rfl rfl) rfl rfl rfl <| dp_p rfl (fun _ _ => opT_assign rfl) rfl rfl rfl <| dp_p rfl (fun _ _ => opT_assign rfl) rfl rfl rfl <| dp_done0 <| en_then <| en_seq <| en_region <| en_det (opT_move rfl) rfl <| en_nil <| en_then <| ?_
  cases okk with
  | true =>
    have hv := hvI rfl
    simp only [forceI, Int.toNat_natCast] at hv
    skip
    refine en_cond_t rfl <| en_seq <| en_region <| en_det (opT_move rfl) rfl <| en_det (opT_assign rfl) rfl <| en_nil <| en_then <| en_ret <| en_then_ret <| ?_
    refine en_pick (box d 150 [tv, .slice (some ⟨bh, off, none⟩) nh cp, .map (some m), wv]) ?_
    refine en_pick (blk m (.map es clock)) ?_
    refine en_to_desk hall ?_
    refine en_return (rs := [.tmp 6]) rfl (.cons (.tmp rfl) .nil) (.refl _) ⟨by rw [hv]; rfl, rfl⟩
  | false =>
    refine en_cond_f rfl <| en_skip <| en_then <| en_seq <| en_region <| en_det (opT_move rfl) rfl <| en_det (opT_nilCheck_p rfl) rfl <| en_det (opT_fieldAddr rfl) rfl <| en_det (opT_fieldAddr rfl) rfl <| ?_
    first | refine en_det (opT_load_h rfl (by assumption)) rfl ?_ | refine en_det (opT_load_own rfl rfl) rfl ?_
    refine en_det (opT_move rfl) rfl <| ?_
    first | refine en_det (opT_idx1 rfl rfl (by omega) (by omega)) rfl ?_ | refine en_det (opT_idx (ks := 0) rfl rfl (by omega) (by omega)) rfl ?_
    first | refine en_det (opT_loadA_h rfl (by assumption) (by rfl)) rfl ?_ | refine en_det (opT_loadW_own rfl rfl) rfl ?_ | refine en_det (opT_loadA_own rfl) rfl ?_
    refine en_alloc rfl fun b10 => ?_
    refine en_det0 (opT_storeW rfl rfl rfl rfl (one_handL _ _ _ _)) <| en_nil <| en_then <| en_seq <| en_region <| en_det (opT_assign rfl) rfl <| en_det (opT_assign rfl) rfl <| en_nil <| en_then <| en_seq <| en_seq <| en_region <| en_det (opT_move rfl) rfl <| en_det (opT_add_to (c := ((tray + 1 : Nat) : Int)) rfl rfl (by constructor <;> omega) (by omega)) rfl <| en_det (opT_move rfl) rfl <| en_nil <| en_then <| en_block <| ?_
    refine en_loop (fun k => k ≤ tray + 1) (fun k : Nat => [(0, .pointer (some ⟨d, 0, none⟩)), (7, .pointer (some ⟨b7, 0, none⟩)), (10, .pointer (some ⟨b10, 0, none⟩)), (37, .int .i64 ((tray + 1 : Nat) : Int)), (11, .int .i64 (forceN (H hand) k).1), (12, .int .i64 (forceN (H hand) k).2), (38, .int .i64 k)]) (fun _ => h) (fun _ => [box b10 41 (handL (H hand) (.slice rad (H hand).rests.length rcp)), box b7 161 [.int .i64 hand, .int .i64 tray], blk m (.map es clock), box d 150 [tv, .slice (some ⟨bh, off, none⟩) nh cp, .map (some m), wv]]) (fun k => tray + 1 - k) 0 (by omega) ⟨rfl, rfl, rfl, rfl, rfl, rfl, rfl, trivial⟩ (.refl _) inferInstance fun k hk => ?_
    refine en_seq <| en_region <| ?_
    first | refine en_det (opT_lss_t rfl rfl (by omega)) rfl ?_ | refine en_det (opT_lss_f rfl rfl (by omega)) rfl ?_ | refine en_det (opT_lss rfl rfl) rfl ?_
    refine en_nil <| en_then <| en_seq <| ?_
    refine en_if rfl (fun hlt => ?_) (fun hlt => ?_)
    · skip
      have hb := forceN_bound ok k
      obtain ⟨s0, s1, t0, t1⟩ := ok
      have hkl : k < tray + 1 := by omega
      have hmul0 : 0 ≤ (H hand).tire * (forceN (H hand) k).2 := Int.mul_nonneg t0 hb.2.2.1
      have hmul1 : (H hand).tire * (forceN (H hand) k).2 ≤ 10 * 1000 := Int.mul_le_mul t1 (by omega) hb.2.2.1 (by omega)
      have hstep := forceN_succ (H hand) k
      unfold forceS at hstep
      cases hrest : (H hand).rests.contains (k : Int) with
      | true =>
        have cC := contains106_ct h _ (H hand).rests (k : Int) hri
        rw [hrest] at cC hstep
        simp only [if_true] at hstep
        skip
        refine en_skip <| en_then <| en_seq <| en_block <| en_seq <| en_region <| en_det (opT_move rfl) rfl <| en_det (opT_assign rfl) rfl <| en_nil <| en_then <| en_seq <| en_seq <| en_region <| en_det (opT_fieldAddr rfl) rfl <| en_det (opT_load_own rfl rfl) rfl <| en_det (opT_move rfl) rfl <| en_calld (cC) rfl rfl rfl rfl <| en_nil <| en_then <| en_cond_t rfl <| en_seq <| en_region <| en_det (opT_assign rfl) rfl <| en_det (opT_assign rfl) rfl <| en_nil <| en_then <| en_exit <| en_then_exit <| en_blk_hit <| en_then <| en_region <| en_det (opT_add rfl rfl (by constructor <;> omega)) rfl <| en_det (opT_move rfl) rfl <| en_nil <| en_then <| ?_
        exact en_again (k + 1) (by omega) (by omega) ⟨rfl, rfl, rfl, rfl, gi rfl (by rw [hstep]), gi rfl (by rw [hstep]), gi rfl (by omega), trivial⟩ (.refl _) inferInstance
      | false =>
        have cC := contains106_ct h _ (H hand).rests (k : Int) hri
        rw [hrest] at cC hstep
        simp only [Bool.false_eq_true, if_false] at hstep
        refine en_skip <| en_then <| en_seq <| en_block <| en_seq <| en_region <| en_det (opT_move rfl) rfl <| en_det (opT_assign rfl) rfl <| en_nil <| en_then <| en_seq <| en_seq <| en_region <| en_det (opT_fieldAddr rfl) rfl <| en_det (opT_load_own rfl rfl) rfl <| en_det (opT_move rfl) rfl <| en_calld (cC) rfl rfl rfl rfl <| en_nil <| en_then <| en_cond_f rfl <| en_skip <| en_then <| en_seq <| en_region <| en_det (opT_fieldAddr rfl) rfl <| en_det (opT_load_own rfl rfl) rfl <| en_det (opT_fieldAddr rfl) rfl <| en_det (opT_load_own rfl rfl) rfl <| en_det (opT_move rfl) rfl <| en_det (opT_mul rfl rfl (by constructor <;> omega)) rfl <| en_det (opT_sub rfl rfl (by constructor <;> omega)) rfl <| en_det (opT_max2 rfl rfl) rfl <| en_det (opT_assign rfl) rfl <| en_nil <| en_then <| en_region <| en_det (opT_move rfl) rfl <| en_det (opT_add rfl rfl (by constructor <;> omega)) rfl <| en_det (opT_assign rfl) rfl <| en_nil <| en_blk <| en_then <| en_region <| en_det (opT_add rfl rfl (by constructor <;> omega)) rfl <| en_det (opT_move rfl) rfl <| en_nil <| en_then <| ?_
        exact en_again (k + 1) (by omega) (by omega) ⟨rfl, rfl, rfl, rfl, gi rfl (by rw [hstep]), gi rfl (by rw [hstep]), gi rfl (by omega), trivial⟩ (.refl _) inferInstance
    · skip
      obtain rfl : k = tray + 1 := by omega
      refine en_pick (blk m (.map es clock)) ?_
      refine en_to_fmap hall ?_
      refine en_exit <| en_then_exit <| en_then_exit <| en_blk_hit <| en_then <| en_seq <| en_draw0 [0, 1, 2, 3, 4, 5, 6] (by kernel_rfl) (by decide +kernel) (by decide +kernel) (by decide) <| dp_p rfl (fun _ _ => opT_move rfl) rfl rfl rfl <| dp_p rfl (fun _ _ => opT_nilCheck_p rfl) rfl rfl rfl <| dp_p rfl (fun _ _ => opT_fieldAddr rfl) rfl rfl rfl <| ?_
      first | refine dp_q rfl (opT_load_h rfl (by assumption)) rfl rfl rfl ?_ | refine dp_q rfl (opT_load_own rfl rfl) rfl rfl rfl ?_
      first | refine dp_q rfl (opT_loadW_own rfl rfl) rfl rfl rfl ?_ | refine dp_q rfl (opT_loadA_own rfl) rfl rfl rfl ?_
      refine dp_p rfl (fun _ _ => opT_move rfl) rfl rfl rfl <| dp_td0 rfl (opT_mapUpdate (I := forceI H) (a := (hand : Int)) (b := (tray : Int)) rfl rfl rfl (by simp [forceI, forceD])) rfl rfl rfl rfl rfl <| dp_done0 <| en_then <| en_seq <| en_region <| en_det (opT_move rfl) rfl <| en_det (opT_assign rfl) rfl <| en_nil <| en_then <| en_ret <| ?_
      refine en_pick (box d 150 [tv, .slice (some ⟨bh, off, none⟩) nh cp, .map (some m), wv]) ?_
      refine en_pick (fmap m (forceI H)) ?_
      refine en_to_desk' ?_
      refine en_return (rs := [.tmp 6]) rfl (.cons (.tmp rfl) .nil) (.refl _) ⟨rfl, rfl⟩
end Go.Sx

/- Sets of materials. -/
namespace Go.Sx
open Go.Proofs
set_option maxRecDepth 100000
attribute [local irreducible] Code.wpIn wpListIn Exit.then Exit.inBlock BQ Again Hd St En OpT box blk RQ BQ0 fmap own Desk

theorem bit_of' {s m : Nat} (hs : s < 32) (hm : m < 5) : IntKind.i64.wrap (BitVec.ofInt IntKind.i64.bits ((s : Int).fdiv (2 ^ (min (m : Int).toNat IntKind.i64.bits))) &&& BitVec.ofInt IntKind.i64.bits 1).toNat = if s.testBit m then 1 else 0 := bit_of ⟨s, hs⟩ ⟨m, hm⟩
def cntI (s k : Nat) : Nat := ((List.range k).filter fun m => s.testBit m).length
theorem cnt_succ (s k : Nat) : cntI s (k + 1) = cntI s k + if s.testBit k then 1 else 0 := by
  unfold cntI
  rw [List.range_succ, List.filter_append, List.length_append]
  congr 1
  cases h : s.testBit k <;> simp [h]
theorem setL_at (s k : Nat) (hk : k < 5) (hb : s.testBit k = true) : (setL s)[cntI s k]? = some k := by
  unfold setL cntI
  have e : List.range 5 = List.range k ++ (List.range (5 - k)).map (k + ·) := by
    rw [← List.range_add]; congr 1; omega
  rw [e, List.filter_append, List.getElem?_append_right (Nat.le_refl _), Nat.sub_self]
  obtain ⟨j, hj⟩ : ∃ j, 5 - k = j + 1 := ⟨4 - k, by omega⟩
  rw [hj, List.range_succ_eq_map]
  simp [hb]

def setV (s : Nat) : List Value := (setL s).map fun m : Nat => .int .i64 (m : Int)
theorem tkAll (Γ : List HP) : Tk Γ Γ [] := ⟨by simp⟩
theorem iter119 (h : Heap) (b : Nat) (s : Nat) (hs : s < 32) (hb : cellH h b 0 = some (.int .i64 s)) : Iter Try.prog 119 [.pointer (some ⟨b, 0, none⟩)] h (setV s) := by
  intro l J Jx h0 Γ hsub hJ hy
  refine ct_intro Try.func119 rfl rfl rfl rfl fun Φ => ?_
  refine en_seq <| en_region <| en_det (opT_move rfl) rfl <| en_nil <| en_then <| en_block <| ?_
  refine en_loop (fun x : Nat × Heap × List HP => x.1 ≤ 5 ∧ h0.sub x.2.1 ∧ J (cntI s x.1) x.2.1 x.2.2) (fun x => [(0, .func (.yield l) #[] #[]), (1, .pointer (some ⟨b, 0, none⟩)), (4, .int .i64 x.1)]) (fun x => x.2.1) (fun x => x.2.2) (fun x => 5 - x.1) (0, h0, Γ) ⟨by simp, .refl _, hJ⟩ ⟨rfl, rfl, rfl, trivial⟩ (.refl _) (tkAll _) fun x hx => ?_
  obtain ⟨k, h1, Γ1⟩ := x
  obtain ⟨hk, hs1, hJ1⟩ := hx
  simp only at hk hs1 hJ1
  change En _ _ _ [(0, .func (.yield l) #[] #[]), (1, .pointer (some ⟨b, 0, none⟩)), (4, .int .i64 k)] h1 Γ1
  have hcell : cellH h1 b 0 = some (.int .i64 s) := cellH_sub (hsub.trans hs1) hb
  refine en_seq <| en_region <| ?_
  first | refine en_det (opT_lss_t rfl rfl (by omega)) rfl ?_ | refine en_det (opT_lss_f rfl rfl (by omega)) rfl ?_ | refine en_det (opT_lss rfl rfl) rfl ?_
  refine en_nil <| en_then <| en_seq <| ?_
  refine en_if rfl (fun hlt => ?_) (fun hlt => ?_)
  · skip
    have hk5 : k < 5 := by omega
    have hbit := bit_of' hs hk5
    have hcnt := cnt_succ s k
    cases htb : s.testBit k with
    | true =>
      rw [htb] at hbit hcnt
      simp only [if_true] at hbit hcnt
      have hel : (setV s)[cntI s k]? = some (.int .i64 k) := by simp [setV, setL_at s k hk5 htb]
      refine en_skip <| en_then <| en_seq <| en_block <| en_seq <| en_region <| en_det (opT_move rfl) rfl <| en_det (opT_assign rfl) rfl <| en_nil <| en_then <| en_seq <| en_region <| ?_
      first | refine en_det (opT_load_h rfl (by assumption)) rfl ?_ | refine en_det (opT_load_own rfl rfl) rfl ?_
      refine en_det (opT_move rfl) rfl <| en_det (opT_shr rfl rfl (by omega)) rfl <| en_det ((hbit ▸ opT_and rfl rfl)) rfl <| en_det (opT_eql_t rfl rfl (by omega)) rfl <| en_det (opT_move rfl) rfl <| en_g_yes rfl rfl <| en_det (opT_move rfl) rfl <| en_g_yes rfl rfl <| en_det (opT_move rfl) rfl <| en_g_yes rfl rfl <| ?_
      refine en_op (opT_yield (hy _ _ _ _ hel hs1 hJ1) rfl rfl (t := tkAll _)) rfl fun v h2 Γ2 hs2 hR => ?_
      obtain ⟨Γ3, hR, e3⟩ := hR
      rw [List.append_nil] at e3
      subst e3
      rcases hR with ⟨rfl, hJ2⟩ | ⟨rfl, hX2⟩
      · skip
        refine en_g_yes rfl rfl <| ?_
        first | refine en_det (opT_not_t rfl) rfl ?_ | refine en_det (opT_not_f rfl) rfl ?_ | refine en_det (opT_not rfl) rfl ?_
        first | refine en_det (opT_pick_t rfl rfl) rfl ?_ | refine en_det (opT_pick_f rfl rfl) rfl ?_
        refine en_nil <| en_then <| en_cond_f rfl <| en_skip <| en_blk <| en_then <| en_region <| en_det (opT_add rfl rfl (by constructor <;> omega)) rfl <| en_det (opT_move rfl) rfl <| en_nil <| en_then <| ?_
        exact en_again (k + 1, h2, Γ2) ⟨by simp only; omega, hs1.trans hs2, by rw [hcnt]; exact hJ2⟩ (by simp only; omega) ⟨rfl, rfl, gi rfl (by simp), trivial⟩ (.refl _) (tkAll _)
      · skip
        refine en_g_yes rfl rfl <| ?_
        first | refine en_det (opT_not_t rfl) rfl ?_ | refine en_det (opT_not_f rfl) rfl ?_ | refine en_det (opT_not rfl) rfl ?_
        first | refine en_det (opT_pick_t rfl rfl) rfl ?_ | refine en_det (opT_pick_f rfl rfl) rfl ?_
        refine en_nil <| en_then <| en_cond_t rfl <| en_ret <| en_blk_ret <| en_then_ret <| en_then_ret <| en_blk_ret <| ?_
        refine en_return (rs := []) rfl .nil (hs1.trans hs2) (t := tkAll _) ⟨rfl, .inr hX2⟩
    | false =>
      rw [htb] at hbit hcnt
      simp only [Bool.false_eq_true, if_false, Nat.add_zero] at hbit hcnt
      refine en_skip <| en_then <| en_seq <| en_block <| en_seq <| en_region <| en_det (opT_move rfl) rfl <| en_det (opT_assign rfl) rfl <| en_nil <| en_then <| en_seq <| en_region <| ?_
      first | refine en_det (opT_load_h rfl (by assumption)) rfl ?_ | refine en_det (opT_load_own rfl rfl) rfl ?_
      refine en_det (opT_move rfl) rfl <| en_det (opT_shr rfl rfl (by omega)) rfl <| en_det ((hbit ▸ opT_and rfl rfl)) rfl <| en_det (opT_eql_f rfl rfl (by omega)) rfl <| en_det (opT_move rfl) rfl <| en_g_no rfl rfl rfl <| en_g_no rfl rfl rfl <| en_g_no rfl rfl rfl <| en_g_no rfl rfl rfl <| ?_
      first | refine en_det (opT_pick_t rfl rfl) rfl ?_ | refine en_det (opT_pick_f rfl rfl) rfl ?_
      refine en_nil <| en_then <| en_cond_f rfl <| en_skip <| en_blk <| en_then <| en_region <| en_det (opT_add rfl rfl (by constructor <;> omega)) rfl <| en_det (opT_move rfl) rfl <| en_nil <| en_then <| ?_
      exact en_again (k + 1, h1, Γ1) ⟨by simp only; omega, hs1, by rw [hcnt]; exact hJ1⟩ (by simp only; omega) ⟨rfl, rfl, gi rfl (by simp), trivial⟩ (.refl _) (tkAll _)
  · skip
    obtain rfl : k = 5 := by omega
    refine en_exit <| en_then_exit <| en_then_exit <| en_blk_hit <| en_return_n <| ?_
    refine en_return (rs := []) rfl .nil hs1 (t := tkAll _) ⟨rfl, .inl (by simpa [setV, setL, cntI] using hJ1)⟩
end Go.Sx

/- The hands of a belt, lists of sets, sets of lists, forces behind a set. -/
namespace Go.Sx
open Go.Proofs
set_option maxRecDepth 100000
attribute [local irreducible] Code.wpIn wpListIn Exit.then Exit.inBlock BQ Again Hd St En OpT box blk RQ BQ0 fmap own Desk

def upto (n : Nat) : List Int := (List.range n).map fun i : Nat => (i : Int)
theorem upto_length (n : Nat) : (upto n).length = n := by simp [upto]
theorem upto_succ (n : Nat) : upto (n + 1) = upto n ++ [(n : Int)] := by simp [upto, List.range_succ]
theorem hands_ct (h : Heap) (d : Nat) (tv hv wv : Value) (H : Nat → HandD) (nh : Nat) (hH : IsHands h hv nh H) (hn : nh ≤ 1000) :
    CT Try.prog 70 [.pointer (some ⟨d, 0, none⟩)] h [Desk d tv hv wv H] (fun v h' Γ' => IsInts h' v (upto nh) ∧ Γ' = [Desk d tv hv wv H]) := by
  obtain ⟨rv, ⟨_, ad, cp, rfl, hm, hc, hp⟩, hr⟩ := hH
  refine ct_intro Try.func70 rfl rfl rfl rfl fun Φ => ?_
  refine en_seq <| en_region <| en_det (opT_assign rfl) rfl <| en_nil <| en_then <| en_seq <| en_region <| en_det (opT_assign rfl) rfl <| en_nil <| en_then <| en_seq <| en_seq <| en_region <| en_det (opT_move rfl) rfl <| en_det (opT_nilCheck_p rfl) rfl <| en_det (opT_fieldAddr rfl) rfl <| en_det (opT_fieldAddr rfl) rfl <| ?_
  first | refine en_det (opT_desk0 rfl) rfl ?_ | refine en_det (opT_desk1 rfl) rfl ?_ | refine en_det (opT_load_h rfl (by assumption)) rfl ?_ | refine en_det (opT_load_own rfl rfl) rfl ?_
  refine en_det (opT_len rfl) rfl <| en_det (opT_move rfl) rfl <| en_nil <| en_then <| en_block <| ?_
  refine en_own_nil 3 1 ?_
  refine en_loop (fun x : Nat × Value => x.1 ≤ nh) (fun x => [(0, .pointer (some ⟨d, 0, none⟩)), (3, x.2), (10, .int .i64 nh), (11, .int .i64 x.1)]) (fun _ => h) (fun x => [own 3 1 x.2 x.1 ((upto x.1).map (Value.int .i64)), Desk d tv (.slice ad nh cp) wv H]) (fun x => nh - x.1) (0, .slice none 0 0) (by simp) ⟨rfl, rfl, rfl, rfl, trivial⟩ (.refl _) (tkAll _) fun x hk => ?_
  obtain ⟨k, v⟩ := x
  change En _ _ _ [(0, .pointer (some ⟨d, 0, none⟩)), (3, v), (10, .int .i64 nh), (11, .int .i64 k)] h [own 3 1 v k ((upto k).map (Value.int .i64)), Desk d tv (.slice ad nh cp) wv H]
  simp only at hk
  refine en_seq <| en_region <| ?_
  first | refine en_det (opT_lss_t rfl rfl (by omega)) rfl ?_ | refine en_det (opT_lss_f rfl rfl (by omega)) rfl ?_ | refine en_det (opT_lss rfl rfl) rfl ?_
  refine en_nil <| en_then <| en_seq <| ?_
  refine en_if rfl (fun hlt => ?_) (fun hlt => ?_)
  · skip
    refine en_skip <| en_then <| en_seq <| en_block <| en_seq <| en_region <| en_det (opT_move rfl) rfl <| en_det (opT_assign rfl) rfl <| en_nil <| en_then <| en_region <| en_det (opT_move rfl) rfl <| en_det (opT_move rfl) rfl <| ?_
    refine en_op (opT_buildSlice (cs := [.int .i64 k]) rfl rfl (by kernel_rfl)) rfl fun _ _ _ _ ⟨b16, e1, e2, e3⟩ => ?_
    subst e1 e3; replace e2 := e2.symm; subst e2
    refine en_app1 rfl rfl rfl rfl rfl rfl rfl (by omega) fun ad17 cp17 hm17 hc17 => ?_
    refine en_det (opT_assign rfl) rfl <| en_nil <| en_blk <| en_then <| en_region <| en_det (opT_add rfl rfl (by constructor <;> omega)) rfl <| en_det (opT_move rfl) rfl <| en_nil <| en_then <| ?_
    exact en_again (k + 1, .slice ad17 (k + 1) cp17) (by simp only; omega) (by simp only; omega) ⟨rfl, rfl, rfl, gi rfl (by simp), trivial⟩ (.refl _) (by
      simp only [upto_succ, List.map_append, List.map_cons, List.map_nil]; exact inferInstance)
  · skip
    obtain rfl : k = nh := by omega
    refine en_exit <| en_then_exit <| en_then_exit <| en_blk_hit <| en_then <| en_seq <| en_region <| en_det (opT_move rfl) rfl <| en_det (opT_assign rfl) rfl <| en_nil <| en_then <| en_ret <| ?_
    refine en_freeze_own fun h1 hs1 hsl _ => ?_
    refine en_return (rs := [.tmp 2]) rfl (.cons (.tmp rfl) .nil) hs1 ⟨by simpa [IsInts, upto_length, resVal] using hsl, rfl⟩

theorem materials_ct (h : Heap) (s : Nat) (hs : s < 32) : CT Try.prog 97 [.int .i64 s] h [] (fun v h' Γ' => ∃ b, v = .func (.func 119) #[] #[.pointer (some ⟨b, 0, none⟩)] ∧ Iter Try.prog 119 [.pointer (some ⟨b, 0, none⟩)] h' (setV s) ∧ Γ' = []) := by
  refine ct_intro Try.func97 rfl rfl rfl rfl fun Φ => ?_
  refine en_seq <| en_region <| en_box rfl rfl rfl fun b1 => en_det (opT_assign rfl) rfl <| en_nil <| en_then <| en_seq <| en_region <| en_det (opT_makeFunc rfl rfl) rfl <| en_det (opT_assign rfl) rfl <| en_nil <| en_then <| en_ret <| ?_
  refine en_fzb fun h1 hs1 hb1 => ?_
  refine en_return (rs := [.tmp 2]) rfl (.cons (.tmp rfl) .nil) hs1 (Γ1 := []) ⟨b1, rfl, iter119 h1 b1 s hs (cellH_box hb1 rfl), rfl⟩

def setI (s : Nat) : List Int := (setL s).map fun m : Nat => (m : Int)
theorem setV_eq (s : Nat) : setV s = (setI s).map (Value.int .i64) := by simp [setV, setI]
theorem take_succ_of {α : Type} {l : List α} {i : Nat} {v : α} (h : l[i]? = some v) : l.take (i + 1) = l.take i ++ [v] := by
  rw [List.take_add_one, h]; rfl
theorem list_ct (h : Heap) (s : Nat) (hs : s < 32) : CT Try.prog 94 [.int .i64 s] h [] (fun v h' Γ' => IsInts h' v (setI s) ∧ Γ' = []) := by
  refine ct_intro Try.func94 rfl rfl rfl rfl fun Φ => ?_
  refine en_seq <| en_region <| en_det (opT_assign rfl) rfl <| en_nil <| en_then <| en_seq <| en_region <| en_alloc rfl fun b3 => ?_
  refine en_nil <| en_then <| en_seq <| en_seq <| en_region <| en_det (opT_move rfl) rfl <| ?_
  refine en_call (materials_ct h s hs) rfl rfl rfl rfl fun v h1 Γ1 hs1 hR => ?_
  obtain ⟨b, rfl, hit, rfl⟩ := hR
  refine en_norm ?_
  refine en_own_nil 86 1 ?_
  refine en_nil <| en_then <| en_block <| ?_
  refine en_range (fun i _ Γ' => ∃ v, Γ' = [own 86 1 v i ((setV s).take i), box b3 80 [v]]) (fun _ _ _ => False) rfl rfl hit ⟨_, rfl⟩ (fun l r Ψ i v h' Γ' hi hs hJ => ?_) (fun h' Γ' hs hJ => ?_) (fun c h' Γ' hs hX => ?_)
  · skip
    obtain ⟨v0, rfl⟩ := hJ
    have hi' : i < (setV s).length := (List.getElem?_eq_some_iff.1 hi).1
    have hlen : (setV s).length ≤ 5 := by simp only [setV, setL, List.length_map]; exact Nat.le_trans (List.length_filter_le _ _) (by simp)
    obtain ⟨m, rfl⟩ : ∃ m : Int, v = .int .i64 m := by
      rw [setV_eq, List.getElem?_map] at hi
      cases hm : (setI s)[i]? with
      | none => rw [hm] at hi; cases hi
      | some m => rw [hm] at hi; simp only [Option.map_some, Option.some.injEq] at hi; exact ⟨m, hi.symm⟩
    refine en_region <| en_det (opT_assign rfl) rfl <| en_nil <| en_begin <| en_block <| en_region <| en_det (opT_load_own rfl rfl) rfl <| en_det (opT_move rfl) rfl <| ?_
    refine en_op (opT_buildSlice (cs := [.int .i64 m]) rfl rfl (by kernel_rfl)) rfl fun _ _ _ _ ⟨b10, e1, e2, e3⟩ => ?_
    subst e1 e3; replace e2 := e2.symm; subst e2
    refine en_app1 rfl rfl rfl rfl rfl rfl rfl (by omega) fun ad11 cp11 hm11 hc11 => ?_
    refine en_det0 (opT_store1 rfl rfl rfl) <| en_nil <| en_blk <| ?_
    rw [← take_succ_of hi]
    refine en_keep [own 86 1 (.slice ad11 (i + 1) cp11) (i + 1) ((setV s).take (i + 1)), box b3 80 [.slice ad11 (i + 1) cp11]] ?_
    exact en_rq_n (.refl _) ⟨_, rfl⟩
  · skip
    obtain ⟨v, rfl⟩ := hJ
    refine en_blk <| en_then <| en_seq <| en_region <| en_det (opT_load_own rfl rfl) rfl <| en_det (opT_assign rfl) rfl <| en_nil <| en_then <| en_ret <| ?_
    rw [List.take_length, setV_eq]
    refine en_freeze_own fun h2 hs2 hsl _ => ?_
    refine en_return (rs := [.tmp 2]) rfl (.cons (.tmp rfl) .nil) (hs1.trans (hs.trans hs2)) ⟨by simpa [IsInts, resVal, setV_eq] using hsl, rfl⟩
  · exact hX.elim

/-! Forces behind a set. -/
theorem anyTake_yes {H : HandD} {s i : Nat} {m : Nat} (hi : (setL s)[i]? = some m) (ht : H.takes m = true) : anyTake H s = true := by
  simp only [anyTake, List.any_eq_true]; exact ⟨m, List.mem_of_getElem? hi, ht⟩
theorem anyTake_no {H : HandD} {s : Nat} (hn : ∀ i m, i < (setL s).length → (setL s)[i]? = some m → H.takes m = false) : anyTake H s = false := by
  simp only [anyTake, List.any_eq_false, Bool.not_eq_true]
  intro m hm
  obtain ⟨i, hi, e⟩ := List.getElem_of_mem hm
  exact hn i m hi (by simp [hi, e])
theorem setV_get {s i : Nat} {v : Value} (h : (setV s)[i]? = some v) : ∃ m : Nat, v = .int .i64 m ∧ (setL s)[i]? = some m ∧ m < 5 := by
  rw [setV, List.getElem?_map] at h
  cases hm : (setL s)[i]? with
  | none => rw [hm] at h; cases h
  | some m =>
    rw [hm] at h; simp only [Option.map_some, Option.some.injEq] at h
    have := List.mem_of_getElem? hm
    simp only [setL, List.mem_filter, List.mem_range] at this
    exact ⟨m, h.symm, rfl, this.1⟩
theorem forceD_bound {H : HandD} (o : OKH H) (t : Nat) : 0 ≤ forceD H t ∧ forceD H t ≤ 40 := ⟨(forceN_bound o (t + 1)).1, (forceN_bound o (t + 1)).2.1⟩

theorem behind_ct (h : Heap) (d : Nat) (tv hv wv : Value) (H : Nat → HandD) (nh tray s : Nat) (hH : IsHands h hv nh H) (hnh : nh ≤ 1000) (ok : ∀ i, i < nh → OKH (H i)) (ht : tray < 1000) (hs : s < 32) :
    CT Try.prog 96 [.pointer (some ⟨d, 0, none⟩), .int .i64 tray, .int .i64 s] h [Desk d tv hv wv H] (fun v h' Γ' => v = .int .i64 (behindD H nh tray s) ∧ Γ' = [Desk d tv hv wv H]) := by
  have hH0 := hH
  obtain ⟨rv, ⟨_, ad, cp, rfl, hm, hc, hp⟩, hr⟩ := hH
  have hfb : ∀ k, k ≤ nh → 0 ≤ behindD H k tray s ∧ behindD H k tray s ≤ 40 * k := fun k hk => sumN_bound fun i hi => by
    have := forceD_bound (ok i (by omega)) tray
    split <;> omega
  refine ct_intro Try.func96 rfl rfl rfl rfl fun Φ => ?_
  refine en_seq <| en_region <| en_box rfl rfl rfl fun b3 => en_box rfl rfl rfl fun b4 => en_det (opT_assign rfl) rfl <| en_nil <| en_then <| en_seq <| en_region <| en_alloc rfl fun b7 => ?_
  refine en_det0 (opT_store1 rfl rfl rfl) <| en_nil <| en_then <| en_seq <| en_seq <| en_region <| en_det (opT_load_own rfl rfl) rfl <| en_det (opT_nilCheck_p rfl) rfl <| en_det (opT_fieldAddr rfl) rfl <| en_det (opT_fieldAddr rfl) rfl <| ?_
  first | refine en_det (opT_desk0 rfl) rfl ?_ | refine en_det (opT_desk1 rfl) rfl ?_ | refine en_det (opT_load_h rfl (by assumption)) rfl ?_ | refine en_det (opT_load_own rfl rfl) rfl ?_
  refine en_det (opT_len rfl) rfl <| en_det (opT_move rfl) rfl <| en_nil <| en_then <| en_block <| ?_
  refine en_loop (fun x : Nat × Heap => x.1 ≤ nh ∧ h.sub x.2) (fun x => [(2, .int .i64 s), (3, .pointer (some ⟨b3, 0, none⟩)), (4, .pointer (some ⟨b4, 0, none⟩)), (7, .pointer (some ⟨b7, 0, none⟩)), (15, .int .i64 nh), (16, .int .i64 x.1)]) (fun x => x.2) (fun x => [box b7 3 [.int .i64 (behindD H x.1 tray s)], box b4 3 [.int .i64 tray], box b3 116 [.pointer (some ⟨d, 0, none⟩)], Desk d tv (.slice ad nh cp) wv H]) (fun x => nh - x.1) (0, h) ⟨by simp, .refl _⟩ ⟨rfl, rfl, rfl, rfl, rfl, rfl, trivial⟩ (.refl _) (tkAll _) fun x hx => ?_
  obtain ⟨k, h1⟩ := x
  obtain ⟨hk, hs1⟩ := hx
  simp only at hk hs1
  change En _ _ _ [(2, .int .i64 s), (3, .pointer (some ⟨b3, 0, none⟩)), (4, .pointer (some ⟨b4, 0, none⟩)), (7, .pointer (some ⟨b7, 0, none⟩)), (15, .int .i64 nh), (16, .int .i64 k)] h1 [box b7 3 [.int .i64 (behindD H k tray s)], box b4 3 [.int .i64 tray], box b3 116 [.pointer (some ⟨d, 0, none⟩)], Desk d tv (.slice ad nh cp) wv H]
  refine en_seq <| en_region <| ?_
  first | refine en_det (opT_lss_t rfl rfl (by omega)) rfl ?_ | refine en_det (opT_lss_f rfl rfl (by omega)) rfl ?_ | refine en_det (opT_lss rfl rfl) rfl ?_
  refine en_nil <| en_then <| en_seq <| ?_
  refine en_if rfl (fun hlt => ?_) (fun hlt => ?_)
  · skip
    have hkl : k < nh := by omega
    obtain ⟨bh, off, rfl, hcells⟩ := hp (by omega)
    refine en_skip <| en_then <| en_seq <| en_block <| en_seq <| en_region <| en_det (opT_move rfl) rfl <| en_alloc rfl fun b8 => ?_
    refine en_det0 (opT_store1 rfl rfl rfl) <| en_nil <| en_then <| en_seq <| en_region <| en_det (opT_move rfl) rfl <| ?_
    refine en_call (materials_ct h1 s hs) rfl rfl rfl rfl fun v h2 Γ2 hs2 hR => ?_
    obtain ⟨b, rfl, hit, rfl⟩ := hR
    refine en_norm ?_
    refine en_nil <| en_then <| en_block <| ?_
    refine en_range (fun i _ Γ' => Γ' = [box b8 3 [.int .i64 k], box b7 3 [.int .i64 (behindD H k tray s)], box b4 3 [.int .i64 tray], box b3 116 [.pointer (some ⟨d, 0, none⟩)], Desk d tv (.slice (some ⟨bh, off, none⟩) nh cp) wv H] ∧ ∀ j m, j < i → (setL s)[j]? = some m → (H k).takes m = false) (fun c _ Γ' => c = .exit 2 ∧ anyTake (H k) s = true ∧ Γ' = [box b7 3 [.int .i64 (behindD H k tray s + forceD (H k) tray)], box b4 3 [.int .i64 tray], box b3 116 [.pointer (some ⟨d, 0, none⟩)], Desk d tv (.slice (some ⟨bh, off, none⟩) nh cp) wv H]) rfl rfl hit ⟨rfl, fun j m hj => by omega⟩ (fun l r Ψ i v h' Γ' hi hs hJ => ?_) (fun h' Γ' hs hJ => ?_) (fun c h' Γ' hs hX => ?_)
    · skip
      obtain ⟨rfl, hno⟩ := hJ
      obtain ⟨m, rfl, hm', hm5⟩ := setV_get hi
      have hce := cellH_sub (hs1.trans (hs2.trans hs)) (hcells.cell hkl (by omega : m < 9))
      have hcv : hcell (H k) (rv k) m = .bool ((H k).takes m) := by simp [hcell, hm5]
      rw [hcv] at hce
      cases htk : (H k).takes m with
      | true =>
        rw [htk] at hce
        have hf := forceD_bound (ok k hkl) tray
        have hb := hfb k (by omega)
        skip
        refine en_region <| en_det (opT_assign rfl) rfl <| en_nil <| en_begin <| en_block <| en_seq <| en_draw0 [0, 1, 2, 3, 4, 5, 6, 7, 8, 9, 10] (by kernel_rfl) (by decide +kernel) (by decide +kernel) (by decide) <| dp_q rfl (opT_load_own rfl rfl) rfl rfl rfl <| dp_p rfl (fun _ _ => opT_nilCheck_p rfl) rfl rfl rfl <| dp_p rfl (fun _ _ => opT_fieldAddr rfl) rfl rfl rfl <| dp_p rfl (fun _ _ => opT_fieldAddr rfl) rfl rfl rfl <| ?_
        first | refine dp_q rfl (opT_desk0 rfl) rfl rfl rfl ?_ | refine dp_q rfl (opT_desk1 rfl) rfl rfl rfl ?_ | refine dp_q rfl (opT_load_h rfl (by assumption)) rfl rfl rfl ?_ | refine dp_q rfl (opT_load_own rfl rfl) rfl rfl rfl ?_
        refine dp_q rfl (opT_load_own rfl rfl) rfl rfl rfl <| dp_p rfl (fun _ _ => opT_move rfl) rfl rfl rfl <| ?_
        first | refine dp_p rfl (fun _ _ => opT_idx1 rfl rfl (by omega) (by omega)) rfl rfl rfl ?_ | refine dp_p rfl (fun _ _ => opT_idx (ks := 0) rfl rfl (by omega) (by omega)) rfl rfl rfl ?_
        refine dp_p rfl (fun _ _ => opT_fieldAddr rfl) rfl rfl rfl <| dp_p rfl (fun _ _ => opT_idxArr rfl rfl (by omega) (by omega)) rfl rfl rfl <| ?_
        first | refine dp_q rfl (opT_desk0 rfl) rfl rfl rfl ?_ | refine dp_q rfl (opT_desk1 rfl) rfl rfl rfl ?_ | refine dp_q rfl (opT_load_h rfl (by assumption)) rfl rfl rfl ?_ | refine dp_q rfl (opT_load_own rfl rfl) rfl rfl rfl ?_
        refine dp_done0 <| en_then <| en_cond_t rfl <| en_seq <| en_draw0 [0, 1, 2, 3, 4, 5, 6] (by kernel_rfl) (by decide +kernel) (by decide +kernel) (by decide) <| dp_q rfl (opT_load_own rfl rfl) rfl rfl rfl <| dp_q rfl (opT_load_own rfl rfl) rfl rfl rfl <| dp_q rfl (opT_load_own rfl rfl) rfl rfl rfl <| dp_q rfl (opT_load_own rfl rfl) rfl rfl rfl <| dp_ed0 rfl (opT_callw (force_ct h' d tv _ wv H nh k tray (hH0.mono (hs1.trans (hs2.trans hs))) hkl hnh (ok k hkl) ht) rfl rfl rfl) rfl rfl rfl rfl <| dp_p rfl (fun _ _ => opT_add rfl rfl (by constructor <;> omega)) rfl rfl rfl <| dp_td0 rfl (opT_store1 rfl rfl rfl) rfl rfl rfl rfl rfl <| dp_done0 <| en_then <| en_exit <| en_blk_miss rfl <| ?_
        refine en_keep [box b7 3 [.int .i64 (behindD H k tray s + forceD (H k) tray)], box b4 3 [.int .i64 tray], box b3 116 [.pointer (some ⟨d, 0, none⟩)], Desk d tv (.slice (some ⟨bh, off, none⟩) nh cp) wv H] ?_
        exact en_rq_exit (.refl _) ⟨rfl, anyTake_yes hm' htk, rfl⟩
      | false =>
        rw [htk] at hce
        refine en_region <| en_det (opT_assign rfl) rfl <| en_nil <| en_begin <| en_block <| en_seq <| en_draw0 [0, 1, 2, 3, 4, 5, 6, 7, 8, 9, 10] (by kernel_rfl) (by decide +kernel) (by decide +kernel) (by decide) <| dp_q rfl (opT_load_own rfl rfl) rfl rfl rfl <| dp_p rfl (fun _ _ => opT_nilCheck_p rfl) rfl rfl rfl <| dp_p rfl (fun _ _ => opT_fieldAddr rfl) rfl rfl rfl <| dp_p rfl (fun _ _ => opT_fieldAddr rfl) rfl rfl rfl <| ?_
        first | refine dp_q rfl (opT_desk0 rfl) rfl rfl rfl ?_ | refine dp_q rfl (opT_desk1 rfl) rfl rfl rfl ?_ | refine dp_q rfl (opT_load_h rfl (by assumption)) rfl rfl rfl ?_ | refine dp_q rfl (opT_load_own rfl rfl) rfl rfl rfl ?_
        refine dp_q rfl (opT_load_own rfl rfl) rfl rfl rfl <| dp_p rfl (fun _ _ => opT_move rfl) rfl rfl rfl <| ?_
        first | refine dp_p rfl (fun _ _ => opT_idx1 rfl rfl (by omega) (by omega)) rfl rfl rfl ?_ | refine dp_p rfl (fun _ _ => opT_idx (ks := 0) rfl rfl (by omega) (by omega)) rfl rfl rfl ?_
        refine dp_p rfl (fun _ _ => opT_fieldAddr rfl) rfl rfl rfl <| dp_p rfl (fun _ _ => opT_idxArr rfl rfl (by omega) (by omega)) rfl rfl rfl <| ?_
        first | refine dp_q rfl (opT_desk0 rfl) rfl rfl rfl ?_ | refine dp_q rfl (opT_desk1 rfl) rfl rfl rfl ?_ | refine dp_q rfl (opT_load_h rfl (by assumption)) rfl rfl rfl ?_ | refine dp_q rfl (opT_load_own rfl rfl) rfl rfl rfl ?_
        refine dp_done0 <| en_then <| en_cond_f rfl <| en_skip <| en_blk <| ?_
        exact en_rq_n (.refl _) ⟨rfl, fun j m' hj hj' => by
          rcases Nat.lt_succ_iff_lt_or_eq.1 hj with h3 | rfl
          · exact hno j m' h3 hj'
          · rw [hm'] at hj'; cases hj'; exact htk⟩
    · skip
      obtain ⟨rfl, hno⟩ := hJ
      have ha : anyTake (H k) s = false := anyTake_no fun j m' hj hj' => hno j m' (by simpa [setV] using hj) hj'
      have hb : behindD H (k + 1) tray s = behindD H k tray s := by simp [behindD, sumN, ha]
      refine en_blk <| en_blk <| en_then <| en_region <| en_det (opT_add rfl rfl (by constructor <;> omega)) rfl <| en_det (opT_move rfl) rfl <| en_nil <| en_then <| ?_
      rw [← hb]
      exact en_again (k + 1, h') ⟨by simp only; omega, hs1.trans (hs2.trans hs)⟩ (by simp only; omega) ⟨rfl, rfl, rfl, rfl, rfl, gi rfl (by simp), trivial⟩ (.refl _) inferInstance
    · skip
      obtain ⟨rfl, ha, rfl⟩ := hX
      have hb : behindD H (k + 1) tray s = behindD H k tray s + forceD (H k) tray := by simp [behindD, sumN, ha]
      refine en_exit <| en_blk_hit <| en_blk <| en_then <| en_region <| en_det (opT_add rfl rfl (by constructor <;> omega)) rfl <| en_det (opT_move rfl) rfl <| en_nil <| en_then <| ?_
      rw [← hb]
      exact en_again (k + 1, h') ⟨by simp only; omega, hs1.trans (hs2.trans hs)⟩ (by simp only; omega) ⟨rfl, rfl, rfl, rfl, rfl, gi rfl (by simp), trivial⟩ (.refl _) (tkAll _)
  · skip
    obtain rfl : k = nh := by omega
    refine en_exit <| en_then_exit <| en_then_exit <| en_blk_hit <| en_then <| en_seq <| en_region <| en_det (opT_load_own rfl rfl) rfl <| en_det (opT_assign rfl) rfl <| en_nil <| en_then <| en_ret <| ?_
    refine en_return (rs := [.tmp 6]) rfl (.cons (.tmp rfl) .nil) hs1 ⟨rfl, rfl⟩
end Go.Sx

/- Sets out of lists; what is to be left. -/
namespace Go.Sx
open Go.Proofs
set_option maxRecDepth 100000
attribute [local irreducible] Code.wpIn wpListIn Exit.then Exit.inBlock BQ Again Hd St En OpT box blk RQ BQ0 fmap own Desk

theorem chosen1_ct (h : Heap) (x : Int) : CT Try.prog 117 [.int .i64 x] h [] (DetW (.bool (inD x 0 4)) []) := by
  refine ct_intro Try.func117 rfl rfl rfl rfl fun Φ => ?_
  refine en_seq <| en_region <| en_det (opT_assign rfl) rfl <| en_nil <| en_then <| en_seq <| en_region <| en_det (opT_move rfl) rfl <| en_calld (in_ct x 0 4 h) rfl rfl rfl rfl <| en_det (opT_assign rfl) rfl <| en_nil <| en_then <| en_ret <| ?_
  refine en_return (rs := [.tmp 2]) rfl (.cons (.tmp rfl) .nil) (.refl _) ⟨rfl, rfl⟩
theorem chosen_ct (h : Heap) (v : Value) (l : List Int) (hv : IsInts h v l) : CT Try.prog 95 [v] h [] (DetW (.tuple #[.int .i64 (if chosenE l = 0 then (bitsOf l : Int) else 0), .int .i64 (chosenE l)]) []) := by
  have hv0 := hv
  obtain ⟨ad, cp, rfl, hl, hc, hp⟩ := hv.shape
  have hel : 0 < l.length → ∃ b off, ad = some ⟨b, off, none⟩ ∧ ∀ i, i < l.length → cellH h b (off + i) = some (.int .i64 (l.getD i 0)) := fun h0 => by
    obtain ⟨b', off, e, hh⟩ := hp h0
    exact ⟨b', off, e, fun i hi => by rw [getD_lt hi]; exact hh i hi⟩
  have cA := all116_ct h ad l.length cp (by omega) (fun i => l.getD i 0) hel 117 #[] #[] (fun i => inD (l.getD i 0) 0 4) (fun i _ => chosen1_ct h _)
  have cB := rises118_ct h _ l hv0
  unfold chosenE
  refine ct_intro Try.func95 rfl rfl rfl rfl fun Φ => ?_
  cases hA : (allI l.length fun i => inD (l.getD i 0) 0 4) with
  | false =>
    rw [hA] at cA
    skip
    refine en_seq <| en_region <| en_det (opT_assign rfl) rfl <| en_det (opT_assign rfl) rfl <| en_nil <| en_then <| en_seq <| en_seq <| en_region <| en_det (opT_move rfl) rfl <| en_calld (cA) rfl rfl rfl rfl <| ?_
    first | refine en_det (opT_not_t rfl) rfl ?_ | refine en_det (opT_not_f rfl) rfl ?_ | refine en_det (opT_not rfl) rfl ?_
    refine en_nil <| en_then <| en_cond_t rfl <| en_seq <| en_region <| en_det (opT_assign rfl) rfl <| en_det (opT_assign rfl) rfl <| en_nil <| en_then <| en_ret <| en_then_ret <| ?_
    refine en_return (rs := [.tmp 2, .tmp 3]) rfl (.cons (.tmp rfl) (.cons (.tmp rfl) .nil)) (.refl _) ⟨rfl, rfl⟩
  | true =>
    rw [hA] at cA
    cases hB : risesD l with
    | false =>
      rw [hB] at cB
      refine en_seq <| en_region <| en_det (opT_assign rfl) rfl <| en_det (opT_assign rfl) rfl <| en_nil <| en_then <| en_seq <| en_seq <| en_region <| en_det (opT_move rfl) rfl <| en_calld (cA) rfl rfl rfl rfl <| ?_
      first | refine en_det (opT_not_t rfl) rfl ?_ | refine en_det (opT_not_f rfl) rfl ?_ | refine en_det (opT_not rfl) rfl ?_
      refine en_nil <| en_then <| en_cond_f rfl <| en_skip <| en_then <| en_seq <| en_seq <| en_region <| en_det (opT_move rfl) rfl <| en_calld (cB) rfl rfl rfl rfl <| ?_
      first | refine en_det (opT_not_t rfl) rfl ?_ | refine en_det (opT_not_f rfl) rfl ?_ | refine en_det (opT_not rfl) rfl ?_
      refine en_nil <| en_then <| en_cond_t rfl <| en_seq <| en_region <| en_det (opT_assign rfl) rfl <| en_det (opT_assign rfl) rfl <| en_nil <| en_then <| en_ret <| en_then_ret <| ?_
      refine en_return (rs := [.tmp 2, .tmp 3]) rfl (.cons (.tmp rfl) (.cons (.tmp rfl) .nil)) (.refl _) ⟨rfl, rfl⟩
    | true =>
      rw [hB] at cB
      have hin : ∀ k (hk : k < l.length), ∃ m : Nat, m < 5 ∧ l[k] = (m : Int) := fun k hk => by
        have := allI_iff.1 hA k hk
        simp only [inD, decide_eq_true_eq, getD_lt hk] at this
        exact ⟨(l[k]).toNat, by omega, by omega⟩
      refine en_seq <| en_region <| en_det (opT_assign rfl) rfl <| en_det (opT_assign rfl) rfl <| en_nil <| en_then <| en_seq <| en_seq <| en_region <| en_det (opT_move rfl) rfl <| en_calld (cA) rfl rfl rfl rfl <| ?_
      first | refine en_det (opT_not_t rfl) rfl ?_ | refine en_det (opT_not_f rfl) rfl ?_ | refine en_det (opT_not rfl) rfl ?_
      refine en_nil <| en_then <| en_cond_f rfl <| en_skip <| en_then <| en_seq <| en_seq <| en_region <| en_det (opT_move rfl) rfl <| en_calld (cB) rfl rfl rfl rfl <| ?_
      first | refine en_det (opT_not_t rfl) rfl ?_ | refine en_det (opT_not_f rfl) rfl ?_ | refine en_det (opT_not rfl) rfl ?_
      refine en_nil <| en_then <| en_cond_f rfl <| en_skip <| en_then <| en_seq <| en_region <| en_det (opT_assign rfl) rfl <| en_nil <| en_then <| en_seq <| en_seq <| en_region <| en_det (opT_move rfl) rfl <| en_det (opT_len rfl) rfl <| en_det (opT_move rfl) rfl <| en_nil <| en_then <| en_block <| ?_
      refine en_loop (fun k => k ≤ l.length ∧ bitsOf (l.take k) < 32) (fun k : Nat => [(4, .int .i64 (bitsOf (l.take k))), (13, .slice ad l.length cp), (14, .int .i64 l.length), (15, .int .i64 k)]) (fun _ => h) (fun _ => []) (fun k => l.length - k) 0 ⟨by omega, by simp [bitsOf]⟩ ⟨rfl, rfl, rfl, rfl, trivial⟩ (.refl _) inferInstance fun k ⟨hk, hb⟩ => ?_
      refine en_seq <| en_region <| ?_
      first | refine en_det (opT_lss_t rfl rfl (by omega)) rfl ?_ | refine en_det (opT_lss_f rfl rfl (by omega)) rfl ?_ | refine en_det (opT_lss rfl rfl) rfl ?_
      refine en_nil <| en_then <| en_seq <| ?_
      refine en_if rfl (fun hlt => ?_) (fun hlt => ?_)
      · skip
        have hkl : k < l.length := by omega
        obtain ⟨b, off, rfl, hcc⟩ := hp (by omega)
        have hck := hcc k hkl
        obtain ⟨m, hm, e⟩ := hin k hkl
        rw [e] at hck
        have h1 := bit_or ⟨bitsOf (l.take k), hb⟩ ⟨m, hm⟩
        have h2 : bitsOf (l.take (k + 1)) = bitsOf (l.take k) ||| (1 <<< m) := by
          rw [List.take_succ_eq_append_getElem hkl, bitsOf_append, e, Int.toNat_natCast]
        rw [← h2] at h1
        refine en_skip <| en_then <| en_seq <| en_block <| en_seq <| en_region <| ?_
        first | refine en_det (opT_idx1 rfl rfl (by omega) (by omega)) rfl ?_ | refine en_det (opT_idx (ks := 0) rfl rfl (by omega) (by omega)) rfl ?_
        first | refine en_det (opT_desk0 rfl) rfl ?_ | refine en_det (opT_desk1 rfl) rfl ?_ | refine en_det (opT_load_h rfl (by assumption)) rfl ?_ | refine en_det (opT_load_own rfl rfl) rfl ?_
        refine en_det (opT_assign rfl) rfl <| en_nil <| en_then <| en_region <| en_det (opT_move rfl) rfl <| en_det (opT_move rfl) rfl <| en_det (opT_shl rfl rfl (by omega)) rfl <| en_det ((h1.1 ▸ opT_or rfl rfl)) rfl <| en_det (opT_assign rfl) rfl <| en_nil <| en_blk <| en_then <| en_region <| en_det (opT_add rfl rfl (by constructor <;> omega)) rfl <| en_det (opT_move rfl) rfl <| en_nil <| en_then <| ?_
        exact en_again (k + 1) ⟨by omega, h1.2⟩ (by omega) ⟨rfl, rfl, rfl, gi rfl (by omega), trivial⟩ (.refl _) inferInstance
      · skip
        obtain rfl : k = l.length := by omega
        refine en_exit <| en_then_exit <| en_then_exit <| en_blk_hit <| en_then <| en_seq <| en_region <| en_det (opT_move rfl) rfl <| en_det (opT_assign rfl) rfl <| en_det (opT_assign rfl) rfl <| en_nil <| en_then <| en_ret <| ?_
        refine en_return (rs := [.tmp 2, .tmp 3]) rfl (.cons (.tmp rfl) (.cons (.tmp rfl) .nil)) (.refl _) ⟨by simp [resVal], rfl⟩

theorem kept1_ct (h : Heap) (t left : Nat → Int) (m b : Nat) (hm : m < 5) (hb : CellsH h b 0 (trayL left)) (ht : ∀ j, j < 5 → 0 ≤ t j ∧ t j ≤ 1000) (hl : ∀ j, j < 5 → 0 ≤ left j ∧ left j ≤ 1000) :
    CT Try.prog 103 [.agg (trayL t).toArray, .int .i64 m, .pointer (some ⟨b, 0, none⟩)] h [] (DetW (.int .i64 (keptD left t m)) []) := by
  refine ct_intro Try.func103 rfl rfl rfl rfl fun Φ => ?_
  have hg : (trayL t)[m]? = some (.int .i64 (t m)) := row_get hm
  have hk := hb m _ (row_get hm)
  rw [Nat.zero_add] at hk
  have h1 := ht m hm
  have h2 := hl m hm
  refine en_seq <| en_region <| en_box rfl rfl rfl fun b3 => en_det (opT_assign rfl) rfl <| en_nil <| en_then <| en_seq <| en_draw0 [0, 1, 2, 3, 4, 5, 6, 7, 8] (by kernel_rfl) (by decide +kernel) (by decide +kernel) (by decide) <| dp_p rfl (fun _ _ => opT_move rfl) rfl rfl rfl <| dp_p rfl (fun _ _ => opT_idxArr rfl rfl (by omega) (by omega)) rfl rfl rfl <| dp_q rfl (opT_load_own rfl (by rw [hg])) rfl rfl rfl <| dp_p rfl (fun _ _ => opT_move rfl) rfl rfl rfl <| dp_p rfl (fun _ _ => opT_idxArr rfl rfl (by omega) (by omega)) rfl rfl rfl <| ?_
  first | refine dp_q rfl (opT_desk0 rfl) rfl rfl rfl ?_ | refine dp_q rfl (opT_desk1 rfl) rfl rfl rfl ?_ | refine dp_q rfl (opT_load_h rfl (by assumption)) rfl rfl rfl ?_ | refine dp_q rfl (opT_load_own rfl rfl) rfl rfl rfl ?_
  refine dp_p rfl (fun _ _ => opT_sub rfl rfl (by constructor <;> omega)) rfl rfl rfl <| dp_p rfl (fun _ _ => opT_max2 rfl rfl) rfl rfl rfl <| dp_p rfl (fun _ _ => opT_assign rfl) rfl rfl rfl <| dp_done0 <| en_then <| en_ret <| ?_
  refine en_return (rs := [.tmp 5]) rfl (.cons (.tmp rfl) .nil) (.refl _) ⟨rfl, rfl⟩

/-- What is asked of a tray. -/
def Want (h : Heap) (wv : Value) (want : (Nat → Int) → Nat → Int) : Prop := ∃ f capt, wv = .func (.func f) #[] capt ∧
  ∀ h', h.sub h' → ∀ t m, m < 5 → (∀ j, j < 5 → 0 ≤ t j ∧ t j ≤ 60) → CT Try.prog f ([.agg (trayL t).toArray, .int .i64 (m : Int)] ++ capt.toList) h' [] (DetW (.int .i64 (want t m)) [])
theorem Want.mono {h k : Heap} (s : h.sub k) {wv : Value} {want : (Nat → Int) → Nat → Int} (x : Want h wv want) : Want k wv want := by
  obtain ⟨f, c, e, hh⟩ := x
  exact ⟨f, c, e, fun h' hs => hh h' (s.trans hs)⟩
theorem whole_want (h : Heap) : Want h wholeV wholeD := ⟨108, #[], rfl, fun h' _ t m hm _ => whole_ct h' t m hm⟩

def KeptR (b : BeltD) (left : Nat → Int) (tv hv : Value) (v : Value) (h' : Heap) (Γ' : List HP) : Prop :=
  (keptE b left = 0 ∧ ∃ d wv, v = .tuple #[.pointer (some ⟨d, 0, none⟩), .int .i64 0] ∧ Want h' wv (keptD left) ∧ Γ' = [Desk d tv hv wv b.hand]) ∨ (keptE b left ≠ 0 ∧ v = .tuple #[.pointer none, .int .i64 (keptE b left)] ∧ Γ' = [])
theorem kept_ct (h : Heap) (tv hv : Value) (b : BeltD) (left : Nat → Int) (hb : IsBelt h (.agg #[tv, hv]) b) : CT Try.prog 68 [.agg #[tv, hv], .agg (trayL left).toArray] h [] (KeptR b left tv hv) := by
  have cA := opened_ct h tv hv b hb
  refine ct_intro Try.func68 rfl rfl rfl rfl fun Φ => ?_
  refine en_seq <| en_region <| en_box rfl rfl rfl fun b2 => en_box rfl rfl rfl fun b3 => en_det (opT_assign rfl) rfl <| en_det (opT_assign rfl) rfl <| en_nil <| en_then <| en_seq <| en_region <| ?_
  first | refine en_det (opT_loadW_own rfl rfl) rfl ?_ | refine en_det (opT_loadA_own rfl) rfl ?_
  refine en_call cA rfl rfl rfl rfl fun v h1 Γ' hs1 hv => ?_
  skip
  rcases hv with ⟨hz, d, rfl, rfl⟩ | ⟨hz, rfl, rfl⟩
  · refine en_norm ?_
    have cP := pieces_ct h1 left
    cases hp : piecesD left with
    | true =>
      rw [hp] at cP
      refine en_desk fun m es clock hall => ?_
      refine en_det (opT_move rfl) rfl <| en_det (opT_extract rfl rfl) rfl <| en_det (opT_extract rfl rfl) rfl <| en_det (opT_assign rfl) rfl <| en_det (opT_assign rfl) rfl <| en_nil <| en_then <| en_seq <| en_block <| en_seq <| en_region <| en_det (opT_move rfl) rfl <| en_det (opT_neq_f rfl rfl (by omega)) rfl <| en_det (opT_assign rfl) rfl <| en_nil <| en_then <| en_cond_f rfl <| en_seq <| en_region <| ?_
      first | refine en_det (opT_loadW_own rfl rfl) rfl ?_ | refine en_det (opT_loadA_own rfl) rfl ?_
      refine en_calld (cP) rfl rfl rfl rfl <| ?_
      first | refine en_det (opT_not_t rfl) rfl ?_ | refine en_det (opT_not_f rfl) rfl ?_ | refine en_det (opT_not rfl) rfl ?_
      refine en_det (opT_assign rfl) rfl <| en_nil <| en_then <| en_cond_f rfl <| en_skip <| en_blk <| en_then <| en_seq <| en_region <| en_det (opT_move rfl) rfl <| en_det (opT_makeFunc rfl rfl) rfl <| en_det (opT_nilCheck_p rfl) rfl <| en_det (opT_fieldAddr rfl) rfl <| en_det0 (opT_store1 rfl rfl rfl) <| en_nil <| en_then <| en_seq <| en_region <| en_det (opT_move rfl) rfl <| en_det (opT_assign rfl) rfl <| en_det (opT_assign rfl) rfl <| en_nil <| en_then <| en_ret <| ?_
      refine en_pick (box b3 31 (trayL left)) ?_
      refine en_fzb fun h2 hs2 hb2 => ?_
      refine en_pick (box d 150 [tv, hv, .map (some m), .func (.func 103) #[] #[.pointer (some ⟨b3, 0, none⟩)]]) ?_
      refine en_pick (blk m (.map es clock)) ?_
      refine en_to_desk hall ?_
      have hpc := piecesD_iff.1 hp
      refine en_return (rs := [.tmp 4, .tmp 5]) rfl (.cons (.tmp rfl) (.cons (.tmp rfl) .nil)) (hs1.trans hs2) (Γ1 := [Desk d tv hv (.func (.func 103) #[] #[.pointer (some ⟨b3, 0, none⟩)]) b.hand]) (.inl ⟨by simp [keptE, hz, hp], d, _, rfl, ⟨103, _, rfl, fun h' hs t m hm ht => kept1_ct h' t left m b3 hm ((cellsH_box hb2).mono hs) (fun j hj => by have := ht j hj; omega) (fun j hj => by have := hpc j hj; omega)⟩, rfl⟩)
    | false =>
      rw [hp] at cP
      have e2 : keptE b left = 4 := by simp [keptE, hz, hp]
      refine en_det (opT_move rfl) rfl <| en_det (opT_extract rfl rfl) rfl <| en_det (opT_extract rfl rfl) rfl <| en_det (opT_assign rfl) rfl <| en_det (opT_assign rfl) rfl <| en_nil <| en_then <| en_seq <| en_block <| en_seq <| en_region <| en_det (opT_move rfl) rfl <| en_det (opT_neq_f rfl rfl (by omega)) rfl <| en_det (opT_assign rfl) rfl <| en_nil <| en_then <| en_cond_f rfl <| en_seq <| en_region <| ?_
      first | refine en_det (opT_loadW_own rfl rfl) rfl ?_ | refine en_det (opT_loadA_own rfl) rfl ?_
      refine en_calld (cP) rfl rfl rfl rfl <| ?_
      first | refine en_det (opT_not_t rfl) rfl ?_ | refine en_det (opT_not_f rfl) rfl ?_ | refine en_det (opT_not rfl) rfl ?_
      refine en_det (opT_assign rfl) rfl <| en_nil <| en_then <| en_cond_t rfl <| en_seq <| en_region <| en_det (opT_assign rfl) rfl <| en_det (opT_assign rfl) rfl <| en_nil <| en_then <| en_ret <| en_blk_ret <| en_then_ret <| ?_
      refine en_return (rs := [.tmp 4, .tmp 5]) rfl (.cons (.tmp rfl) (.cons (.tmp rfl) .nil)) hs1 (Γ1 := []) (.inr ⟨by rw [e2]; decide, by rw [e2]; rfl, rfl⟩)
  · refine en_norm ?_
    have e2 : keptE b left = checkD b := by simp [keptE, hz]
    refine en_det (opT_move rfl) rfl <| en_det (opT_extract rfl rfl) rfl <| en_det (opT_extract rfl rfl) rfl <| en_det (opT_assign rfl) rfl <| en_det (opT_assign rfl) rfl <| en_nil <| en_then <| en_seq <| en_block <| en_seq <| en_region <| en_det (opT_move rfl) rfl <| en_det (opT_neq_t rfl rfl (by omega)) rfl <| en_det (opT_assign rfl) rfl <| en_nil <| en_then <| en_cond_t rfl <| en_seq <| en_region <| en_det (opT_move rfl) rfl <| en_det (opT_assign rfl) rfl <| en_det (opT_assign rfl) rfl <| en_nil <| en_then <| en_ret <| en_blk_ret <| en_then_ret <| ?_
    refine en_return (rs := [.tmp 4, .tmp 5]) rfl (.cons (.tmp rfl) (.cons (.tmp rfl) .nil)) hs1 (Γ1 := []) (.inr ⟨by rw [e2]; exact hz, by rw [e2]; rfl, rfl⟩)
end Go.Sx

/- How a hand gives up a piece for another one: chains of hands, in plain words. -/
namespace Go.Sx

structure GS where
  out : Nat → Nat → Int
  seen : Nat → Bool

def upd2 (f : Nat → Nat → Int) (i j : Nat) (v : Int) : Nat → Nat → Int := fun a b => if a = i ∧ b = j then v else f a b
def upd1 (f : Nat → Bool) (i : Nat) (v : Bool) : Nat → Bool := fun a => if a = i then v else f a
def sum5 (f : Nat → Int) : Int := sumN 5 f
theorem sum5_eq (f : Nat → Int) : sum5 f = f 0 + f 1 + f 2 + f 3 + f 4 := by simp [sum5, sumN]

/-- A piece of o is given back, one of m taken. -/
def swap (out : Nat → Nat → Int) (h o m : Nat) : Nat → Nat → Int :=
  let a := upd2 out h o (out h o - 1)
  upd2 a h m (a h m + 1)

def giveO (rec : Nat → GS → Bool × GS) (m h : Nat) : List Nat → GS → Bool × GS
  | [], S => (false, S)
  | o :: os, S =>
    if o ≠ m ∧ 0 < S.out h o then
      if (rec o S).1 = true then (true, ⟨swap (rec o S).2.out h o m, (rec o S).2.seen⟩) else giveO rec m h os (rec o S).2
    else giveO rec m h os S

def giveH (takes : Nat → Nat → Bool) (force : Nat → Int) (rec : Nat → GS → Bool × GS) (m : Nat) : List Nat → GS → Bool × GS
  | [], S => (false, S)
  | h :: hs, S =>
    if (!takes h m || S.seen h) = true then giveH takes force rec m hs S
    else if sum5 (S.out h) < force h then (true, ⟨upd2 S.out h m (S.out h m + 1), upd1 S.seen h true⟩)
    else if (giveO rec m h (List.range 5) ⟨S.out, upd1 S.seen h true⟩).1 = true then giveO rec m h (List.range 5) ⟨S.out, upd1 S.seen h true⟩
    else giveH takes force rec m hs (giveO rec m h (List.range 5) ⟨S.out, upd1 S.seen h true⟩).2

def giveD (takes : Nat → Nat → Bool) (force : Nat → Int) (hands : List Nat) : Nat → Nat → GS → Bool × GS
  | 0, _, S => (false, S)
  | k + 1, m, S => giveH takes force (giveD takes force hands k) m hands S

def unseen (s : Nat → Bool) : Nat := ((List.range 5).filter fun i => !s i).length
theorem unseen_mono {s s' : Nat → Bool} (h : ∀ i, s i = true → s' i = true) : unseen s' ≤ unseen s := by
  unfold unseen
  rw [← List.countP_eq_length_filter, ← List.countP_eq_length_filter]
  refine List.countP_mono_left fun i _ hi => ?_
  cases hs : s i with
  | false => rfl
  | true => rw [h i hs] at hi; cases hi
theorem unseen_set {s : Nat → Bool} {h : Nat} (hh : h < 5) (hs : s h = false) : unseen (upd1 s h true) + 1 = unseen s := by
  have e : ∀ i : Nat, (!upd1 s h true i) = ((!s i) && decide (i ≠ h)) := fun i => by
    unfold upd1; by_cases hi : i = h <;> simp [hi]
  unfold unseen
  simp only [e]
  have r5 : List.range 5 = [0, 1, 2, 3, 4] := rfl
  rw [r5]
  have : h = 0 ∨ h = 1 ∨ h = 2 ∨ h = 3 ∨ h = 4 := by omega
  rcases this with rfl | rfl | rfl | rfl | rfl <;> simp [List.filter_cons, hs] <;> (repeat' split) <;> simp_all

section
variable (nh : Nat) (takes : Nat → Nat → Bool) (force : Nat → Int) (hands : List Nat)

/-- No hand has less than nothing, more than its force, or what it does not take. -/
structure OutOK (out : Nat → Nat → Int) : Prop where
  pos : ∀ h o, h < nh → o < 5 → 0 ≤ out h o
  le : ∀ h, h < nh → sum5 (out h) ≤ force h
  tk : ∀ h o, h < nh → o < 5 → 0 < out h o → takes h o = true
/-- Materials that hold up: the hands that take some of them have spent their force, on them alone. -/
def Cert (C : Nat → Prop) (out : Nat → Nat → Int) : Prop :=
  ∀ h, h ∈ hands → (∃ m, m < 5 ∧ C m ∧ takes h m = true) → force h ≤ sum5 (out h) ∧ ∀ o, o < 5 → 0 < out h o → C o
def tot (out : Nat → Nat → Int) (m : Nat) : Int := sumN nh fun h => out h m

structure GOut (k : Nat) (m : Nat) (S : GS) (r : Bool) (S' : GS) : Prop where
  mono : ∀ h, S.seen h = true → S'.seen h = true
  rows : ∀ h, S.seen h = true → S'.out h = S.out h
  fail : r = false → S'.out = S.out
  ok : OutOK nh takes force S'.out
  tot : r = true → ∀ o, tot nh S'.out o = tot nh S.out o + if o = m then 1 else 0
  cert : ∀ C, Cert takes force hands C S.out → r = true → ¬ C m ∧ ∀ h, h ∈ hands → (∃ o, o < 5 ∧ C o ∧ takes h o = true) → S'.out h = S.out h
  closed : unseen S.seen < k → r = false → (∀ h, h ∈ hands → takes h m = true → S'.seen h = true) ∧
    ∀ h, h ∈ hands → S'.seen h = true → S.seen h = false → force h ≤ sum5 (S.out h) ∧ ∀ o, o < 5 → 0 < S.out h o → ∀ h', h' ∈ hands → takes h' o = true → S'.seen h' = true
end

theorem sumN_upd {n : Nat} {f g : Nat → Int} {i : Nat} {d : Int} (hi : i < n) (h1 : ∀ j, j < n → j ≠ i → g j = f j) (h2 : g i = f i + d) : sumN n g = sumN n f + d := by
  induction n with
  | zero => omega
  | succ n ih =>
    simp only [sumN]
    by_cases e : i = n
    · subst e
      rw [h2, sumN_congr fun j hj => h1 j (by omega) (by omega)]; omega
    · rw [ih (by omega) fun j hj => h1 j (by omega), h1 n (by omega) (fun x => e x.symm)]; omega
theorem upd2_row_ne {f : Nat → Nat → Int} {i j a : Nat} {v : Int} (h : a ≠ i) : upd2 f i j v a = f a := by funext b; simp [upd2, h]
theorem upd2_same {f : Nat → Nat → Int} {i j : Nat} {v : Int} : upd2 f i j v i j = v := by simp [upd2]
theorem upd2_ne {f : Nat → Nat → Int} {i j a b : Nat} {v : Int} (h : ¬ (a = i ∧ b = j)) : upd2 f i j v a b = f a b := by simp [upd2, h]
theorem swap_row_ne {f : Nat → Nat → Int} {h o m a : Nat} (hn : a ≠ h) : swap f h o m a = f a := by unfold swap; rw [upd2_row_ne hn, upd2_row_ne hn]
theorem swap_at {f : Nat → Nat → Int} {h o m b : Nat} (hom : o ≠ m) : swap f h o m h b = f h b + (if b = m then 1 else 0) - (if b = o then 1 else 0) := by
  unfold swap upd2; simp only
  by_cases e1 : b = m
  · subst e1
    simp [Ne.symm hom]
  · by_cases e2 : b = o
    · subst e2; simp [e1]
    · simp [e1, e2]
theorem tot_upd2 {nh h m o : Nat} {out : Nat → Nat → Int} {d : Int} (hh : h < nh) : tot nh (upd2 out h m (out h m + d)) o = tot nh out o + if o = m then d else 0 := by
  unfold tot
  refine sumN_upd (i := h) hh (fun j _ hj => by rw [upd2_row_ne hj]) ?_
  by_cases e : o = m
  · subst e; simp [upd2]
  · simp [upd2, e]
theorem tot_swap {nh h m o b : Nat} {out : Nat → Nat → Int} (hh : h < nh) (hom : o ≠ m) : tot nh (swap out h o m) b = tot nh out b + (if b = m then 1 else 0) - (if b = o then 1 else 0) := by
  unfold tot
  have := sumN_upd (n := nh) (f := fun j => out j b) (g := fun j => swap out h o m j b) (i := h) (d := (if b = m then 1 else 0) - (if b = o then 1 else 0)) hh (fun j _ hj => by show swap out h o m j b = out j b; rw [swap_row_ne hj]) (by show swap out h o m h b = _; rw [swap_at hom]; omega)
  rw [this]; omega
theorem sum5_swap {out : Nat → Nat → Int} {h o m : Nat} (ho : o < 5) (hm : m < 5) (hom : o ≠ m) : sum5 (swap out h o m h) = sum5 (out h) := by
  have e1 : ∀ (f : Nat → Int) (x : Nat), x < 5 → sum5 (fun b => f b + if b = x then 1 else 0) = sum5 f + 1 := fun f x hx => by
    unfold sum5
    exact sumN_upd hx (fun j _ hj => by simp [hj]) (by simp)
  have e2 : ∀ (f : Nat → Int) (x : Nat), x < 5 → sum5 (fun b => f b - if b = x then 1 else 0) = sum5 f + (-1) := fun f x hx => by
    unfold sum5
    exact sumN_upd hx (fun j _ hj => by simp [hj]) (by simp; omega)
  have : swap out h o m h = fun b => (out h b + if b = m then 1 else 0) - if b = o then 1 else 0 := by funext b; exact swap_at hom
  rw [this, e2 _ o ho, e1 _ m hm]; omega

section
variable {nh : Nat} {takes : Nat → Nat → Bool} {force : Nat → Int} {hands : List Nat}

theorem OutOK.swap {out : Nat → Nat → Int} (ok : OutOK nh takes force out) {h o m : Nat} (hh : h < nh) (ho : o < 5) (hm : m < 5) (hom : o ≠ m) (hp : 0 < out h o) (ht : takes h m = true) : OutOK nh takes force (swap out h o m) := by
  refine ⟨fun a b ha hb => ?_, fun a ha => ?_, fun a b ha hb hpos => ?_⟩
  · by_cases e : a = h
    · subst e
      rw [swap_at hom]
      have := ok.pos a b ha hb
      by_cases e1 : b = o
      · subst e1; simp [hom]; omega
      · simp only [e1, if_false]; split <;> omega
    · rw [swap_row_ne e]; exact ok.pos a b ha hb
  · by_cases e : a = h
    · subst e; rw [sum5_swap ho hm hom]; exact ok.le a ha
    · rw [swap_row_ne e]; exact ok.le a ha
  · by_cases e : a = h
    · subst e
      by_cases e2 : b = m
      · subst e2; exact ht
      · rw [swap_at hom] at hpos
        simp only [e2, if_false] at hpos
        refine ok.tk a b ha hb ?_
        split at hpos <;> omega
    · rw [swap_row_ne e] at hpos; exact ok.tk a b ha hb hpos
theorem sum5_inc {f : Nat → Nat → Int} {h m : Nat} (hm : m < 5) : sum5 (upd2 f h m (f h m + 1) h) = sum5 (f h) + 1 := by
  unfold sum5
  exact sumN_upd hm (fun j _ hj => by simp [upd2, hj]) (by simp [upd2])
theorem OutOK.inc {out : Nat → Nat → Int} (ok : OutOK nh takes force out) {h m : Nat} (hh : h < nh) (hm : m < 5) (hl : sum5 (out h) < force h) (ht : takes h m = true) : OutOK nh takes force (upd2 out h m (out h m + 1)) := by
  refine ⟨fun a b ha hb => ?_, fun a ha => ?_, fun a b ha hb hpos => ?_⟩
  · have := ok.pos a b ha hb
    unfold upd2; split
    · rename_i e; obtain ⟨rfl, rfl⟩ := e; omega
    · exact this
  · by_cases e : a = h
    · subst e; rw [sum5_inc hm]; omega
    · rw [upd2_row_ne e]; exact ok.le a ha
  · by_cases e : a = h ∧ b = m
    · obtain ⟨rfl, rfl⟩ := e; exact ht
    · rw [upd2_ne e] at hpos; exact ok.tk a b ha hb hpos

/-- What the search among what one hand has comes to. -/
structure GOO (nh : Nat) (takes : Nat → Nat → Bool) (force : Nat → Int) (hands : List Nat) (k m h : Nat) (os : List Nat) (S : GS) (r : Bool) (S' : GS) : Prop where
  mono : ∀ h', S.seen h' = true → S'.seen h' = true
  rows : ∀ h', h' ≠ h → S.seen h' = true → S'.out h' = S.out h'
  fail : r = false → S'.out = S.out
  ok : OutOK nh takes force S'.out
  tot : r = true → ∀ o, tot nh S'.out o = tot nh S.out o + if o = m then 1 else 0
  cert : ∀ C, Cert takes force hands C S.out → r = true → ¬ C m ∧ ∀ h', h' ∈ hands → (∃ o, o < 5 ∧ C o ∧ takes h' o = true) → S'.out h' = S.out h'
  closed : unseen S.seen < k → r = false → (∀ o, o ∈ os → o ≠ m → 0 < S.out h o → ∀ h', h' ∈ hands → takes h' o = true → S'.seen h' = true) ∧
    ∀ h', h' ∈ hands → S'.seen h' = true → S.seen h' = false → force h' ≤ sum5 (S.out h') ∧ ∀ o, o < 5 → 0 < S.out h' o → ∀ h'', h'' ∈ hands → takes h'' o = true → S'.seen h'' = true

theorem giveO_ok {rec : Nat → GS → Bool × GS} {k m h : Nat} (hm : m < 5) (hh : h < nh) (hin : h ∈ hands) (ht : takes h m = true)
    (hrec : ∀ o S, o < 5 → OutOK nh takes force S.out → GOut nh takes force hands k o S (rec o S).1 (rec o S).2) :
    ∀ (os : List Nat) (S : GS), (∀ o ∈ os, o < 5) → S.seen h = true → OutOK nh takes force S.out → GOO nh takes force hands k m h os S (giveO rec m h os S).1 (giveO rec m h os S).2
  | [], S, _, _, ok => by
    refine ⟨fun _ x => x, fun _ _ _ => rfl, fun _ => rfl, ok, fun e => (by cases e), fun _ _ e => (by cases e), fun _ _ => ⟨fun o ho => (by cases ho), fun h' _ h1 h2 => ?_⟩⟩
    simp only [giveO] at h1
    rw [h2] at h1; cases h1
  | o :: os, S, hos, hs, ok => by
    have ho : o < 5 := hos o (by simp)
    by_cases hc : o ≠ m ∧ 0 < S.out h o
    · have hr := hrec o S ho ok
      cases hb : (rec o S).1 with
      | true =>
        have hgo : giveO rec m h (o :: os) S = (true, ⟨swap (rec o S).2.out h o m, (rec o S).2.seen⟩) := by simp only [giveO, if_pos hc, hb, if_true]
        rw [hgo]
        rw [hb] at hr
        have hrow := hr.rows h hs
        have hpos : 0 < (rec o S).2.out h o := by rw [hrow]; exact hc.2
        refine ⟨hr.mono, fun h' hne hse => ?_, fun e => (by cases e), hr.ok.swap hh ho hm hc.1 hpos ht, fun _ b => ?_, fun C hC _ => ?_, fun _ e => (by cases e)⟩
        · show swap _ _ _ _ h' = _
          rw [swap_row_ne hne]; exact hr.rows h' hse
        · show Go.Sx.tot nh (swap _ _ _ _) b = _
          rw [tot_swap hh hc.1, hr.tot rfl b]
          omega
        · obtain ⟨hno, hkeep⟩ := hr.cert C hC rfl
          have hnh : ¬ ∃ o, o < 5 ∧ C o ∧ takes h o = true := fun hx => hno ((hC h hin hx).2 o ho hc.2)
          refine ⟨fun hx => hnh ⟨m, hm, hx, ht⟩, fun h' hin' hx => ?_⟩
          have hne : h' ≠ h := fun e => hnh (e ▸ hx)
          show swap _ _ _ _ h' = _
          rw [swap_row_ne hne]; exact hkeep h' hin' hx
      | false =>
        rw [hb] at hr
        have hgo : giveO rec m h (o :: os) S = giveO rec m h os (rec o S).2 := by simp only [giveO, if_pos hc, hb, Bool.false_eq_true, if_false]
        have hout := hr.fail rfl
        have ih := giveO_ok hm hh hin ht hrec os (rec o S).2 (fun x hx => hos x (by simp [hx])) (hr.mono h hs) hr.ok
        rw [hgo]
        refine ⟨fun h' x => ih.mono h' (hr.mono h' x), fun h' hne hse => by rw [ih.rows h' hne (hr.mono h' hse), hout], fun e => by rw [ih.fail e, hout], ih.ok, fun e b => by rw [ih.tot e b, hout], fun C hC e => ?_, fun hu e => ?_⟩
        · have := ih.cert C (by rw [hout]; exact hC) e
          rw [hout] at this; exact this
        · have hu' : unseen (rec o S).2.seen < k := Nat.lt_of_le_of_lt (unseen_mono hr.mono) hu
          obtain ⟨c1, c2⟩ := hr.closed hu rfl
          obtain ⟨d1, d2⟩ := ih.closed hu' e
          rw [hout] at d1 d2
          refine ⟨fun x hx hxm hxp h' hh' hth => ?_, fun h' hh' h1 h2 => ?_⟩
          · rcases List.mem_cons.1 hx with rfl | hx
            · exact ih.mono h' (c1 h' hh' hth)
            · exact d1 x hx hxm hxp h' hh' hth
          · cases hsee : (rec o S).2.seen h' with
            | true =>
              obtain ⟨e1, e2⟩ := c2 h' hh' hsee h2
              exact ⟨e1, fun x hx hxp h'' hh'' hth => ih.mono h'' (e2 x hx hxp h'' hh'' hth)⟩
            | false => exact d2 h' hh' h1 hsee
    · have hgo : giveO rec m h (o :: os) S = giveO rec m h os S := by simp only [giveO, if_neg hc]
      have ih := giveO_ok hm hh hin ht hrec os S (fun x hx => hos x (by simp [hx])) hs ok
      rw [hgo]
      refine ⟨ih.mono, ih.rows, ih.fail, ih.ok, ih.tot, ih.cert, fun hu e => ⟨fun x hx hxm hxp => ?_, (ih.closed hu e).2⟩⟩
      rcases List.mem_cons.1 hx with rfl | hx
      · exact absurd ⟨hxm, hxp⟩ hc
      · exact (ih.closed hu e).1 x hx hxm hxp

theorem giveH_ok {rec : Nat → GS → Bool × GS} {k m : Nat} (hm : m < 5) (h5 : nh ≤ 5) (hlt : ∀ h ∈ hands, h < nh)
    (hrec : ∀ o S, o < 5 → OutOK nh takes force S.out → GOut nh takes force hands k o S (rec o S).1 (rec o S).2) :
    ∀ (hs : List Nat) (S : GS), (∀ h ∈ hs, h ∈ hands) → OutOK nh takes force S.out →
      (∀ h, S.seen h = true → (giveH takes force rec m hs S).2.seen h = true) ∧ (∀ h, S.seen h = true → (giveH takes force rec m hs S).2.out h = S.out h) ∧
      ((giveH takes force rec m hs S).1 = false → (giveH takes force rec m hs S).2.out = S.out) ∧ OutOK nh takes force (giveH takes force rec m hs S).2.out ∧
      ((giveH takes force rec m hs S).1 = true → ∀ o, tot nh (giveH takes force rec m hs S).2.out o = tot nh S.out o + if o = m then 1 else 0) ∧
      (∀ C, Cert takes force hands C S.out → (giveH takes force rec m hs S).1 = true → ¬ C m ∧ ∀ h, h ∈ hands → (∃ o, o < 5 ∧ C o ∧ takes h o = true) → (giveH takes force rec m hs S).2.out h = S.out h) ∧
      (unseen S.seen < k + 1 → (giveH takes force rec m hs S).1 = false → (∀ h, h ∈ hs → takes h m = true → (giveH takes force rec m hs S).2.seen h = true) ∧
        ∀ h, h ∈ hands → (giveH takes force rec m hs S).2.seen h = true → S.seen h = false → force h ≤ sum5 (S.out h) ∧ ∀ o, o < 5 → o ≠ m → 0 < S.out h o → ∀ h', h' ∈ hands → takes h' o = true → (giveH takes force rec m hs S).2.seen h' = true)
  | [], S, _, ok => by
    refine ⟨fun _ x => x, fun _ _ => rfl, fun _ => rfl, ok, fun e => (by cases e), fun _ _ e => (by cases e), fun _ _ => ⟨fun o ho => (by cases ho), fun h' _ h1 h2 => ?_⟩⟩
    simp only [giveH] at h1
    rw [h2] at h1; cases h1
  | h :: hs, S, hsub, ok => by
    have hin : h ∈ hands := hsub h (by simp)
    have hh : h < nh := hlt h hin
    have hsub' : ∀ x ∈ hs, x ∈ hands := fun x hx => hsub x (by simp [hx])
    by_cases hskip : (!takes h m || S.seen h) = true
    · have hgo : giveH takes force rec m (h :: hs) S = giveH takes force rec m hs S := by simp only [giveH, if_pos hskip]
      rw [hgo]
      obtain ⟨a1, a2, a3, a4, a5, a6, a7⟩ := giveH_ok hm h5 hlt hrec hs S hsub' ok
      refine ⟨a1, a2, a3, a4, a5, a6, fun hu e => ⟨fun x hx htx => ?_, (a7 hu e).2⟩⟩
      rcases List.mem_cons.1 hx with rfl | hx
      · simp only [Bool.or_eq_true, Bool.not_eq_true'] at hskip
        rcases hskip with h1 | h1
        · rw [h1] at htx; cases htx
        · exact a1 x h1
      · exact (a7 hu e).1 x hx htx
    · have ht : takes h m = true := by
        cases hq : takes h m with
        | true => rfl
        | false => exact absurd (by simp [hq]) hskip
      have hs0 : S.seen h = false := by
        cases hq : S.seen h with
        | false => rfl
        | true => exact absurd (by simp [hq]) hskip
      have hmono1 : ∀ x, S.seen x = true → upd1 S.seen h true x = true := fun x hx => by unfold upd1; split <;> simp [hx]
      have hun := unseen_set (s := S.seen) (h := h) (by omega) hs0
      by_cases hl : sum5 (S.out h) < force h
      · have hgo : giveH takes force rec m (h :: hs) S = (true, ⟨upd2 S.out h m (S.out h m + 1), upd1 S.seen h true⟩) := by simp only [giveH, if_neg hskip, if_pos hl]
        rw [hgo]
        refine ⟨hmono1, fun x hx => ?_, fun e => (by cases e), ok.inc hh hm hl ht, fun _ o => tot_upd2 hh, fun C hC _ => ?_, fun _ e => (by cases e)⟩
        · have hne : x ≠ h := fun e => by rw [e, hs0] at hx; cases hx
          exact upd2_row_ne hne
        · have hnh : ¬ ∃ o, o < 5 ∧ C o ∧ takes h o = true := fun hx => by have := (hC h hin hx).1; omega
          refine ⟨fun hx => hnh ⟨m, hm, hx, ht⟩, fun x _ hx => ?_⟩
          have hne : x ≠ h := fun e => hnh (e ▸ hx)
          exact upd2_row_ne hne
      · have hO := giveO_ok hm hh hin ht hrec (List.range 5) ⟨S.out, upd1 S.seen h true⟩ (fun o ho => by simpa using ho) (by simp [upd1]) ok
        cases hb : (giveO rec m h (List.range 5) ⟨S.out, upd1 S.seen h true⟩).1 with
        | true =>
          have hgo : giveH takes force rec m (h :: hs) S = giveO rec m h (List.range 5) ⟨S.out, upd1 S.seen h true⟩ := by simp only [giveH, if_neg hskip, if_neg hl, hb, if_true]
          rw [hgo]
          refine ⟨fun x hx => hO.mono x (hmono1 x hx), fun x hx => ?_, fun e => (by rw [hb] at e; cases e), hO.ok, hO.tot, hO.cert, fun _ e => (by rw [hb] at e; cases e)⟩
          have hne : x ≠ h := fun e => by rw [e, hs0] at hx; cases hx
          exact hO.rows x hne (hmono1 x hx)
        | false =>
          have hgo : giveH takes force rec m (h :: hs) S = giveH takes force rec m hs (giveO rec m h (List.range 5) ⟨S.out, upd1 S.seen h true⟩).2 := by simp only [giveH, if_neg hskip, if_neg hl, hb, Bool.false_eq_true, if_false]
          rw [hgo]
          rw [hb] at hO
          have hout : (giveO rec m h (List.range 5) ⟨S.out, upd1 S.seen h true⟩).2.out = S.out := hO.fail rfl
          generalize (giveO rec m h (List.range 5) ⟨S.out, upd1 S.seen h true⟩).2 = S2 at hO hout ⊢
          obtain ⟨a1, a2, a3, a4, a5, a6, a7⟩ := giveH_ok hm h5 hlt hrec hs S2 hsub' hO.ok
          rw [hout] at a2 a3 a5 a6 a7
          have hm2 : ∀ x, S.seen x = true → S2.seen x = true := fun x hx => hO.mono x (hmono1 x hx)
          refine ⟨fun x hx => a1 x (hm2 x hx), fun x hx => a2 x (hm2 x hx), a3, a4, a5, a6, fun hu e => ?_⟩
          have hu1 : unseen (upd1 S.seen h true) < k := by omega
          have hu2 : unseen S2.seen < k + 1 := Nat.lt_of_le_of_lt (unseen_mono hO.mono) (by show unseen (upd1 S.seen h true) < k + 1; omega)
          obtain ⟨c1, c2⟩ := hO.closed hu1 rfl
          obtain ⟨d1, d2⟩ := a7 hu2 e
          refine ⟨fun x hx htx => ?_, fun x hx h1 h2 => ?_⟩
          · rcases List.mem_cons.1 hx with rfl | hx
            · exact a1 x (hO.mono x (by simp [upd1]))
            · exact d1 x hx htx
          · cases hse : S2.seen x with
            | false => exact d2 x hx h1 hse
            | true =>
              by_cases hxh : x = h
              · subst hxh
                exact ⟨by omega, fun o ho hom hp h' hh' hth => a1 h' (c1 o (by simpa using ho) hom hp h' hh' hth)⟩
              · obtain ⟨e1, e2⟩ := c2 x hx hse (by simp [upd1, hxh, h2])
                exact ⟨e1, fun o ho _ hp h' hh' hth => a1 h' (e2 o ho hp h' hh' hth)⟩

theorem giveD_ok (h5 : nh ≤ 5) (hlt : ∀ h ∈ hands, h < nh) : ∀ (k m : Nat) (S : GS), m < 5 → OutOK nh takes force S.out → GOut nh takes force hands k m S (giveD takes force hands k m S).1 (giveD takes force hands k m S).2
  | 0, m, S, _, ok => ⟨fun _ x => x, fun _ _ => rfl, fun _ => rfl, ok, fun e => (by cases e), fun _ _ e => (by cases e), fun hu => by omega⟩
  | k + 1, m, S, hm, ok => by
    obtain ⟨a1, a2, a3, a4, a5, a6, a7⟩ := giveH_ok (k := k) hm h5 hlt (fun o S ho ok => giveD_ok h5 hlt k o S ho ok) hands S (fun _ x => x) ok
    refine ⟨a1, a2, a3, a4, a5, a6, fun hu e => ?_⟩
    obtain ⟨c1, c2⟩ := a7 hu e
    refine ⟨c1, fun h hh h1 h2 => ?_⟩
    obtain ⟨e1, e2⟩ := c2 h hh h1 h2
    refine ⟨e1, fun o ho hp h' hh' hth => ?_⟩
    by_cases hom : o = m
    · subst hom; exact c1 h' hh' hth
    · exact e2 o ho hom hp h' hh' hth
end
end Go.Sx

/- A hand gives up a piece for another one: the walk. -/
namespace Go.Sx
open Go.Proofs
set_option maxRecDepth 100000
attribute [local irreducible] Code.wpIn wpListIn Exit.then Exit.inBlock BQ Again Hd St En OpT box blk RQ BQ0 fmap own Desk

def seenL (s : Nat → Bool) : List Value := row 5 fun i => .bool (s i)
theorem seen_set {s : Nat → Bool} {i : Nat} : (seenL s).set i (.bool true) = seenL (upd1 s i true) := by
  unfold seenL; rw [row_set]
  refine row_congr fun j _ => ?_
  unfold upd1; split <;> rfl
theorem out_set {n i j : Nat} {f : Nat → Nat → Int} {v : Int} (hj : j < 5) : (rows n 5 (icell f)).set (i * 5 + j) (.int .i64 v) = rows n 5 (icell (upd2 f i j v)) := by
  rw [rows_set hj]
  refine rows_congr fun a b _ _ => ?_
  unfold icell upd2; split <;> rfl
theorem out_get {n i j : Nat} {f : Nat → Nat → Int} (hi : i < n) (hj : j < 5) : (rows n 5 (icell f))[i * 5 + j]? = some (.int .i64 (f i j)) := rows_get hi hj

abbrev pt (b : Nat) : Value := .pointer (some ⟨b, 0, none⟩)
def natsI (l : List Nat) : List Int := l.map fun i : Nat => (i : Int)
abbrev GiveΓ (bo b12 d nh : Nat) (tv hv wv : Value) (H : Nat → HandD) (S : GS) : List HP := [box bo 31 (rows nh 5 (icell S.out)), box b12 39 (seenL S.seen), Desk d tv hv wv H]

theorem ent5 {nh : Nat} {takes : Nat → Nat → Bool} {force : Nat → Int} {out : Nat → Nat → Int} (ok : OutOK nh takes force out) {h : Nat} (hh : h < nh) (hf : force h ≤ 40) {j : Nat} (hj : j < 5) : 0 ≤ out h j ∧ out h j ≤ 40 := by
  have h1 := ok.le h hh
  rw [sum5_eq] at h1
  have p0 := ok.pos h 0 hh (by omega)
  have p1 := ok.pos h 1 hh (by omega)
  have p2 := ok.pos h 2 hh (by omega)
  have p3 := ok.pos h 3 hh (by omega)
  have p4 := ok.pos h 4 hh (by omega)
  have : j = 0 ∨ j = 1 ∨ j = 2 ∨ j = 3 ∨ j = 4 := by omega
  rcases this with rfl | rfl | rfl | rfl | rfl <;> omega
theorem drop5 {o : Nat} (h : o < 5) : (List.range 5).drop o = o :: (List.range 5).drop (o + 1) := by
  rw [List.drop_eq_getElem_cons (by simpa using h)]; simp

theorem give_ct (bo b12 d nh tray b5 b3 b9 b4 b13 : Nat) (tv hv wv hdv : Value) (H : Nat → HandD) (hands : List Nat) (h5 : nh ≤ 5) (hlt : ∀ x ∈ hands, x < nh) (hlen : hands.length ≤ 1000) (ok : ∀ i, i < nh → OKH (H i)) (htr : tray < 1000)
    (h : Heap) (hH : IsHands h hv nh H) (hhd : IsInts h hdv (natsI hands)) (k5 : cellH h b5 0 = some hdv) (k3 : cellH h b3 0 = some (.pointer (some ⟨d, 0, none⟩))) (k9 : cellH h b9 0 = some (.slice (some ⟨bo, 0, none⟩) nh nh)) (k4 : cellH h b4 0 = some (.int .i64 tray))
    (k13 : cellH h b13 0 = some (.func (.func 120) #[] #[.pointer (some ⟨b5, 0, none⟩), .pointer (some ⟨b3, 0, none⟩), .pointer (some ⟨b12, 0, none⟩), .pointer (some ⟨b9, 0, none⟩), .pointer (some ⟨b4, 0, none⟩), .pointer (some ⟨b13, 0, none⟩)])) :
    ∀ (k m : Nat) (S : GS), m < 5 → OutOK nh (fun i m => (H i).takes m) (fun i => forceD (H i) tray) S.out → unseen S.seen < k →
      CT Try.prog 120 [.int .i64 m, .pointer (some ⟨b5, 0, none⟩), .pointer (some ⟨b3, 0, none⟩), .pointer (some ⟨b12, 0, none⟩), .pointer (some ⟨b9, 0, none⟩), .pointer (some ⟨b4, 0, none⟩), .pointer (some ⟨b13, 0, none⟩)] h (GiveΓ bo b12 d nh tv hv wv H S)
        (DetG (.bool (giveD (fun i m => (H i).takes m) (fun i => forceD (H i) tray) hands k m S).1) (GiveΓ bo b12 d nh tv hv wv H (giveD (fun i m => (H i).takes m) (fun i => forceD (H i) tray) hands k m S).2))
  | 0, m, S, _, _, hu => by omega
  | k + 1, m, S, hm, hok, hu => by
    have ih := give_ct bo b12 d nh tray b5 b3 b9 b4 b13 tv hv wv hdv H hands h5 hlt hlen ok htr h hH hhd k5 k3 k9 k4 k13 k
    have hrec := fun o S (ho : o < 5) oks => giveD_ok (nh := nh) (takes := fun i m => (H i).takes m) (force := fun i => forceD (H i) tray) (hands := hands) h5 hlt k o S ho oks
    have hH0 := hH
    obtain ⟨rv, ⟨_, had, hcp, rfl, hm1, hc1, hp1⟩, hr⟩ := hH
    obtain ⟨iad, icp, rfl, hm2, hc2, hp2⟩ := hhd.shape
    have hlenI : (natsI hands).length = hands.length := by simp [natsI]
    simp only [hlenI] at hm2 hp2 k5
    show CT _ _ _ _ _ (DetG (.bool (giveH _ _ _ m hands S).1) (GiveΓ bo b12 d nh tv _ wv H (giveH _ _ _ m hands S).2))
    generalize hrecd : giveD (fun i m => (H i).takes m) (fun i => forceD (H i) tray) hands k = rec at ih hrec ⊢
    generalize hR : giveH (fun i m => (H i).takes m) (fun i => forceD (H i) tray) rec m hands S = R
    refine ct_intro Try.func120 rfl rfl rfl rfl fun Φ => ?_
    refine en_seq <| en_region <| en_det (opT_assign rfl) rfl <| en_nil <| en_then <| en_seq <| en_seq <| en_region <| ?_
    first | refine en_det (opT_desk0 rfl) rfl ?_ | refine en_det (opT_desk1 rfl) rfl ?_ | refine en_det (opT_load_h rfl (by assumption)) rfl ?_ | refine en_det (opT_load_own rfl rfl) rfl ?_
    refine en_det (opT_len rfl) rfl <| en_det (opT_move rfl) rfl <| en_nil <| en_then <| en_block <| ?_
    refine en_loop (fun x : Nat × GS => x.1 ≤ hands.length ∧ OutOK nh (fun i m => (H i).takes m) (fun i => forceD (H i) tray) x.2.out ∧ unseen x.2.seen < k + 1 ∧ giveH (fun i m => (H i).takes m) (fun i => forceD (H i) tray) rec m (hands.drop x.1) x.2 = R) (fun x => [(0, .int .i64 m), (1, pt b5), (2, pt b3), (3, pt b12), (4, pt b9), (5, pt b4), (6, pt b13), (12, .slice iad hands.length icp), (13, .int .i64 hands.length), (14, .int .i64 x.1)]) (fun _ => h) (fun x => GiveΓ bo b12 d nh tv (.slice had nh hcp) wv H x.2) (fun x => hands.length - x.1) (0, S) ⟨by simp, hok, hu, hR⟩ ⟨rfl, rfl, rfl, rfl, rfl, rfl, rfl, rfl, rfl, rfl, trivial⟩ (.refl _) (tkAll _) fun x hx => ?_
    obtain ⟨i, S0⟩ := x
    obtain ⟨hi, ok0, hu0, heq⟩ := hx
    simp only at hi ok0 hu0 heq
    change En _ _ _ [(0, .int .i64 m), (1, pt b5), (2, pt b3), (3, pt b12), (4, pt b9), (5, pt b4), (6, pt b13), (12, .slice iad hands.length icp), (13, .int .i64 hands.length), (14, .int .i64 i)] h [box bo 31 (rows nh 5 (icell S0.out)), box b12 39 (seenL S0.seen), Desk d tv (.slice had nh hcp) wv H]
    refine en_seq <| en_region <| ?_
    first | refine en_det (opT_lss_t rfl rfl (by omega)) rfl ?_ | refine en_det (opT_lss_f rfl rfl (by omega)) rfl ?_ | refine en_det (opT_lss rfl rfl) rfl ?_
    refine en_nil <| en_then <| en_seq <| ?_
    refine en_if rfl (fun hlt1 => ?_) (fun hlt1 => ?_)
    · skip
      have hil : i < hands.length := by omega
      have hhn : hands[i] < nh := hlt _ (List.getElem_mem hil)
      obtain ⟨hb, hoff, rfl, hcells⟩ := hp1 (by omega)
      obtain ⟨ib, ioff, rfl, hints⟩ := hp2 (by omega)
      have hgi := hints i hil
      have e1 : (natsI hands)[i]'(by rw [hlenI]; exact hil) = ((hands[i] : Nat) : Int) := by simp [natsI]
      rw [e1] at hgi
      have hdrop : hands.drop i = hands[i] :: hands.drop (i + 1) := List.drop_eq_getElem_cons hil
      rw [hdrop] at heq
      simp only [giveH] at heq
      generalize hands[i] = hd at hhn hgi heq
      have hce := hcells.cell hhn (by omega : m < 9)
      have hcv : hcell (H hd) (rv hd) m = .bool ((H hd).takes m) := by simp [hcell, hm]
      rw [hcv] at hce
      have hse : (seenL S0.seen)[hd]? = some (.bool (S0.seen hd)) := row_get (by omega)
      have next : ∀ S1 : GS, OutOK nh (fun i m => (H i).takes m) (fun i => forceD (H i) tray) S1.out → unseen S1.seen < k + 1 → giveH (fun i m => (H i).takes m) (fun i => forceD (H i) tray) rec m (hands.drop (i + 1)) S1 = R → True := fun _ _ _ _ => trivial
      cases htk : (H hd).takes m with
      | false =>
        rw [htk] at hce heq
        simp only [Bool.not_false, Bool.true_or, if_true] at heq
        skip
        refine en_skip <| en_then <| en_seq <| en_block <| en_seq <| en_region <| ?_
        first | refine en_det (opT_idx1 rfl rfl (by omega) (by omega)) rfl ?_ | refine en_det (opT_idx (ks := 0) rfl rfl (by omega) (by omega)) rfl ?_
        first | refine en_det (opT_desk0 rfl) rfl ?_ | refine en_det (opT_desk1 rfl) rfl ?_ | refine en_det (opT_load_h rfl (by assumption)) rfl ?_ | refine en_det (opT_load_own rfl rfl) rfl ?_
        refine en_det (opT_assign rfl) rfl <| en_nil <| en_then <| en_seq <| en_seq <| en_region <| ?_
        first | refine en_det (opT_desk0 rfl) rfl ?_ | refine en_det (opT_desk1 rfl) rfl ?_ | refine en_det (opT_load_h rfl (by assumption)) rfl ?_ | refine en_det (opT_load_own rfl rfl) rfl ?_
        refine en_det (opT_nilCheck_p rfl) rfl <| en_det (opT_fieldAddr rfl) rfl <| en_det (opT_fieldAddr rfl) rfl <| ?_
        first | refine en_det (opT_desk0 rfl) rfl ?_ | refine en_det (opT_desk1 rfl) rfl ?_ | refine en_det (opT_load_h rfl (by assumption)) rfl ?_ | refine en_det (opT_load_own rfl rfl) rfl ?_
        refine en_det (opT_move rfl) rfl <| en_det (opT_move rfl) rfl <| ?_
        first | refine en_det (opT_idx1 rfl rfl (by omega) (by omega)) rfl ?_ | refine en_det (opT_idx (ks := 0) rfl rfl (by omega) (by omega)) rfl ?_
        refine en_det (opT_fieldAddr rfl) rfl <| en_det (opT_idxArr rfl rfl (by omega) (by omega)) rfl <| ?_
        first | refine en_det (opT_desk0 rfl) rfl ?_ | refine en_det (opT_desk1 rfl) rfl ?_ | refine en_det (opT_load_h rfl (by assumption)) rfl ?_ | refine en_det (opT_load_own rfl rfl) rfl ?_
        first | refine en_det (opT_not_t rfl) rfl ?_ | refine en_det (opT_not_f rfl) rfl ?_ | refine en_det (opT_not rfl) rfl ?_
        refine en_det (opT_move rfl) rfl <| en_g_no rfl rfl rfl <| en_g_no rfl rfl rfl <| en_g_no rfl rfl rfl <| ?_
        first | refine en_det (opT_pick_t rfl rfl) rfl ?_ | refine en_det (opT_pick_f rfl rfl) rfl ?_
        refine en_nil <| en_then <| en_cond_t rfl <| en_exit <| en_then_exit <| en_blk_hit <| en_then <| en_region <| en_det (opT_add rfl rfl (by constructor <;> omega)) rfl <| en_det (opT_move rfl) rfl <| en_nil <| en_then <| ?_
        exact en_again (i + 1, S0) ⟨by simp only; omega, ok0, hu0, heq⟩ (by simp only; omega) ⟨rfl, rfl, rfl, rfl, rfl, rfl, rfl, rfl, rfl, gi rfl (by simp), trivial⟩ (.refl _) (tkAll _)
      | true =>
        cases hsn : S0.seen hd with
        | true =>
          rw [htk] at hce
          rw [htk, hsn] at heq
          rw [hsn] at hse
          simp only [Bool.or_true, if_true] at heq
          refine en_skip <| en_then <| en_seq <| en_block <| en_seq <| en_region <| ?_
          first | refine en_det (opT_idx1 rfl rfl (by omega) (by omega)) rfl ?_ | refine en_det (opT_idx (ks := 0) rfl rfl (by omega) (by omega)) rfl ?_
          first | refine en_det (opT_desk0 rfl) rfl ?_ | refine en_det (opT_desk1 rfl) rfl ?_ | refine en_det (opT_load_h rfl (by assumption)) rfl ?_ | refine en_det (opT_load_own rfl rfl) rfl ?_
          refine en_det (opT_assign rfl) rfl <| en_nil <| en_then <| en_seq <| en_seq <| en_region <| ?_
          first | refine en_det (opT_desk0 rfl) rfl ?_ | refine en_det (opT_desk1 rfl) rfl ?_ | refine en_det (opT_load_h rfl (by assumption)) rfl ?_ | refine en_det (opT_load_own rfl rfl) rfl ?_
          refine en_det (opT_nilCheck_p rfl) rfl <| en_det (opT_fieldAddr rfl) rfl <| en_det (opT_fieldAddr rfl) rfl <| ?_
          first | refine en_det (opT_desk0 rfl) rfl ?_ | refine en_det (opT_desk1 rfl) rfl ?_ | refine en_det (opT_load_h rfl (by assumption)) rfl ?_ | refine en_det (opT_load_own rfl rfl) rfl ?_
          refine en_det (opT_move rfl) rfl <| en_det (opT_move rfl) rfl <| ?_
          first | refine en_det (opT_idx1 rfl rfl (by omega) (by omega)) rfl ?_ | refine en_det (opT_idx (ks := 0) rfl rfl (by omega) (by omega)) rfl ?_
          refine en_det (opT_fieldAddr rfl) rfl <| en_det (opT_idxArr rfl rfl (by omega) (by omega)) rfl <| ?_
          first | refine en_det (opT_desk0 rfl) rfl ?_ | refine en_det (opT_desk1 rfl) rfl ?_ | refine en_det (opT_load_h rfl (by assumption)) rfl ?_ | refine en_det (opT_load_own rfl rfl) rfl ?_
          first | refine en_det (opT_not_t rfl) rfl ?_ | refine en_det (opT_not_f rfl) rfl ?_ | refine en_det (opT_not rfl) rfl ?_
          refine en_det (opT_move rfl) rfl <| en_g_yes rfl rfl <| en_det (opT_move rfl) rfl <| en_g_yes rfl rfl <| en_det (opT_idxArr rfl rfl (by omega) (by omega)) rfl <| en_g_yes rfl rfl <| en_det (opT_load_own rfl hse) rfl <| ?_
          first | refine en_det (opT_pick_t rfl rfl) rfl ?_ | refine en_det (opT_pick_f rfl rfl) rfl ?_
          refine en_nil <| en_then <| en_cond_t rfl <| en_exit <| en_then_exit <| en_blk_hit <| en_then <| en_region <| en_det (opT_add rfl rfl (by constructor <;> omega)) rfl <| en_det (opT_move rfl) rfl <| en_nil <| en_then <| ?_
          exact en_again (i + 1, S0) ⟨by simp only; omega, ok0, hu0, heq⟩ (by simp only; omega) ⟨rfl, rfl, rfl, rfl, rfl, rfl, rfl, rfl, rfl, gi rfl (by simp), trivial⟩ (.refl _) (tkAll _)
        | false =>
          rw [htk] at hce
          rw [htk, hsn] at heq
          rw [hsn] at hse
          simp only [Bool.not_true, Bool.or_false, Bool.false_eq_true, if_false] at heq
          have hfb := forceD_bound (ok hd hhn) tray
          have hle := ok0.le hd hhn
          have ent : ∀ j, j < 5 → 0 ≤ S0.out hd j ∧ S0.out hd j ≤ 40 := fun j hj => ent5 ok0 hhn (by simpa using hfb.2) hj
          have cS : CT Try.prog 76 [.slice (some ⟨bo, hd * 5, none⟩) 5 5] h [box bo 31 (rows nh 5 (icell S0.out))] (DetW (.int .i64 (sum5 (S0.out hd))) [box bo 31 (rows nh 5 (icell S0.out))]) :=
            add_own_ct h bo (hd * 5) 5 5 31 _ (S0.out hd) (by omega) (fun j hj => by have := ent j hj; omega) (fun j hj => out_get hhn hj)
          have cF := force_ct h d tv _ wv H nh hd tray hH0 hhn (by omega) (ok hd hhn) htr
          have hun := unseen_set (s := S0.seen) (h := hd) (by omega) hsn
          refine en_skip <| en_then <| en_seq <| en_block <| en_seq <| en_region <| ?_
          first | refine en_det (opT_idx1 rfl rfl (by omega) (by omega)) rfl ?_ | refine en_det (opT_idx (ks := 0) rfl rfl (by omega) (by omega)) rfl ?_
          first | refine en_det (opT_desk0 rfl) rfl ?_ | refine en_det (opT_desk1 rfl) rfl ?_ | refine en_det (opT_load_h rfl (by assumption)) rfl ?_ | refine en_det (opT_load_own rfl rfl) rfl ?_
          refine en_det (opT_assign rfl) rfl <| en_nil <| en_then <| en_seq <| en_seq <| en_region <| ?_
          first | refine en_det (opT_desk0 rfl) rfl ?_ | refine en_det (opT_desk1 rfl) rfl ?_ | refine en_det (opT_load_h rfl (by assumption)) rfl ?_ | refine en_det (opT_load_own rfl rfl) rfl ?_
          refine en_det (opT_nilCheck_p rfl) rfl <| en_det (opT_fieldAddr rfl) rfl <| en_det (opT_fieldAddr rfl) rfl <| ?_
          first | refine en_det (opT_desk0 rfl) rfl ?_ | refine en_det (opT_desk1 rfl) rfl ?_ | refine en_det (opT_load_h rfl (by assumption)) rfl ?_ | refine en_det (opT_load_own rfl rfl) rfl ?_
          refine en_det (opT_move rfl) rfl <| en_det (opT_move rfl) rfl <| ?_
          first | refine en_det (opT_idx1 rfl rfl (by omega) (by omega)) rfl ?_ | refine en_det (opT_idx (ks := 0) rfl rfl (by omega) (by omega)) rfl ?_
          refine en_det (opT_fieldAddr rfl) rfl <| en_det (opT_idxArr rfl rfl (by omega) (by omega)) rfl <| ?_
          first | refine en_det (opT_desk0 rfl) rfl ?_ | refine en_det (opT_desk1 rfl) rfl ?_ | refine en_det (opT_load_h rfl (by assumption)) rfl ?_ | refine en_det (opT_load_own rfl rfl) rfl ?_
          first | refine en_det (opT_not_t rfl) rfl ?_ | refine en_det (opT_not_f rfl) rfl ?_ | refine en_det (opT_not rfl) rfl ?_
          refine en_det (opT_move rfl) rfl <| en_g_yes rfl rfl <| en_det (opT_move rfl) rfl <| en_g_yes rfl rfl <| en_det (opT_idxArr rfl rfl (by omega) (by omega)) rfl <| en_g_yes rfl rfl <| en_det (opT_load_own rfl hse) rfl <| ?_
          first | refine en_det (opT_pick_t rfl rfl) rfl ?_ | refine en_det (opT_pick_f rfl rfl) rfl ?_
          refine en_nil <| en_then <| en_cond_f rfl <| en_skip <| en_then <| en_seq <| en_region <| en_det (opT_move rfl) rfl <| en_det (opT_idxArr rfl rfl (by omega) (by omega)) rfl <| en_det0 (opT_store1s rfl rfl rfl (by simp [seenL, row_length]; omega)) <| ?_
          rw [seen_set]
          by_cases hl : sum5 (S0.out hd) < forceD (H hd) tray
          · rw [if_pos hl] at heq
            subst heq
            have em := ent m hm
            skip
            refine en_nil <| en_then <| en_seq <| en_seq <| en_draw0 [0, 1, 2, 3, 5, 6, 7, 4, 8, 9] (by kernel_rfl) (by decide +kernel) (by decide +kernel) (by decide) <| ?_
            first | refine dp_q rfl (opT_desk0 rfl) rfl rfl rfl ?_ | refine dp_q rfl (opT_desk1 rfl) rfl rfl rfl ?_ | refine dp_q rfl (opT_load_h rfl (by assumption)) rfl rfl rfl ?_ | refine dp_q rfl (opT_load_own rfl rfl) rfl rfl rfl ?_
            refine dp_p rfl (fun _ _ => opT_move rfl) rfl rfl rfl <| ?_
            first | refine dp_p rfl (fun _ _ => opT_idx1 rfl rfl (by omega) (by omega)) rfl rfl rfl ?_ | refine dp_p rfl (fun _ _ => opT_idx (ks := 0) rfl rfl (by omega) (by omega)) rfl rfl rfl ?_
            refine dp_p rfl (fun _ _ => opT_sliceArr (by omega) rfl) rfl rfl rfl <| ?_
            first | refine dp_q rfl (opT_desk0 rfl) rfl rfl rfl ?_ | refine dp_q rfl (opT_desk1 rfl) rfl rfl rfl ?_ | refine dp_q rfl (opT_load_h rfl (by assumption)) rfl rfl rfl ?_ | refine dp_q rfl (opT_load_own rfl rfl) rfl rfl rfl ?_
            refine dp_p rfl (fun _ _ => opT_move rfl) rfl rfl rfl <| ?_
            first | refine dp_q rfl (opT_desk0 rfl) rfl rfl rfl ?_ | refine dp_q rfl (opT_desk1 rfl) rfl rfl rfl ?_ | refine dp_q rfl (opT_load_h rfl (by assumption)) rfl rfl rfl ?_ | refine dp_q rfl (opT_load_own rfl rfl) rfl rfl rfl ?_
            refine dp_ed0 rfl (opT_callw (cS) rfl rfl rfl) rfl rfl rfl rfl <| dp_ed0 rfl (opT_callw (cF) rfl rfl rfl) rfl rfl rfl rfl <| dp_p rfl (fun _ _ => opT_lss_t rfl rfl (by omega)) rfl rfl rfl <| dp_done0 <| en_then <| en_cond_t rfl <| en_seq <| en_draw0 [0, 1, 2, 3, 4, 5, 6, 7, 8, 9] (by kernel_rfl) (by decide +kernel) (by decide +kernel) (by decide) <| ?_
            first | refine dp_q rfl (opT_desk0 rfl) rfl rfl rfl ?_ | refine dp_q rfl (opT_desk1 rfl) rfl rfl rfl ?_ | refine dp_q rfl (opT_load_h rfl (by assumption)) rfl rfl rfl ?_ | refine dp_q rfl (opT_load_own rfl rfl) rfl rfl rfl ?_
            refine dp_p rfl (fun _ _ => opT_move rfl) rfl rfl rfl <| dp_p rfl (fun _ _ => opT_move rfl) rfl rfl rfl <| ?_
            first | refine dp_p rfl (fun _ _ => opT_idx1 rfl rfl (by omega) (by omega)) rfl rfl rfl ?_ | refine dp_p rfl (fun _ _ => opT_idx (ks := 0) rfl rfl (by omega) (by omega)) rfl rfl rfl ?_
            refine dp_p rfl (fun _ _ => opT_idxArr rfl rfl (by omega) (by omega)) rfl rfl rfl <| dp_q rfl (opT_load_own rfl (out_get hhn hm)) rfl rfl rfl <| dp_p rfl (fun _ _ => opT_add rfl rfl (by constructor <;> omega)) rfl rfl rfl <| ?_
            first | refine dp_p rfl (fun _ _ => opT_idx1 rfl rfl (by omega) (by omega)) rfl rfl rfl ?_ | refine dp_p rfl (fun _ _ => opT_idx (ks := 0) rfl rfl (by omega) (by omega)) rfl rfl rfl ?_
            refine dp_p rfl (fun _ _ => opT_idxArr rfl rfl (by omega) (by omega)) rfl rfl rfl <| dp_td0 rfl (opT_store1s rfl rfl rfl (by rw [rows_length]; exact row_lt hhn hm)) rfl rfl rfl rfl rfl <| dp_done0 <| ?_
            rw [out_set hm]
            refine en_then <| en_seq <| en_region <| en_det (opT_assign rfl) rfl <| en_nil <| en_then <| en_ret <| en_then_ret <| en_blk_ret <| en_then_ret <| en_then_ret <| en_blk_ret <| en_then_ret <| ?_
            refine en_return (rs := [.tmp 8]) rfl (.cons (.tmp rfl) .nil) (.refl _) (t := tkAll _) ⟨rfl, rfl⟩
          · rw [if_neg hl] at heq
            refine en_nil <| en_then <| en_seq <| en_seq <| en_draw0 [0, 1, 2, 3, 5, 6, 7, 4, 8, 9] (by kernel_rfl) (by decide +kernel) (by decide +kernel) (by decide) <| ?_
            first | refine dp_q rfl (opT_desk0 rfl) rfl rfl rfl ?_ | refine dp_q rfl (opT_desk1 rfl) rfl rfl rfl ?_ | refine dp_q rfl (opT_load_h rfl (by assumption)) rfl rfl rfl ?_ | refine dp_q rfl (opT_load_own rfl rfl) rfl rfl rfl ?_
            refine dp_p rfl (fun _ _ => opT_move rfl) rfl rfl rfl <| ?_
            first | refine dp_p rfl (fun _ _ => opT_idx1 rfl rfl (by omega) (by omega)) rfl rfl rfl ?_ | refine dp_p rfl (fun _ _ => opT_idx (ks := 0) rfl rfl (by omega) (by omega)) rfl rfl rfl ?_
            refine dp_p rfl (fun _ _ => opT_sliceArr (by omega) rfl) rfl rfl rfl <| ?_
            first | refine dp_q rfl (opT_desk0 rfl) rfl rfl rfl ?_ | refine dp_q rfl (opT_desk1 rfl) rfl rfl rfl ?_ | refine dp_q rfl (opT_load_h rfl (by assumption)) rfl rfl rfl ?_ | refine dp_q rfl (opT_load_own rfl rfl) rfl rfl rfl ?_
            refine dp_p rfl (fun _ _ => opT_move rfl) rfl rfl rfl <| ?_
            first | refine dp_q rfl (opT_desk0 rfl) rfl rfl rfl ?_ | refine dp_q rfl (opT_desk1 rfl) rfl rfl rfl ?_ | refine dp_q rfl (opT_load_h rfl (by assumption)) rfl rfl rfl ?_ | refine dp_q rfl (opT_load_own rfl rfl) rfl rfl rfl ?_
            refine dp_ed0 rfl (opT_callw (cS) rfl rfl rfl) rfl rfl rfl rfl <| dp_ed0 rfl (opT_callw (cF) rfl rfl rfl) rfl rfl rfl rfl <| dp_p rfl (fun _ _ => opT_lss_f rfl rfl (by omega)) rfl rfl rfl <| dp_done0 <| en_then <| en_cond_f rfl <| en_skip <| en_then <| en_seq <| en_region <| en_det (opT_move rfl) rfl <| en_nil <| en_then <| en_block <| ?_
            generalize hgO : giveO rec m hd (List.range 5) ⟨S0.out, upd1 S0.seen hd true⟩ = gO at heq
            refine en_loop (fun x : Nat × GS => x.1 ≤ 5 ∧ OutOK nh (fun i m => (H i).takes m) (fun i => forceD (H i) tray) x.2.out ∧ unseen x.2.seen < k ∧ giveO rec m hd ((List.range 5).drop x.1) x.2 = gO) (fun x => [(0, .int .i64 m), (1, pt b5), (2, pt b3), (3, pt b12), (4, pt b9), (5, pt b4), (6, pt b13), (12, .slice (some ⟨ib, ioff, none⟩) hands.length icp), (13, .int .i64 hands.length), (14, .int .i64 i), (10, .int .i64 hd), (56, .int .i64 x.1)]) (fun _ => h) (fun x => GiveΓ bo b12 d nh tv (.slice (some ⟨hb, hoff, none⟩) nh hcp) wv H x.2) (fun x => 5 - x.1) (0, ⟨S0.out, upd1 S0.seen hd true⟩) ⟨by simp, ok0, by simp only; omega, hgO⟩ ⟨rfl, rfl, rfl, rfl, rfl, rfl, rfl, rfl, rfl, rfl, rfl, rfl, trivial⟩ (.refl _) (tkAll _) fun x hx => ?_
            obtain ⟨o, S1⟩ := x
            obtain ⟨ho5, ok1, hu1, heq1⟩ := hx
            simp only at ho5 ok1 hu1 heq1
            change En _ _ _ [(0, .int .i64 m), (1, pt b5), (2, pt b3), (3, pt b12), (4, pt b9), (5, pt b4), (6, pt b13), (12, .slice (some ⟨ib, ioff, none⟩) hands.length icp), (13, .int .i64 hands.length), (14, .int .i64 i), (10, .int .i64 hd), (56, .int .i64 o)] h [box bo 31 (rows nh 5 (icell S1.out)), box b12 39 (seenL S1.seen), Desk d tv (.slice (some ⟨hb, hoff, none⟩) nh hcp) wv H]
            refine en_seq <| en_region <| ?_
            first | refine en_det (opT_lss_t rfl rfl (by omega)) rfl ?_ | refine en_det (opT_lss_f rfl rfl (by omega)) rfl ?_ | refine en_det (opT_lss rfl rfl) rfl ?_
            refine en_nil <| en_then <| en_seq <| ?_
            refine en_if rfl (fun hlt2 => ?_) (fun hlt2 => ?_)
            · skip
              have hol : o < 5 := by omega
              rw [drop5 hol] at heq1
              simp only [giveO] at heq1
              by_cases hom : o = m
              · have hneg : ¬ (o ≠ m ∧ 0 < S1.out hd o) := fun hx => hx.1 hom
                rw [if_neg hneg] at heq1
                skip
                refine en_skip <| en_then <| en_seq <| en_block <| en_seq <| en_region <| en_det (opT_move rfl) rfl <| en_det (opT_assign rfl) rfl <| en_nil <| en_then <| en_seq <| en_region <| en_det (opT_move rfl) rfl <| en_det (opT_move rfl) rfl <| en_det (opT_neq_f rfl rfl (by omega)) rfl <| en_det (opT_move rfl) rfl <| en_g_no rfl rfl rfl <| en_g_no rfl rfl rfl <| en_g_no rfl rfl rfl <| en_g_no rfl rfl rfl <| en_g_no rfl rfl rfl <| en_g_no rfl rfl rfl <| en_g_no rfl rfl rfl <| ?_
                first | refine en_det (opT_pick_t rfl rfl) rfl ?_ | refine en_det (opT_pick_f rfl rfl) rfl ?_
                refine en_det (opT_move rfl) rfl <| en_g_no rfl rfl rfl <| en_g_no rfl rfl rfl <| en_g_no rfl rfl rfl <| ?_
                first | refine en_det (opT_pick_t rfl rfl) rfl ?_ | refine en_det (opT_pick_f rfl rfl) rfl ?_
                refine en_nil <| en_then <| en_cond_f rfl <| en_skip <| en_blk <| en_then <| en_region <| en_det (opT_add rfl rfl (by constructor <;> omega)) rfl <| en_det (opT_move rfl) rfl <| en_nil <| en_then <| ?_
                exact en_again (o + 1, S1) ⟨by simp only; omega, ok1, hu1, heq1⟩ (by simp only; omega) ⟨rfl, rfl, rfl, rfl, rfl, rfl, rfl, rfl, rfl, rfl, rfl, gi rfl (by simp), trivial⟩ (.refl _) (tkAll _)
              · by_cases hpo : 0 < S1.out hd o
                · rw [if_pos ⟨hom, hpo⟩] at heq1
                  have hg := hrec o S1 hol ok1
                  have cR := ih o S1 hol ok1 hu1
                  cases hb' : (rec o S1).1 with
                  | true =>
                    rw [hb'] at cR
                    rw [hb', if_pos rfl] at heq1
                    subst heq1
                    rw [if_pos rfl] at heq
                    have ok2 := hg.ok
                    generalize (rec o S1).2 = S2 at cR heq ok2
                    have eo := ent5 ok2 hhn (by simpa using hfb.2) hol
                    have em := ent5 ok2 hhn (by simpa using hfb.2) hm
                    have hval : upd2 S2.out hd o (S2.out hd o - 1) hd m = S2.out hd m := upd2_ne (fun hx => hom hx.2.symm)
                    refine en_skip <| en_then <| en_seq <| en_block <| en_seq <| en_region <| en_det (opT_move rfl) rfl <| en_det (opT_assign rfl) rfl <| en_nil <| en_then <| en_seq <| en_region <| en_det (opT_move rfl) rfl <| en_det (opT_move rfl) rfl <| en_det (opT_neq_t rfl rfl (by omega)) rfl <| en_det (opT_move rfl) rfl <| en_g_yes rfl rfl <| ?_
                    first | refine en_det (opT_desk0 rfl) rfl ?_ | refine en_det (opT_desk1 rfl) rfl ?_ | refine en_det (opT_load_h rfl (by assumption)) rfl ?_ | refine en_det (opT_load_own rfl rfl) rfl ?_
                    refine en_g_yes rfl rfl <| en_det (opT_move rfl) rfl <| en_g_yes rfl rfl <| en_det (opT_move rfl) rfl <| en_g_yes rfl rfl <| ?_
                    first | refine en_det (opT_idx1 rfl rfl (by omega) (by omega)) rfl ?_ | refine en_det (opT_idx (ks := 0) rfl rfl (by omega) (by omega)) rfl ?_
                    refine en_g_yes rfl rfl <| en_det (opT_idxArr rfl rfl (by omega) (by omega)) rfl <| en_g_yes rfl rfl <| en_det (opT_load_own rfl (out_get hhn hol)) rfl <| en_g_yes rfl rfl <| en_det (opT_gtr_t rfl rfl (by omega)) rfl <| ?_
                    first | refine en_det (opT_pick_t rfl rfl) rfl ?_ | refine en_det (opT_pick_f rfl rfl) rfl ?_
                    refine en_det (opT_move rfl) rfl <| en_g_yes rfl rfl <| ?_
                    first | refine en_det (opT_desk0 rfl) rfl ?_ | refine en_det (opT_desk1 rfl) rfl ?_ | refine en_det (opT_load_h rfl (by assumption)) rfl ?_ | refine en_det (opT_load_own rfl rfl) rfl ?_
                    refine en_g_yes rfl rfl <| en_det (opT_move rfl) rfl <| en_g_yes rfl rfl <| en_det (opT_callg (cR) rfl rfl rfl) rfl <| ?_
                    first | refine en_det (opT_pick_t rfl rfl) rfl ?_ | refine en_det (opT_pick_f rfl rfl) rfl ?_
                    refine en_nil <| en_then <| en_cond_t rfl <| en_seq <| en_draw0 [0, 1, 2, 3, 4, 5, 6, 7, 8, 9] (by kernel_rfl) (by decide +kernel) (by decide +kernel) (by decide) <| ?_
                    first | refine dp_q rfl (opT_desk0 rfl) rfl rfl rfl ?_ | refine dp_q rfl (opT_desk1 rfl) rfl rfl rfl ?_ | refine dp_q rfl (opT_load_h rfl (by assumption)) rfl rfl rfl ?_ | refine dp_q rfl (opT_load_own rfl rfl) rfl rfl rfl ?_
                    refine dp_p rfl (fun _ _ => opT_move rfl) rfl rfl rfl <| dp_p rfl (fun _ _ => opT_move rfl) rfl rfl rfl <| ?_
                    first | refine dp_p rfl (fun _ _ => opT_idx1 rfl rfl (by omega) (by omega)) rfl rfl rfl ?_ | refine dp_p rfl (fun _ _ => opT_idx (ks := 0) rfl rfl (by omega) (by omega)) rfl rfl rfl ?_
                    refine dp_p rfl (fun _ _ => opT_idxArr rfl rfl (by omega) (by omega)) rfl rfl rfl <| dp_q rfl (opT_load_own rfl (out_get hhn hol)) rfl rfl rfl <| dp_p rfl (fun _ _ => opT_sub rfl rfl (by constructor <;> omega)) rfl rfl rfl <| ?_
                    first | refine dp_p rfl (fun _ _ => opT_idx1 rfl rfl (by omega) (by omega)) rfl rfl rfl ?_ | refine dp_p rfl (fun _ _ => opT_idx (ks := 0) rfl rfl (by omega) (by omega)) rfl rfl rfl ?_
                    refine dp_p rfl (fun _ _ => opT_idxArr rfl rfl (by omega) (by omega)) rfl rfl rfl <| dp_td0 rfl (opT_store1s rfl rfl rfl (by rw [rows_length]; exact row_lt hhn hol)) rfl rfl rfl rfl rfl <| dp_done0 <| ?_
                    rw [out_set hol]
                    refine en_then <| en_seq <| en_draw0 [0, 1, 2, 3, 4, 5, 6, 7, 8, 9] (by kernel_rfl) (by decide +kernel) (by decide +kernel) (by decide) <| ?_
                    first | refine dp_q rfl (opT_desk0 rfl) rfl rfl rfl ?_ | refine dp_q rfl (opT_desk1 rfl) rfl rfl rfl ?_ | refine dp_q rfl (opT_load_h rfl (by assumption)) rfl rfl rfl ?_ | refine dp_q rfl (opT_load_own rfl rfl) rfl rfl rfl ?_
                    refine dp_p rfl (fun _ _ => opT_move rfl) rfl rfl rfl <| dp_p rfl (fun _ _ => opT_move rfl) rfl rfl rfl <| ?_
                    first | refine dp_p rfl (fun _ _ => opT_idx1 rfl rfl (by omega) (by omega)) rfl rfl rfl ?_ | refine dp_p rfl (fun _ _ => opT_idx (ks := 0) rfl rfl (by omega) (by omega)) rfl rfl rfl ?_
                    refine dp_p rfl (fun _ _ => opT_idxArr rfl rfl (by omega) (by omega)) rfl rfl rfl <| dp_q rfl (opT_load_own rfl (out_get hhn hm)) rfl rfl rfl <| dp_p rfl (fun _ _ => opT_add rfl rfl (by constructor <;> omega)) rfl rfl rfl <| ?_
                    first | refine dp_p rfl (fun _ _ => opT_idx1 rfl rfl (by omega) (by omega)) rfl rfl rfl ?_ | refine dp_p rfl (fun _ _ => opT_idx (ks := 0) rfl rfl (by omega) (by omega)) rfl rfl rfl ?_
                    refine dp_p rfl (fun _ _ => opT_idxArr rfl rfl (by omega) (by omega)) rfl rfl rfl <| dp_td0 rfl (opT_store1s rfl rfl rfl (by rw [rows_length]; exact row_lt hhn hm)) rfl rfl rfl rfl rfl <| dp_done0 <| ?_
                    rw [out_set hm]
                    subst heq
                    refine en_then <| en_seq <| en_region <| en_det (opT_assign rfl) rfl <| en_nil <| en_then <| en_ret <| en_blk_ret <| en_then_ret <| en_then_ret <| en_blk_ret <| en_blk_ret <| en_then_ret <| en_then_ret <| en_blk_ret <| en_then_ret <| ?_
                    refine en_return (rs := [.tmp 8]) rfl (.cons (.tmp rfl) .nil) (.refl _) (t := tkAll _) ⟨rfl, rfl⟩
                  | false =>
                    rw [hb'] at cR
                    rw [hb'] at heq1
                    simp only [Bool.false_eq_true, if_false] at heq1
                    have hu2 := Nat.lt_of_le_of_lt (unseen_mono hg.mono) hu1
                    have ok2 := hg.ok
                    generalize (rec o S1).2 = S2 at cR heq1 ok2 hu2
                    refine en_skip <| en_then <| en_seq <| en_block <| en_seq <| en_region <| en_det (opT_move rfl) rfl <| en_det (opT_assign rfl) rfl <| en_nil <| en_then <| en_seq <| en_region <| en_det (opT_move rfl) rfl <| en_det (opT_move rfl) rfl <| en_det (opT_neq_t rfl rfl (by omega)) rfl <| en_det (opT_move rfl) rfl <| en_g_yes rfl rfl <| ?_
                    first | refine en_det (opT_desk0 rfl) rfl ?_ | refine en_det (opT_desk1 rfl) rfl ?_ | refine en_det (opT_load_h rfl (by assumption)) rfl ?_ | refine en_det (opT_load_own rfl rfl) rfl ?_
                    refine en_g_yes rfl rfl <| en_det (opT_move rfl) rfl <| en_g_yes rfl rfl <| en_det (opT_move rfl) rfl <| en_g_yes rfl rfl <| ?_
                    first | refine en_det (opT_idx1 rfl rfl (by omega) (by omega)) rfl ?_ | refine en_det (opT_idx (ks := 0) rfl rfl (by omega) (by omega)) rfl ?_
                    refine en_g_yes rfl rfl <| en_det (opT_idxArr rfl rfl (by omega) (by omega)) rfl <| en_g_yes rfl rfl <| en_det (opT_load_own rfl (out_get hhn hol)) rfl <| en_g_yes rfl rfl <| en_det (opT_gtr_t rfl rfl (by omega)) rfl <| ?_
                    first | refine en_det (opT_pick_t rfl rfl) rfl ?_ | refine en_det (opT_pick_f rfl rfl) rfl ?_
                    refine en_det (opT_move rfl) rfl <| en_g_yes rfl rfl <| ?_
                    first | refine en_det (opT_desk0 rfl) rfl ?_ | refine en_det (opT_desk1 rfl) rfl ?_ | refine en_det (opT_load_h rfl (by assumption)) rfl ?_ | refine en_det (opT_load_own rfl rfl) rfl ?_
                    refine en_g_yes rfl rfl <| en_det (opT_move rfl) rfl <| en_g_yes rfl rfl <| en_det (opT_callg (cR) rfl rfl rfl) rfl <| ?_
                    first | refine en_det (opT_pick_t rfl rfl) rfl ?_ | refine en_det (opT_pick_f rfl rfl) rfl ?_
                    refine en_nil <| en_then <| en_cond_f rfl <| en_skip <| en_blk <| en_then <| en_region <| en_det (opT_add rfl rfl (by constructor <;> omega)) rfl <| en_det (opT_move rfl) rfl <| en_nil <| en_then <| ?_
                    exact en_again (o + 1, S2) ⟨by simp only; omega, ok2, hu2, heq1⟩ (by simp only; omega) ⟨rfl, rfl, rfl, rfl, rfl, rfl, rfl, rfl, rfl, rfl, rfl, gi rfl (by simp), trivial⟩ (.refl _) (tkAll _)
                · have hneg : ¬ (o ≠ m ∧ 0 < S1.out hd o) := fun hx => hpo hx.2
                  rw [if_neg hneg] at heq1
                  refine en_skip <| en_then <| en_seq <| en_block <| en_seq <| en_region <| en_det (opT_move rfl) rfl <| en_det (opT_assign rfl) rfl <| en_nil <| en_then <| en_seq <| en_region <| en_det (opT_move rfl) rfl <| en_det (opT_move rfl) rfl <| en_det (opT_neq_t rfl rfl (by omega)) rfl <| en_det (opT_move rfl) rfl <| en_g_yes rfl rfl <| ?_
                  first | refine en_det (opT_desk0 rfl) rfl ?_ | refine en_det (opT_desk1 rfl) rfl ?_ | refine en_det (opT_load_h rfl (by assumption)) rfl ?_ | refine en_det (opT_load_own rfl rfl) rfl ?_
                  refine en_g_yes rfl rfl <| en_det (opT_move rfl) rfl <| en_g_yes rfl rfl <| en_det (opT_move rfl) rfl <| en_g_yes rfl rfl <| ?_
                  first | refine en_det (opT_idx1 rfl rfl (by omega) (by omega)) rfl ?_ | refine en_det (opT_idx (ks := 0) rfl rfl (by omega) (by omega)) rfl ?_
                  refine en_g_yes rfl rfl <| en_det (opT_idxArr rfl rfl (by omega) (by omega)) rfl <| en_g_yes rfl rfl <| en_det (opT_load_own rfl (out_get hhn hol)) rfl <| en_g_yes rfl rfl <| en_det (opT_gtr_f rfl rfl (by omega)) rfl <| ?_
                  first | refine en_det (opT_pick_t rfl rfl) rfl ?_ | refine en_det (opT_pick_f rfl rfl) rfl ?_
                  refine en_det (opT_move rfl) rfl <| en_g_no rfl rfl rfl <| en_g_no rfl rfl rfl <| en_g_no rfl rfl rfl <| ?_
                  first | refine en_det (opT_pick_t rfl rfl) rfl ?_ | refine en_det (opT_pick_f rfl rfl) rfl ?_
                  refine en_nil <| en_then <| en_cond_f rfl <| en_skip <| en_blk <| en_then <| en_region <| en_det (opT_add rfl rfl (by constructor <;> omega)) rfl <| en_det (opT_move rfl) rfl <| en_nil <| en_then <| ?_
                  exact en_again (o + 1, S1) ⟨by simp only; omega, ok1, hu1, heq1⟩ (by simp only; omega) ⟨rfl, rfl, rfl, rfl, rfl, rfl, rfl, rfl, rfl, rfl, rfl, gi rfl (by simp), trivial⟩ (.refl _) (tkAll _)
            · skip
              obtain rfl : o = 5 := by omega
              simp only [show (List.range 5).drop 5 = [] from rfl, giveO] at heq1
              subst heq1
              simp only [Bool.false_eq_true, if_false] at heq
              refine en_exit <| en_then_exit <| en_then_exit <| en_blk_hit <| en_blk <| en_then <| en_region <| en_det (opT_add rfl rfl (by constructor <;> omega)) rfl <| en_det (opT_move rfl) rfl <| en_nil <| en_then <| ?_
              exact en_again (i + 1, S1) ⟨by simp only; omega, ok1, by simp only; omega, heq⟩ (by simp only; omega) ⟨rfl, rfl, rfl, rfl, rfl, rfl, rfl, rfl, rfl, gi rfl (by simp), trivial⟩ (.refl _) (tkAll _)
    · skip
      obtain rfl : i = hands.length := by omega
      simp only [List.drop_length, giveH] at heq
      subst heq
      refine en_exit <| en_then_exit <| en_then_exit <| en_blk_hit <| en_then <| en_seq <| en_region <| en_det (opT_assign rfl) rfl <| en_nil <| en_then <| en_ret <| ?_
      refine en_return (rs := [.tmp 8]) rfl (.cons (.tmp rfl) .nil) (.refl _) (t := tkAll _) ⟨rfl, rfl⟩
end Go.Sx

/- A sharing, in plain words. -/
namespace Go.Sx

def noneS : Nat → Bool := fun _ => false
section
variable (takes : Nat → Nat → Bool) (force : Nat → Int) (hands : List Nat)
def give1 (m : Nat) (out : Nat → Nat → Int) : Bool × GS := giveD takes force hands 6 m ⟨out, noneS⟩
/-- Piece by piece, as long as there is one and a hand for it. -/
def pour (m : Nat) : Nat → (Nat → Nat → Int) → (Nat → Nat → Int) × Nat
  | 0, out => (out, 0)
  | l + 1, out => if (give1 takes force hands m out).1 = true then pour m l (give1 takes force hands m out).2.out else (out, l + 1)
def leftU (left : Nat → Nat) (m l : Nat) : Nat → Nat := fun j => if j = m then l else left j
def shareS (w0 : Nat → Nat) : Nat → (Nat → Nat → Int) × (Nat → Nat)
  | 0 => (fun _ _ => 0, w0)
  | m + 1 => ((pour takes force hands m ((shareS w0 m).2 m) (shareS w0 m).1).1, leftU (shareS w0 m).2 m (pour takes force hands m ((shareS w0 m).2 m) (shareS w0 m).1).2)
end
def addBit (p : Nat → Bool) (s o : Nat) : Nat := if p o = true then s ||| (1 <<< o) else s
def bitsP (p : Nat → Bool) (k s : Nat) : Nat := (List.range k).foldl (addBit p) s
def heldH (takes : Nat → Nat → Bool) (out : Nat → Nat → Int) (h : Nat) (l : List Nat) (s : Nat) : Nat := l.foldl (fun s m => if takes h m = true then bitsP (fun o => decide (0 < out h o)) 5 s else s) s
def heldR (takes : Nat → Nat → Bool) (out : Nat → Nat → Int) (was : Nat) (hs : List Nat) (s : Nat) : Nat := hs.foldl (fun s h => heldH takes out h (setL was) s) s
def heldL (takes : Nat → Nat → Bool) (out : Nat → Nat → Int) (hands : List Nat) : Nat → Nat → Nat
  | 0, s => s
  | n + 1, s => if heldR takes out s hands s = s then s else heldL takes out hands n (heldR takes out s hands s)
def heldD (takes : Nat → Nat → Bool) (out : Nat → Nat → Int) (hands : List Nat) (left : Nat → Nat) : Nat := heldL takes out hands 32 (bitsP (fun m => decide (0 < left m)) 5 0)

theorem or_lt {s o : Nat} (hs : s < 32) (ho : o < 5) : s ||| (1 <<< o) < 32 := (bit_or ⟨s, hs⟩ ⟨o, ho⟩).2
theorem or_ge (s x : Nat) : s ≤ s ||| x := Nat.left_le_or
theorem addBit_ge (p : Nat → Bool) (s o : Nat) : s ≤ addBit p s o := by unfold addBit; split; exact or_ge _ _; exact Nat.le_refl _
theorem addBit_lt {p : Nat → Bool} {s o : Nat} (hs : s < 32) (ho : o < 5) : addBit p s o < 32 := by unfold addBit; split; exact or_lt hs ho; exact hs
theorem bitsP_succ (p : Nat → Bool) (k s : Nat) : bitsP p (k + 1) s = addBit p (bitsP p k s) k := by simp [bitsP, List.range_succ, List.foldl_append]
theorem bitsP_ge (p : Nat → Bool) (k s : Nat) : s ≤ bitsP p k s := by
  induction k with
  | zero => exact Nat.le_refl _
  | succ k ih => rw [bitsP_succ]; exact Nat.le_trans ih (addBit_ge _ _ _)
theorem bitsP_lt {p : Nat → Bool} {k s : Nat} (hk : k ≤ 5) (hs : s < 32) : bitsP p k s < 32 := by
  induction k with
  | zero => exact hs
  | succ k ih => rw [bitsP_succ]; exact addBit_lt (ih (by omega)) (by omega)
theorem heldH_rng {takes : Nat → Nat → Bool} {out : Nat → Nat → Int} {h : Nat} : ∀ {l : List Nat} {s : Nat}, s < 32 → heldH takes out h l s < 32 ∧ s ≤ heldH takes out h l s
  | [], s, hs => ⟨hs, Nat.le_refl _⟩
  | m :: l, s, hs => by
    unfold heldH; rw [List.foldl_cons]
    split
    · have := heldH_rng (takes := takes) (out := out) (h := h) (l := l) (bitsP_lt (p := fun o => decide (0 < out h o)) (k := 5) (Nat.le_refl _) hs)
      exact ⟨this.1, Nat.le_trans (bitsP_ge _ _ _) this.2⟩
    · exact heldH_rng (l := l) hs
theorem heldR_rng {takes : Nat → Nat → Bool} {out : Nat → Nat → Int} {was : Nat} : ∀ {l : List Nat} {s : Nat}, s < 32 → heldR takes out was l s < 32 ∧ s ≤ heldR takes out was l s
  | [], s, hs => ⟨hs, Nat.le_refl _⟩
  | h :: l, s, hs => by
    unfold heldR; rw [List.foldl_cons]
    have h1 := heldH_rng (takes := takes) (out := out) (h := h) (l := setL was) hs
    have h2 := heldR_rng (takes := takes) (out := out) (was := was) (l := l) h1.1
    exact ⟨h2.1, Nat.le_trans h1.2 h2.2⟩

theorem leftU_self (l : Nat → Nat) (m : Nat) : leftU l m (l m) = l := by funext j; unfold leftU; split <;> simp_all
section
variable {nh : Nat} {takes : Nat → Nat → Bool} {force : Nat → Int} {hands : List Nat}
theorem give1_ok (h5 : nh ≤ 5) (hlt : ∀ h ∈ hands, h < nh) {m : Nat} (hm : m < 5) {out : Nat → Nat → Int} (ok : OutOK nh takes force out) : GOut nh takes force hands 6 m ⟨out, noneS⟩ (give1 takes force hands m out).1 (give1 takes force hands m out).2 :=
  giveD_ok h5 hlt 6 m ⟨out, noneS⟩ hm ok
theorem pour_ok (h5 : nh ≤ 5) (hlt : ∀ h ∈ hands, h < nh) {m : Nat} (hm : m < 5) : ∀ (l : Nat) (out : Nat → Nat → Int), OutOK nh takes force out → OutOK nh takes force (pour takes force hands m l out).1 ∧ (pour takes force hands m l out).2 ≤ l
  | 0, out, ok => ⟨ok, Nat.le_refl _⟩
  | l + 1, out, ok => by
    have hg := give1_ok h5 hlt hm ok
    unfold pour
    split
    · have := pour_ok h5 hlt hm l _ hg.ok
      exact ⟨this.1, by omega⟩
    · exact ⟨ok, Nat.le_refl _⟩
theorem out_zero (hf : ∀ h, h < nh → 0 ≤ force h) : OutOK nh takes force (fun _ _ => 0) :=
  ⟨fun _ _ _ _ => Int.le_refl _, fun h hh => by rw [sum5_eq]; simpa using hf h hh, fun _ _ _ _ hp => by omega⟩
theorem shareS_ok (h5 : nh ≤ 5) (hlt : ∀ h ∈ hands, h < nh) (hf : ∀ h, h < nh → 0 ≤ force h) (w0 : Nat → Nat) : ∀ k, k ≤ 5 → OutOK nh takes force (shareS takes force hands w0 k).1 ∧ ∀ j, (shareS takes force hands w0 k).2 j ≤ w0 j
  | 0, _ => ⟨out_zero hf, fun _ => Nat.le_refl _⟩
  | k + 1, hk => by
    obtain ⟨h1, h2⟩ := shareS_ok h5 hlt hf w0 k (by omega)
    have h3 := pour_ok h5 hlt (show k < 5 by omega) ((shareS takes force hands w0 k).2 k) _ h1
    refine ⟨h3.1, fun j => ?_⟩
    show leftU _ k _ j ≤ w0 j
    unfold leftU
    split
    · rename_i e; subst e; exact Nat.le_trans h3.2 (h2 _)
    · exact h2 j
end

theorem heldR_zero (takes : Nat → Nat → Bool) (out : Nat → Nat → Int) : ∀ hs : List Nat, heldR takes out 0 hs 0 = 0
  | [] => rfl
  | h :: hs => by
    unfold heldR; rw [List.foldl_cons]
    have : heldH takes out h (setL 0) 0 = 0 := by
      have : setL 0 = [] := by decide
      rw [this]; rfl
    rw [this]; exact heldR_zero takes out hs
theorem heldL_zero (takes : Nat → Nat → Bool) (out : Nat → Nat → Int) (hs : List Nat) : ∀ n, heldL takes out hs n 0 = 0
  | 0 => rfl
  | n + 1 => by unfold heldL; rw [heldR_zero, if_pos rfl]
theorem heldH_append (takes : Nat → Nat → Bool) (out : Nat → Nat → Int) (h : Nat) (l : List Nat) (m s : Nat) : heldH takes out h (l ++ [m]) s = if takes h m = true then bitsP (fun o => decide (0 < out h o)) 5 (heldH takes out h l s) else heldH takes out h l s := by
  simp [heldH, List.foldl_append]
theorem heldR_append (takes : Nat → Nat → Bool) (out : Nat → Nat → Int) (was : Nat) (l : List Nat) (h s : Nat) : heldR takes out was (l ++ [h]) s = heldH takes out h (setL was) (heldR takes out was l s) := by
  simp [heldR, List.foldl_append]
end Go.Sx
