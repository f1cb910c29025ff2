/-
  Plain lemmas: what the functions hand back, and that the statement holds of it. Conditions: those of each theorem.
-/
import Derived.Test.YtmlgfaojfmkdnaaCFnExactFindOfKind6
namespace Go.Proofs.Ytmlgfaojfmkdnaa.E
open Go Go.Proofs
set_option maxRecDepth 100000
set_option linter.unusedVariables false
set_option linter.unusedSimpArgs false
variable {K : Nat} {R : Type}
theorem w64 {x : Int} (h1 : -9223372036854775808 ≤ x) (h2 : x < 9223372036854775808) : IntKind.i64.wrap x = x := by
  simp only [IntKind.wrap, IntKind.bits, IntKind.signed, Bool.true_and]
  simp only [show (2 : Int) ^ 64 = 18446744073709551616 from rfl, show (2 : Int) ^ (64 - 1) = 9223372036854775808 from rfl]
  split <;> rename_i h <;> simp only [decide_eq_true_eq] at h <;> omega
theorem w64n {n : Nat} (h : n < 9223372036854775808) : IntKind.i64.wrap (n : Int) = (n : Int) := w64 (by omega) (by omega)
theorem w64s {n : Nat} (h : n + 1 < 9223372036854775808) : IntKind.i64.wrap ((n : Int) + 1) = ((n + 1 : Nat) : Int) := by rw [w64 (by omega) (by omega)]; rfl
theorem w64m1 {n : Nat} (h : n < 9223372036854775808) : IntKind.i64.wrap ((n : Int) - 1) = (n : Int) - 1 := w64 (by omega) (by omega)
theorem u64n {n : Nat} (h : n < 18446744073709551616) : IntKind.u64.wrap (n : Int) = (n : Int) := by
  simp only [IntKind.wrap, IntKind.bits, IntKind.signed, Bool.false_and, Bool.false_eq_true, if_false]
  simp only [show (2 : Int) ^ 64 = 18446744073709551616 from rfl]
  omega
theorem u64_ge (x : Int) : 0 ≤ IntKind.u64.wrap x := by
  simp only [IntKind.wrap, IntKind.bits, IntKind.signed, Bool.false_and, Bool.false_eq_true, if_false]
  exact Int.emod_nonneg _ (by decide)
theorem u64_dec (x : Int) : decide ((0 : Int) ≤ IntKind.u64.wrap x) = true := decide_eq_true (u64_ge x)
theorem bnds_t {i n : Int} (h0 : 0 ≤ i) (h : i < n) : bnds i n = true := by simp [bnds, h0, h]
theorem bnds_n {i n : Nat} (h : i < n) : bnds (i : Int) (n : Int) = true := bnds_t (by omega) (by omega)
theorem nn (n : Nat) : decide ((0 : Int) ≤ (n : Int)) = true := decide_eq_true (by omega)
theorem emod2n (x : Nat) : ((x : Int) % 18446744073709551616).toNat = x % 18446744073709551616 := by omega
theorem bitI_and {a b : Nat} (ha : a < 9223372036854775808) (hb : b < 9223372036854775808) : bitI .and .i64 (a : Int) (b : Int) = ((a &&& b : Nat) : Int) := by
  have h : a &&& b ≤ a := Nat.and_le_left
  show IntKind.i64.wrap (((BitVec.ofInt 64 (a : Int) &&& BitVec.ofInt 64 (b : Int) : BitVec 64).toNat : Nat) : Int) = _
  simp only [BitVec.toNat_and, BitVec.toNat_ofInt]
  simp only [show ((2 ^ 64 : Nat) : Int) = 18446744073709551616 from rfl, emod2n]
  rw [Nat.mod_eq_of_lt (by omega), Nat.mod_eq_of_lt (by omega), w64n (by omega)]
theorem bitI_or {a b : Nat} (ha : a < 9223372036854775808) (hb : b < 9223372036854775808) : bitI .or .i64 (a : Int) (b : Int) = ((a ||| b : Nat) : Int) := by
  have h : a ||| b < 9223372036854775808 := Nat.or_lt_two_pow (n := 63) ha hb
  show IntKind.i64.wrap (((BitVec.ofInt 64 (a : Int) ||| BitVec.ofInt 64 (b : Int) : BitVec 64).toNat : Nat) : Int) = _
  simp only [BitVec.toNat_or, BitVec.toNat_ofInt]
  simp only [show ((2 ^ 64 : Nat) : Int) = 18446744073709551616 from rfl, emod2n]
  rw [Nat.mod_eq_of_lt (by omega), Nat.mod_eq_of_lt (by omega), w64n (by omega)]
theorem shrI_n (a j : Nat) (ha : a < 9223372036854775808) : shrI .i64 (a : Int) (j : Int) = ((a >>> j : Nat) : Int) := by
  simp only [shrI, IntKind.bits, Int.toNat_natCast, Nat.shiftRight_eq_div_pow]
  have : (2 : Int) ^ min j 64 = ((2 ^ min j 64 : Nat) : Int) := by simp
  rw [this, Int.fdiv_eq_ediv_of_nonneg _ (Int.natCast_nonneg _), ← Int.natCast_ediv]
  by_cases h : j ≤ 64
  · rw [Nat.min_eq_left h]
  · rw [Nat.min_eq_right (by omega), Nat.div_eq_of_lt (by omega), Nat.div_eq_of_lt]
    exact Nat.lt_of_lt_of_le ha (Nat.le_trans (show 9223372036854775808 ≤ 2 ^ 64 by decide) (Nat.pow_le_pow_right (by decide) (by omega)))
theorem shlI_n (a j : Nat) (h : a * 2 ^ j < 9223372036854775808) : shlI .i64 (a : Int) (j : Int) = ((a * 2 ^ j : Nat) : Int) := by
  simp only [shlI, IntKind.bits, Int.toNat_natCast]
  by_cases hj : j ≤ 64
  · rw [Nat.min_eq_left hj, ← w64n h]; congr 1
  · have ha : a = 0 := by
      rcases Nat.eq_zero_or_pos a with h0 | h0
      · exact h0
      · have := Nat.mul_le_mul_right (2 ^ j) h0
        have h2 : 2 ^ 64 ≤ 2 ^ j := Nat.pow_le_pow_right (by decide) (by omega)
        have : (18446744073709551616 : Nat) ≤ 2 ^ j := h2
        omega
    subst ha
    have := w64n (n := 0) (by decide)
    simpa using this
theorem shl1 {j : Nat} (h : j < 63) : shlI .i64 (1 : Int) (j : Int) = ((2 ^ j : Nat) : Int) := by
  have h2 : 2 ^ j < 2 ^ 63 := Nat.pow_lt_pow_right (by decide) h
  have := shlI_n 1 j (by simpa using h2)
  simpa using this
/-- A digit of a number. -/
def bt (b j : Nat) : Int := if b.testBit j then 1 else 0
theorem bt_eq (b j : Nat) : bt b j = (((b >>> j) &&& 1 : Nat) : Int) := by
  unfold bt
  rw [Nat.and_one_is_mod, Nat.shiftRight_eq_div_pow]
  have := Nat.testBit_eq_decide_div_mod_eq (x := b) (i := j)
  rw [this]
  have h2 := Nat.mod_lt (b / 2 ^ j) (show 0 < 2 by decide)
  split <;> rename_i h <;> simp only [decide_eq_true_eq] at h <;> omega
theorem bitI_bt {b : Nat} (j : Nat) (hb : b < 9223372036854775808) : bitI .and .i64 (shrI .i64 (b : Int) (j : Int)) (1 : Int) = bt b j := by
  rw [shrI_n b j hb, show (1 : Int) = ((1 : Nat) : Int) from rfl, bitI_and ?_ (by decide), bt_eq]
  rw [Nat.shiftRight_eq_div_pow]; exact Nat.lt_of_le_of_lt (Nat.div_le_self _ _) hb
def mkB (g : Nat → Bool) : Nat → Nat
  | 0 => 0
  | n + 1 => mkB g n + (if g n then 2 ^ n else 0)
theorem mkB_lt (g : Nat → Bool) : ∀ n, mkB g n < 2 ^ n
  | 0 => by simp [mkB]
  | n + 1 => by
    have := mkB_lt g n
    rw [mkB, Nat.pow_succ]; split <;> omega
theorem or_pow {x n : Nat} (h : x < 2 ^ n) : x ||| 2 ^ n = x + 2 ^ n := by
  have := Nat.two_pow_add_eq_or_of_lt h 1
  rw [Nat.or_comm, Nat.add_comm]
  simpa using this.symm
theorem getD_mid {α : Type} (p r : List α) (y d : α) : (p ++ y :: r).getD p.length d = y := by
  simp [List.getD]
theorem getD_midI {α : Type} (p r : List α) (y d : α) : (p ++ y :: r).getD ((p.length : Int)).toNat d = y := by
  rw [Int.toNat_natCast]; exact getD_mid p r y d
theorem len_mid {α : Type} (p r : List α) (y : α) : p.length < (p ++ y :: r).length := by simp
theorem mid_app {α : Type} (p r : List α) (y : α) : p ++ y :: r = (p ++ [y]) ++ r := by simp
theorem snoc_len {α : Type} (p : List α) (y : α) : (p ++ [y]).length = p.length + 1 := by simp
theorem ite_t {c : Bool} {α : Type} {a b : α} (h : c = true) : (if c = true then a else b) = a := if_pos h
theorem ite_f {c : Bool} {α : Type} {a b : α} (h : c = false) : (if c = true then a else b) = b := if_neg (by rw [h]; decide)
theorem some_bind' {α β : Type} (a : α) (f : α → Option β) : (some a).bind f = f a := rfl
abbrev DF := Int × Int × Unit
theorem i_within_eq (a b c : Int) : i_within K (a, b, c, ()) = some (decide (b ≤ a) && decide (a ≤ c)) := by
  simp only [i_within]
  by_cases h : b ≤ a
  · rw [if_pos (decide_eq_true h)]; simp [h]
  · rw [if_neg (by simpa using h)]; simp [h]
theorem s_l01In_eq (a b c : Int) : s_l01In K (a, b, c, ()) = some (decide (b ≤ a) && decide (a ≤ c)) := by
  simp only [s_l01In]
  by_cases h : b ≤ a
  · rw [if_pos (decide_eq_true h)]; simp [h]
  · rw [if_neg (by simpa using h)]; simp [h]
theorem i_rowsOf_eq {n : Nat} (h : n < 63) : i_rowsOf K ((n : Int), ()) = some ((2 ^ n : Nat) : Int) := by
  simp only [i_rowsOf]; rw [if_pos (nn n), shl1 h]
theorem s_l01Rows_eq {n : Nat} (h : n < 63) : s_l01Rows K ((n : Int), ()) = some ((2 ^ n : Nat) : Int) := by
  simp only [s_l01Rows]; rw [if_pos (u64_dec _), u64n (by omega), shl1 h]
theorem pw4 {n : Nat} (h : n ≤ 4) : 2 ^ n ≤ 16 := Nat.pow_le_pow_right (by decide) h
theorem ppw4 {n : Nat} (h : n ≤ 4) : 2 ^ 2 ^ n ≤ 65536 := Nat.pow_le_pow_right (by decide) (pw4 h)
theorem i_funcsOf_eq {n : Nat} (h : n ≤ 4) : i_funcsOf K ((n : Int), ()) = some ((2 ^ 2 ^ n : Nat) : Int) := by
  have h4 := pw4 h
  simp only [i_funcsOf, i_rowsOf_eq (show n < 63 by omega), some_bind']
  rw [if_pos (nn _), shl1 (by omega)]
theorem s_l01All_eq {n : Nat} (h : n ≤ 4) : s_l01All K ((n : Int), ()) = some ((2 ^ 2 ^ n : Nat) - 1 : Int) := by
  have h4 := pw4 h
  have h5 := ppw4 h
  simp only [s_l01All, s_l01Rows_eq (show n < 63 by omega), some_bind']
  rw [if_pos (u64_dec _), u64n (by omega), shl1 (by omega), w64m1 (by omega)]
/-- What is a function, or a relation with as many places. -/
def isF (lo : Int) (f : DF) : Bool := decide (lo ≤ f.1) && decide (f.1 ≤ 4) && decide (0 ≤ f.2.1) && decide (f.2.1 < ((2 ^ 2 ^ f.1.toNat : Nat) : Int))
theorem isF_nat {lo : Int} {f : DF} (h : isF lo f = true) (hl : 0 ≤ lo) : ∃ n b : Nat, f = ((n : Int), (b : Int), ()) ∧ n ≤ 4 ∧ b < 2 ^ 2 ^ n ∧ lo ≤ n := by
  obtain ⟨a, c, u⟩ := f
  simp only [isF, Bool.and_eq_true, decide_eq_true_eq] at h
  refine ⟨a.toNat, c.toNat, ?_, by omega, by have := h.2; omega, by omega⟩
  rw [Int.toNat_of_nonneg (by omega), Int.toNat_of_nonneg (by omega)]
theorem isF_range {lo : Int} (hl : 0 ≤ lo) {a c : Int} {u : Unit} (h : lo ≤ a ∧ a ≤ 4) : (decide ((0 : Int) ≤ c) && decide (c ≤ ((2 ^ 2 ^ a.toNat : Nat) : Int) - 1)) = isF lo (a, c, u) := by
  simp only [isF, h.1, h.2, decide_true, Bool.true_and]
  congr 1
  apply decide_eq_decide.2; omega
theorem isF_out {lo : Int} {a c : Int} {u : Unit} (h : ¬ (lo ≤ a ∧ a ≤ 4)) : isF lo (a, c, u) = false := by
  simp only [isF, Bool.and_eq_false_iff, decide_eq_false_iff_not]; omega
theorem and_dec {a b : Prop} [Decidable a] [Decidable b] : ((decide a && decide b) = true) ↔ (a ∧ b) := by simp
theorem i_IsFunc_eq (f : DF) : i_IsFunc K (f, ()) = some (isF 0 f) := by
  obtain ⟨a, c, u⟩ := f
  simp only [i_IsFunc, i_isArity, i_within_eq, some_bind']
  by_cases h : 0 ≤ a ∧ a ≤ 4
  · obtain ⟨n, rfl⟩ := Int.eq_ofNat_of_zero_le h.1
    rw [if_pos (and_dec.2 h), i_funcsOf_eq (by omega), some_bind']
    have h5 := ppw4 (show n ≤ 4 by omega)
    rw [w64m1 (by omega)]
    have := isF_range (lo := 0) (by decide) (c := c) (u := u) h
    rw [Int.toNat_natCast] at this
    rw [this]
  · rw [if_neg (fun e => h (and_dec.1 e)), isF_out h]
theorem i_bit_eq {b : Nat} (j : Nat) (h : b < 9223372036854775808) : i_bit K ((b : Int), (j : Int), ()) = some (bt b j) := by
  simp only [i_bit]; rw [if_pos (nn j), bitI_bt j h]
theorem i_Func_at_eq {n : Int} {b : Nat} (j : Nat) (h : b < 9223372036854775808) : i_Func_at K ((n, (b : Int), ()), (j : Int), ()) = some (bt b j) := by
  simp only [i_Func_at, i_bit_eq j h]; rfl
theorem s_l01At_eq {n : Int} {b j : Nat} (h : b < 9223372036854775808) (hj : j < 9223372036854775808) : s_l01At K ((n, (b : Int), ()), (j : Int), ()) = some (bt b j) := by
  simp only [s_l01At]; rw [if_pos (u64_dec _), u64n (by omega), bitI_bt j h]
theorem lt_len {α : Type} {p r : List α} {y : α} : decide ((p.length : Int) < ((p ++ y :: r).length : Int)) = true := decide_eq_true (by simp; omega)
theorem nlt_len {α : Type} {p : List α} : decide ((p.length : Int) < ((p ++ []).length : Int)) = false := decide_eq_false (by simp)
theorem bnds_mid {α : Type} {p r : List α} {y : α} : bnds (p.length : Int) ((p ++ y :: r).length : Int) = true := bnds_n (len_mid p r y)
theorem next_i {α : Type} {p r : List α} {y : α} (h : (p ++ y :: r).length < 4611686018427387904) : IntKind.i64.wrap ((p.length : Int) + 1) = (((p ++ [y]).length : Nat) : Int) := by
  rw [snoc_len]; refine w64s ?_
  have := len_mid p r y; omega
def dg (b : Bool) (n : Nat) : Nat := if b = true then 2 ^ n else 0
theorem dg_le (b : Bool) (n : Nat) : dg b n ≤ 2 ^ n := by unfold dg; split <;> simp
theorem mkB_succ (g : Nat → Bool) (n : Nat) : mkB g (n + 1) = mkB g n + dg (g n) n := rfl
theorem shl_bt {a j n : Nat} (hn : n < 62) : shlI .i64 (bt a j) (n : Int) = ((dg (a.testBit j) n : Nat) : Int) := by
  unfold bt dg
  cases a.testBit j
  · have := shlI_n 0 n (by simp)
    simpa using this
  · rw [if_pos rfl, if_pos rfl, shl1 (by omega)]
theorem lt62 {n : Nat} (hn : n < 62) : 2 ^ (n + 1) ≤ 4611686018427387904 := Nat.le_trans (Nat.pow_le_pow_right (by decide) (show n + 1 ≤ 62 by omega)) (by decide)
theorem or_dg {x n : Nat} (hx : x < 2 ^ n) (hn : n < 62) (b : Bool) : bitI .or .i64 (x : Int) ((dg b n : Nat) : Int) = ((x + dg b n : Nat) : Int) := by
  have h2 := lt62 hn
  have h3 := Nat.pow_succ 2 n
  have h4 := dg_le b n
  rw [bitI_or (by omega) (by omega)]
  congr 1
  unfold dg; cases b
  · simp
  · rw [if_pos rfl, or_pow hx]
theorem and_decF {a b : Prop} [Decidable a] [Decidable b] (h : ¬ (a ∧ b)) : (decide a && decide b) = false := by
  cases hb : (decide a && decide b); rfl; exact absurd (and_dec.1 hb) h
theorem shl_b1 {b : Bool} {n : Nat} (hn : n < 62) : shlI .i64 (if b = true then 1 else 0) (n : Int) = ((dg b n : Nat) : Int) := by
  unfold dg
  cases b
  · have := shlI_n 0 n (by simp)
    simpa using this
  · rw [if_pos rfl, if_pos rfl, shl1 (by omega)]
theorem funcBy_l (g : Nat → Bool) (f : Int × Unit → Option Int) (N : Nat) (hN : N ≤ 16) (hf : ∀ j : Nat, j < N → f ((j : Int), ()) = some (if g j = true then 1 else 0)) (v4 : DF) (a : Int) (kx : DF → DF → Option R) : ∀ (m i k : Nat), i + m = N → m < k →
    i_funcBy_l3 K k f v4 (a, ((mkB g i : Nat) : Int), ()) (N : Int) (i : Int) kx = kx v4 (a, ((mkB g N : Nat) : Int), ())
  | 0, i, k + 1, e, _ => by
    obtain rfl : i = N := by omega
    simp only [i_funcBy_l3]; rw [ite_f (decide_eq_false (by omega))]
  | m + 1, i, k + 1, e, hk => by
    have ih := funcBy_l g f N hN hf v4 a kx m (i + 1) k (by omega) (by omega)
    rw [mkB_succ] at ih
    simp only [i_funcBy_l3]
    rw [ite_t (decide_eq_true (by omega)), hf i (by omega), some_bind', ite_t (nn _), shl_b1 (by omega), or_dg (mkB_lt _ _) (by omega), w64s (by omega), ih]
theorem i_funcBy_eq (g : Nat → Bool) {f : Int × Unit → Option Int} {n : Nat} (hn : n ≤ 4) (hf : ∀ j : Nat, j < 2 ^ n → f ((j : Int), ()) = some (if g j = true then 1 else 0)) (hK : 4611686018427387904 ≤ K) : i_funcBy K ((n : Int), f, ()) = some ((n : Int), ((mkB g (2 ^ n) : Nat) : Int), ()) := by
  have hp := pw4 hn
  simp only [i_funcBy, i_rowsOf_eq (show n < 63 by omega), some_bind']
  have := funcBy_l (K := K) g f (2 ^ n) hp hf ((0 : Int), (0 : Int), ()) (n : Int) (fun z3 z4 => some z4) (2 ^ n) 0 K (by omega) (by omega)
  simp only [mkB] at this
  rw [show ((0 : Nat) : Int) = 0 from rfl] at this
  exact this
theorem s_l01Is_eq (f : DF) : s_l01Is K (f, ()) = some (isF 0 f) := by
  obtain ⟨a, b, u⟩ := f
  simp only [s_l01Is, s_l01In_eq, some_bind']
  by_cases h : 0 ≤ a ∧ a ≤ 4
  · obtain ⟨n, rfl⟩ : ∃ n : Nat, a = n := ⟨a.toNat, by omega⟩
    have hn : n ≤ 4 := by omega
    rw [decide_eq_true h.1, decide_eq_true h.2]
    show (s_l01All K ((n : Int), ())).bind _ = _
    rw [s_l01All_eq hn, some_bind', ← isF_range (Int.le_refl 0) h, Int.toNat_natCast]
  · rw [and_decF h, if_neg (by decide), isF_out h]
/-- Numbers of at least 0 as whole numbers. -/
def up (l : List Nat) : List Int := l.map (fun x : Nat => ((x : Nat) : Int))
theorem up_len (l : List Nat) : (up l).length = l.length := by simp [up]
theorem ite_not {c : Bool} {α : Type} {a b : α} : (if (!c) = true then a else b) = if c = true then b else a := by cases c <;> rfl
theorem lpLA {α : Type} {L : Nat → Int → Option R} {g : α → Bool} {l : List α} {B : Nat} {kx kf : Option R} (stop : ∀ k, L (k + 1) (l.length : Int) = kx)
    (step : ∀ k p y r, l = p ++ y :: r → B ≤ k → L (k + 1) (p.length : Int) = if g y = true then L k ((p ++ [y]).length : Int) else kf) :
    ∀ (r p : List α) (k : Nat), l = p ++ r → B + r.length < k → L k (p.length : Int) = if r.all g = true then kx else kf
  | _, _, 0, _, h => by omega
  | [], p, k + 1, e, h => by
    rw [List.append_nil] at e; subst e; rw [stop]; rfl
  | y :: r, p, k + 1, e, h => by
    rw [List.length_cons] at h
    rw [step k p y r e (by omega), List.all_cons]
    cases hp : g y
    · rfl
    · rw [ite_t rfl, Bool.true_and]; exact lpLA stop step r (p ++ [y]) k (by rw [e, mid_app]) (by omega)
/-- Lists of functions. -/
def okL (l : List DF) : Prop := (∀ f ∈ l, isF 0 f = true) ∧ l.length ≤ 40
theorem okL.nat {l : List DF} (h : okL l) {f : DF} (hf : f ∈ l) : ∃ n b : Nat, f = ((n : Int), (b : Int), ()) ∧ n ≤ 4 ∧ b < 2 ^ 2 ^ n := by
  obtain ⟨n, b, h1, h2, h3, _⟩ := isF_nat (h.1 f hf) (by decide)
  exact ⟨n, b, h1, h2, h3⟩
theorem idx_impl_Func_l (f : DF × Unit → Option Bool) (g : DF → Bool) (l : List DF) (hl : l.length < 4611686018427387904) (kx : Option R) (kr : Int → Option R) : ∀ (r p : List DF) (k : Nat), l = p ++ r → r.length < k → (∀ x ∈ r, f (x, ()) = some (g x)) →
    slices_IndexFunc_impl_Func_l2 K k l f (l.length : Int) (p.length : Int) kx kr = match r.findIdx? g with | some j => kr ((p.length + j : Nat) : Int) | none => kx
  | [], p, k + 1, h, _, _ => by subst h; simp only [slices_IndexFunc_impl_Func_l2]; rw [ite_f nlt_len]; rfl
  | y :: r, p, k + 1, h, hk, hf => by
    subst h
    simp only [slices_IndexFunc_impl_Func_l2]
    rw [ite_t lt_len, ite_t bnds_mid, getD_midI, hf y (by simp), some_bind', List.findIdx?_cons]
    cases hg : g y
    · rw [if_neg (by decide), if_neg (by decide), next_i hl, idx_impl_Func_l f g _ hl kx kr r (p ++ [y]) k (mid_app p r y) (by simp at hk; omega) (fun x hx => hf x (by simp [hx]))]
      cases hr : r.findIdx? g
      · rfl
      · simp only [Option.map_some]; congr 1; simp; omega
    · rw [if_pos rfl, if_pos rfl]; rfl
theorem slices_ContainsFunc_impl_Func_eq (f : DF × Unit → Option Bool) (g : DF → Bool) {l : List DF} (hl : l.length < 4611686018427387904) (hK : 4611686018427387904 ≤ K) (hf : ∀ x ∈ l, f (x, ()) = some (g x)) :
    slices_ContainsFunc_impl_Func K (l, f, ()) = some (l.any g) := by
  simp only [slices_ContainsFunc_impl_Func, slices_IndexFunc_impl_Func]
  have := idx_impl_Func_l (K := K) f g l hl (some (-1 : Int)) (fun z => some z) l [] K rfl (by omega) hf
  simp only [List.length_nil, Nat.zero_add] at this
  rw [show ((0 : Nat) : Int) = 0 from rfl] at this
  rw [this, ← List.findIdx?_isSome]; cases l.findIdx? g <;> simp
theorem any_not' {α : Type} (l : List α) (g : α → Bool) : (!(l.any fun a => !g a)) = l.all g := by
  induction l with
  | nil => rfl
  | cons a l ih => simp only [List.any_cons, List.all_cons, Bool.not_or, Bool.not_not, ih]
def codeV (l : List DF) : Int := if l.all (isF 0) = true then (if 8 < l.length then 2 else 0) else 1
theorem i_areFuncs_eq {l : List DF} (hl : l.length < 4611686018427387904) (hK : 4611686018427387904 ≤ K) : i_areFuncs K (l, ()) = some (l.all (isF 0)) := by
  simp only [i_areFuncs]
  rw [slices_ContainsFunc_impl_Func_eq _ (fun x => !isF 0 x) hl hK (fun x hx => by simp only [i_areFuncs_c1]; rw [i_IsFunc_eq, some_bind']), some_bind', any_not']
theorem s_l02Code_eq {l : List DF} (hl : l.length < 4611686018427387904) (hK : 4611686018427387904 ≤ K) : s_l02Code K (l, ()) = some (codeV l) := by
  simp only [s_l02Code]
  refine (lpLA (l := l) (L := fun k i => s_l02Code_l2 K k l i (fun z2 => (if (decide ((z2.length : Int) > (8 : Int))) = true then some (2 : Int) else some (0 : Int))) (fun z3 => some z3)) (g := isF 0) (B := 0)
    (kx := if (decide ((l.length : Int) > (8 : Int))) = true then some (2 : Int) else some (0 : Int)) (kf := some 1) (fun k => ?_) (fun k p y r e _ => ?_) l [] K rfl (by omega)).trans ?_
  · simp only [s_l02Code_l2]; rw [ite_f (decide_eq_false (by omega))]
  · subst e
    simp only [s_l02Code_l2]
    rw [ite_t lt_len, ite_t bnds_mid, getD_midI, s_l01Is_eq, some_bind', next_i hl, ite_not]
  · rw [codeV]
    cases l.all (isF 0)
    · rfl
    · rw [ite_t rfl, if_pos rfl]
      by_cases h : 8 < l.length
      · rw [ite_t (decide_eq_true (by omega)), if_pos h]
      · rw [ite_f (decide_eq_false (by omega)), if_neg h]
theorem set_mid' {α : Type} (p r : List α) (y z : α) : (p ++ y :: r).set p.length z = p ++ z :: r := by simp
theorem toFuncS_l (l : List DF) (hl : l.length < 4611686018427387904) (kx : List DF → Option R) : ∀ (r p : List DF) (k : Nat), l = p ++ r → r.length < k →
    w_toFuncS_l3 K k l (p ++ List.replicate r.length ((0 : Int), (0 : Int), ())) (p.length : Int) kx = kx l
  | _, _, 0, _, h => by omega
  | [], p, k + 1, e, h => by
    subst e
    simp only [w_toFuncS_l3]; rw [ite_f nlt_len]; simp
  | y :: r, p, k + 1, e, h => by
    subst e
    obtain ⟨n, b, u⟩ := y
    simp only [w_toFuncS_l3]
    rw [ite_t lt_len, ite_t bnds_mid, getD_midI]
    simp only [w_toFunc]
    rw [some_bind', ite_t (bnds_n (by simp)), next_i hl, Int.toNat_natCast, List.length_cons, List.replicate_succ, set_mid']
    have := toFuncS_l (p ++ (n, b, u) :: r) hl kx r (p ++ [(n, b, u)]) k (by simp) (by simpa using h)
    rw [← this]; congr 1; simp
theorem w_toFuncS_eq {l : List DF} (hl : l.length ≤ 1099511627776) (hK : 4611686018427387904 ≤ K) : w_toFuncS K (l, ()) = some l := by
  simp only [w_toFuncS]
  rw [ite_t (by
    have e : (lim : Int) = 1099511627776 := rfl
    rw [e, decide_eq_true (by omega : (0 : Int) ≤ l.length), decide_eq_true (by omega : (l.length : Int) ≤ 1099511627776)]; rfl)]
  have h1 : l.length < 4611686018427387904 := by omega
  have h2 : l.length < K := by omega
  have := toFuncS_l (K := K) l h1 (fun z4 => some z4) l [] K rfl h2
  rw [List.nil_append] at this
  rw [Int.toNat_natCast]; exact this
theorem w_eqFunc_self (y : DF) : w_eqFunc K (y, y, ()) = some true := by simp [w_eqFunc]
theorem w_eqFuncS_self {l : List DF} (hl : l.length < 4611686018427387904) (hK : 4611686018427387904 ≤ K) : w_eqFuncS K (l, l, ()) = some true := by
  simp only [w_eqFuncS]
  rw [ite_f (by simp)]
  refine (lpLA (l := l) (L := fun k i => w_eqFuncS_l4 K k l l i (some true) (fun z2 => some z2)) (g := fun _ => true) (B := 0) (kx := some true) (kf := some false) (fun k => ?_) (fun k p y r e _ => ?_) l [] K rfl (by omega)).trans ?_
  · simp only [w_eqFuncS_l4]; rw [ite_f (decide_eq_false (by omega))]
  · subst e
    simp only [w_eqFuncS_l4]
    rw [ite_t lt_len, ite_t bnds_mid, ite_t bnds_mid, getD_midI, w_eqFunc_self, some_bind', next_i hl]; rfl
  · simp
theorem okL_of_code {l : List DF} (h : codeV l = 0) : okL l ∧ l.length ≤ 8 := by
  unfold codeV at h
  split at h
  · rename_i h1
    rw [List.all_eq_true] at h1
    split at h
    · cases h
    · exact ⟨⟨h1, by omega⟩, by omega⟩
  · cases h
def packN (l : List Nat) (r : Nat) : Nat := mkB (fun i => (l.getD i 0).testBit r) l.length
def putN (b n : Nat) (l : List Nat) : Nat := mkB (fun r => b.testBit (packN l r)) (2 ^ n)
theorem putN_lt (b n : Nat) (l : List Nat) : putN b n l < 2 ^ 2 ^ n := mkB_lt _ _
abbrev GS := List Int × Bool
def hitG (d : Int) (x : Nat) (s : GS) : GS := if s.1.getD x 0 < 0 then (s.1.set x d, true) else s
def newG (d : Int) (l : List Nat) (s : GS) : Bool := decide (d = 1) || l.any fun h => decide (s.1.getD h 0 = d - 1)
def stepI (b n : Nat) (kn : List Nat) (d : Int) : Nat → List Nat → GS → GS
  | 0, l, s => if newG d l s = true then hitG d (putN b n l) s else s
  | m + 1, l, s => kn.foldl (fun s h => stepI b n kn d m (l ++ [h]) s) s
def stepS (b n : Nat) (kn : List Nat) (d : Int) : Nat → List Nat → GS → GS
  | 0, l, s => hitG d (putN b n l) s
  | m + 1, l, s => kn.foldl (fun s h => stepS b n kn d m (l ++ [h]) s) s
def roundI (fs : List (Nat × Nat)) (n : Nat) (kn : List Nat) (d : Int) (s : GS) : GS := fs.foldl (fun s f => stepI f.2 n kn d f.1 [] s) s
def roundS (fs : List (Nat × Nat)) (n : Nat) (kn : List Nat) (d : Int) (s : GS) : GS := fs.foldl (fun s f => stepS f.2 n kn d f.1 [] s) s
def knG (D : List Int) (d : Int) : List Nat := (List.range D.length).filter fun i => decide (0 ≤ D.getD i 0) && decide (D.getD i 0 ≤ d - 1)
def knS (D : List Int) : List Nat := (List.range D.length).filter fun i => decide (0 ≤ D.getD i 0)
def genI (fs : List (Nat × Nat)) (n : Nat) : Nat → Int → List Int → List Int
  | 0, _, D => D
  | k + 1, d, D => if (roundI fs n (knG D d) d (D, false)).2 = true then genI fs n k (d + 1) (roundI fs n (knG D d) d (D, false)).1 else (roundI fs n (knG D d) d (D, false)).1
def genS (fs : List (Nat × Nat)) (n : Nat) : Nat → Int → List Int → List Int
  | 0, _, D => D
  | k + 1, d, D => if (roundS fs n (knS D) d (D, false)).2 = true then genS fs n k (d + 1) (roundS fs n (knS D) d (D, false)).1 else (roundS fs n (knS D) d (D, false)).1
theorem gget_set (D : List Int) (x i : Nat) (d : Int) : (D.set x d).getD i 0 = if i = x ∧ x < D.length then d else D.getD i 0 := by
  simp only [List.getD_eq_getElem?_getD, List.getElem?_set]
  by_cases e : x = i
  · subst e
    by_cases h : x < D.length
    · simp [h]
    · simp [h]
  · rw [if_neg e, if_neg (by omega)]
theorem gneg_lt {D : List Int} {x : Nat} (h : D.getD x 0 < 0) : x < D.length := by
  rcases Nat.lt_or_ge x D.length with e | e
  · exact e
  · rw [List.getD_eq_getElem?_getD, List.getElem?_eq_none e] at h; exact absurd h (by decide)
theorem ghit_keep {d : Int} {x i : Nat} {s : GS} (h : 0 ≤ s.1.getD i 0) : (hitG d x s).1.getD i 0 = s.1.getD i 0 := by
  unfold hitG
  split
  · rename_i h1
    show (s.1.set x d).getD i 0 = _
    rw [gget_set, if_neg (fun e => by rw [e.1] at h; omega)]
  · rfl
theorem ghit_len {d : Int} {x : Nat} {s : GS} : (hitG d x s).1.length = s.1.length := by
  unfold hitG; split
  · exact List.length_set
  · rfl
theorem ghit_done {d : Int} {x : Nat} {s : GS} (hd : 0 ≤ d) : 0 ≤ (hitG d x s).1.getD x 0 := by
  unfold hitG
  split
  · rename_i h
    show 0 ≤ (s.1.set x d).getD x 0
    rw [gget_set, if_pos ⟨rfl, gneg_lt h⟩]; exact hd
  · omega
/-- what a step does: each entry stays, or was negative and is the depth. -/
def GExt (D : List Int) (d : Int) (s : GS) : Prop := s.1.length = D.length ∧ ∀ i, s.1.getD i 0 = D.getD i 0 ∨ (D.getD i 0 < 0 ∧ s.1.getD i 0 = d)
theorem GExt.keep {D : List Int} {d : Int} {s : GS} (h : GExt D d s) {i : Nat} (hi : 0 ≤ D.getD i 0) : s.1.getD i 0 = D.getD i 0 := by
  rcases h.2 i with e | e
  · exact e
  · omega
theorem GExt.hit {D : List Int} {d : Int} {s : GS} (h : GExt D d s) (x : Nat) : GExt D d (hitG d x s) := by
  refine ⟨ghit_len.trans h.1, fun i => ?_⟩
  unfold hitG
  split
  · rename_i h1
    show (s.1.set x d).getD i 0 = _ ∨ _ ∧ (s.1.set x d).getD i 0 = d
    rw [gget_set]
    split
    · rename_i e
      obtain ⟨rfl, e⟩ := e
      by_cases h0 : D.getD i 0 < 0
      · exact Or.inr ⟨h0, rfl⟩
      · rw [h.keep (by omega)] at h1; exact absurd h1 h0
    · exact h.2 i
  · exact h.2 i
theorem GExt.step {b n : Nat} {kn : List Nat} {D : List Int} {d : Int} : ∀ (m : Nat) (l : List Nat) (s : GS), GExt D d s → GExt D d (stepS b n kn d m l s)
  | 0, l, s, h => h.hit _
  | m + 1, l, s, h => by
    have : ∀ (q : List Nat) (s : GS), GExt D d s → GExt D d (q.foldl (fun s h => stepS b n kn d m (l ++ [h]) s) s) := by
      intro q
      induction q with
      | nil => intro s h; exact h
      | cons y q ih => intro s h; exact ih _ (GExt.step m _ _ h)
    exact this kn s h
theorem GExt.round {fs : List (Nat × Nat)} {n : Nat} {kn : List Nat} {D : List Int} {d : Int} : ∀ (fs : List (Nat × Nat)) (s : GS), GExt D d s → GExt D d (roundS fs n kn d s)
  | [], s, h => h
  | f :: fs, s, h => GExt.round (fs := fs) fs _ (GExt.step _ _ _ h)
/-- what lists of a function have made before the last round -/
def GMade (b n a : Nat) (d : Int) (D : List Int) : Prop := d = 1 ∨ ∀ l : List Nat, l.length = a → (∀ h ∈ l, h < D.length ∧ 0 ≤ D.getD h 0 ∧ D.getD h 0 ≤ d - 2) → 0 ≤ D.getD (putN b n l) 0
theorem gstep_eq {b n a : Nat} {kn : List Nat} {D : List Int} {d : Int} (hm : GMade b n a d D) (hk : ∀ h ∈ kn, h < D.length ∧ 0 ≤ D.getD h 0 ∧ D.getD h 0 ≤ d - 1) : ∀ (m : Nat) (l : List Nat) (s : GS), l.length + m = a →
    (∀ h ∈ l, h < D.length ∧ 0 ≤ D.getD h 0 ∧ D.getD h 0 ≤ d - 1) → GExt D d s → stepI b n kn d m l s = stepS b n kn d m l s
  | 0, l, s, hl, hh, hs => by
    simp only [stepI, stepS]
    by_cases hn : newG d l s = true
    · rw [if_pos hn]
    · rw [if_neg hn]
      simp only [newG, Bool.or_eq_true, decide_eq_true_eq, List.any_eq_true, not_or, not_exists, not_and] at hn
      rcases hm with h1 | h1
      · exact absurd h1 hn.1
      · have h2 := h1 l (by omega) (fun h hm => by
          obtain ⟨k1, k2, k3⟩ := hh h hm
          have := hn.2 h hm
          rw [hs.keep k2] at this
          exact ⟨k1, k2, by omega⟩)
        unfold hitG
        rw [if_neg (by rw [hs.keep h2]; omega)]
  | m + 1, l, s, hl, hh, hs => by
    simp only [stepI, stepS]
    have : ∀ (q : List Nat) (s : GS), (∀ y ∈ q, y ∈ kn) → GExt D d s → q.foldl (fun s h => stepI b n kn d m (l ++ [h]) s) s = q.foldl (fun s h => stepS b n kn d m (l ++ [h]) s) s := by
      intro q
      induction q with
      | nil => intro s _ _; rfl
      | cons y q ih =>
        intro s hq h
        rw [List.foldl_cons, List.foldl_cons, gstep_eq hm hk m (l ++ [y]) s (by simp; omega) (fun z hz => by
          rcases List.mem_append.1 hz with e | e
          · exact hh z e
          · rw [List.mem_singleton.1 e]; exact hk y (hq y (List.mem_cons_self ..))) h]
        exact ih _ (fun z hz => hq z (List.mem_cons_of_mem _ hz)) (GExt.step _ _ _ h)
    exact this kn s (fun _ h => h) hs
theorem ground_eq {n : Nat} {kn : List Nat} {D : List Int} {d : Int} (hk : ∀ h ∈ kn, h < D.length ∧ 0 ≤ D.getD h 0 ∧ D.getD h 0 ≤ d - 1) : ∀ (fs : List (Nat × Nat)) (s : GS), (∀ f ∈ fs, GMade f.2 n f.1 d D) → GExt D d s → roundI fs n kn d s = roundS fs n kn d s
  | [], _, _, _ => rfl
  | f :: fs, s, hm, hs => by
    show roundI fs n kn d (stepI f.2 n kn d f.1 [] s) = roundS fs n kn d (stepS f.2 n kn d f.1 [] s)
    rw [gstep_eq (hm f (List.mem_cons_self ..)) hk f.1 [] s (by simp) (fun _ h => by cases h) hs]
    exact ground_eq hk fs _ (fun g hg => hm g (List.mem_cons_of_mem _ hg)) (GExt.step _ _ _ hs)
theorem gstep_keep {b n : Nat} {kn : List Nat} {d : Int} {i : Nat} : ∀ (m : Nat) (l : List Nat) (s : GS), 0 ≤ s.1.getD i 0 → 0 ≤ (stepS b n kn d m l s).1.getD i 0
  | 0, l, s, h => by show 0 ≤ (hitG d (putN b n l) s).1.getD i 0; rw [ghit_keep h]; exact h
  | m + 1, l, s, h => by
    have : ∀ (q : List Nat) (s : GS), 0 ≤ s.1.getD i 0 → 0 ≤ (q.foldl (fun s h => stepS b n kn d m (l ++ [h]) s) s).1.getD i 0 := by
      intro q
      induction q with
      | nil => intro s h; exact h
      | cons y q ih => intro s h; exact ih _ (gstep_keep m _ _ h)
    exact this kn s h
theorem gstep_done {b n : Nat} {kn : List Nat} {d : Int} (hd : 0 ≤ d) : ∀ (m : Nat) (l l' : List Nat) (s : GS), l'.length = m → (∀ h ∈ l', h ∈ kn) → 0 ≤ (stepS b n kn d m l s).1.getD (putN b n (l ++ l')) 0
  | 0, l, l', s, hl, _ => by
    obtain rfl : l' = [] := List.length_eq_zero_iff.1 hl
    rw [List.append_nil]; exact ghit_done hd
  | m + 1, l, [], s, hl, _ => by cases hl
  | m + 1, l, y :: l', s, hl, hh => by
    have : ∀ (q : List Nat) (s : GS), y ∈ q → 0 ≤ (q.foldl (fun s h => stepS b n kn d m (l ++ [h]) s) s).1.getD (putN b n (l ++ y :: l')) 0 := by
      intro q
      induction q with
      | nil => intro s h; cases h
      | cons z q ih =>
        intro s h
        rw [List.foldl_cons]
        rcases List.mem_cons.1 h with e | e
        · subst e
          have h1 := gstep_done (b := b) (n := n) (kn := kn) hd m (l ++ [y]) l' s (by simpa using hl) (fun z hz => hh z (List.mem_cons_of_mem _ hz))
          rw [show l ++ [y] ++ l' = l ++ y :: l' by simp] at h1
          have : ∀ (q : List Nat) (s : GS), 0 ≤ s.1.getD (putN b n (l ++ y :: l')) 0 → 0 ≤ (q.foldl (fun s h => stepS b n kn d m (l ++ [h]) s) s).1.getD (putN b n (l ++ y :: l')) 0 := by
            intro q
            induction q with
            | nil => intro s h; exact h
            | cons y q ih => intro s h; exact ih _ (gstep_keep m _ _ h)
          exact this q _ h1
        · exact ih _ e
    exact this kn s (hh y (List.mem_cons_self ..))
theorem ground_keep {n : Nat} {kn : List Nat} {d : Int} {i : Nat} : ∀ (fs : List (Nat × Nat)) (s : GS), 0 ≤ s.1.getD i 0 → 0 ≤ (roundS fs n kn d s).1.getD i 0
  | [], _, h => h
  | f :: fs, s, h => ground_keep fs _ (gstep_keep _ _ _ h)
theorem ground_done {n : Nat} {kn : List Nat} {d : Int} (hd : 0 ≤ d) : ∀ (fs : List (Nat × Nat)) (s : GS) (f : Nat × Nat) (l : List Nat), f ∈ fs → l.length = f.1 → (∀ h ∈ l, h ∈ kn) → 0 ≤ (roundS fs n kn d s).1.getD (putN f.2 n l) 0
  | [], _, _, _, h, _, _ => by cases h
  | g :: fs, s, f, l, h, hl, hh => by
    rcases List.mem_cons.1 h with e | e
    · subst e; exact ground_keep fs _ (gstep_done hd f.1 [] l s hl hh)
    · exact ground_done hd fs _ f l e hl hh
/-- how many entries are negative -/
def negs (D : List Int) : Nat := D.countP fun x => decide (x < 0)
def GAdv (s s' : GS) : Prop := s' = s ∨ (s'.2 = true ∧ negs s'.1 < negs s.1)
theorem GAdv.trans {s t u : GS} (h : GAdv s t) (k : GAdv t u) : GAdv s u := by
  rcases h with rfl | h
  · exact k
  · rcases k with rfl | k
    · exact Or.inr h
    · exact Or.inr ⟨k.1, Nat.lt_trans k.2 h.2⟩
theorem negs_set : ∀ (D : List Int) (x : Nat) (d : Int), D.getD x 0 < 0 → 0 ≤ d → negs (D.set x d) < negs D
  | [], x, d, h, _ => by simp at h
  | y :: D, 0, d, h, hd => by
    have h : y < 0 := h
    simp only [List.set_cons_zero, negs, List.countP_cons]
    rw [decide_eq_true h, decide_eq_false (by omega)]; simp
  | y :: D, x + 1, d, h, hd => by
    have := negs_set D x d (by simpa using h) hd
    simp only [List.set_cons_succ, negs, List.countP_cons] at this ⊢
    omega
theorem ghit_adv {d : Int} (hd : 0 ≤ d) (x : Nat) (s : GS) : GAdv s (hitG d x s) := by
  unfold hitG
  split
  · rename_i h; exact Or.inr ⟨rfl, negs_set _ _ _ h hd⟩
  · exact Or.inl rfl
theorem gstep_adv {b n : Nat} {kn : List Nat} {d : Int} (hd : 0 ≤ d) : ∀ (m : Nat) (l : List Nat) (s : GS), GAdv s (stepS b n kn d m l s)
  | 0, l, s => ghit_adv hd _ _
  | m + 1, l, s => by
    have : ∀ (q : List Nat) (s : GS), GAdv s (q.foldl (fun s h => stepS b n kn d m (l ++ [h]) s) s) := by
      intro q
      induction q with
      | nil => intro s; exact Or.inl rfl
      | cons y q ih => intro s; exact (gstep_adv hd m _ _).trans (ih _)
    exact this kn s
theorem ground_adv {n : Nat} {kn : List Nat} {d : Int} (hd : 0 ≤ d) : ∀ (fs : List (Nat × Nat)) (s : GS), GAdv s (roundS fs n kn d s)
  | [], _ => Or.inl rfl
  | f :: fs, s => (gstep_adv hd _ _ _).trans (ground_adv hd fs _)
theorem mem_knS {D : List Int} {h : Nat} : h ∈ knS D ↔ h < D.length ∧ 0 ≤ D.getD h 0 := by simp [knS]
theorem knG_eq {D : List Int} {d : Int} (h : ∀ i, D.getD i 0 ≤ d - 1) : knG D d = knS D := by
  unfold knG knS
  refine List.filter_congr fun i _ => ?_
  rw [decide_eq_true (h i), Bool.and_true]
/-- a state ahead of a round -/
structure GReady (fs : List (Nat × Nat)) (n : Nat) (d : Int) (D : List Int) : Prop where
  pos : 1 ≤ d
  le : ∀ i, D.getD i 0 ≤ d - 1
  made : ∀ f ∈ fs, GMade f.2 n f.1 d D
theorem GReady.kn {fs : List (Nat × Nat)} {n : Nat} {d : Int} {D : List Int} (h : GReady fs n d D) : knG D d = knS D := knG_eq h.le
theorem GReady.round {fs : List (Nat × Nat)} {n : Nat} {d : Int} {D : List Int} (h : GReady fs n d D) : roundI fs n (knG D d) d (D, false) = roundS fs n (knS D) d (D, false) := by
  rw [h.kn]
  exact ground_eq (fun x hx => ⟨(mem_knS.1 hx).1, (mem_knS.1 hx).2, h.le x⟩) fs _ h.made ⟨rfl, fun i => Or.inl rfl⟩
theorem GReady.next {fs : List (Nat × Nat)} {n : Nat} {d : Int} {D : List Int} (h : GReady fs n d D) : GReady fs n (d + 1) (roundS fs n (knS D) d (D, false)).1 := by
  have hp := h.pos
  have he : GExt D d (roundS fs n (knS D) d (D, false)) := GExt.round (fs := fs) fs _ ⟨rfl, fun i => Or.inl rfl⟩
  refine ⟨by omega, fun i => ?_, fun f hf => Or.inr fun l hl hh => ?_⟩
  · have := h.le i
    rcases he.2 i with e | e <;> omega
  · refine ground_done (by omega) fs _ f l hf hl fun x hx => mem_knS.2 ?_
    obtain ⟨k1, k2, k3⟩ := hh x hx
    have h1 := he.1
    refine ⟨by omega, ?_⟩
    rcases he.2 x with e | e
    · omega
    · omega
theorem gen_eq {fs : List (Nat × Nat)} {n : Nat} : ∀ (k : Nat) (d : Int) (D : List Int), GReady fs n d D → genI fs n k d D = genS fs n k d D
  | 0, _, _, _ => rfl
  | k + 1, d, D, h => by
    simp only [genI, genS, h.round]
    split
    · exact gen_eq k _ _ h.next
    · rfl
/-- enough rounds are enough -/
theorem genS_fuel {fs : List (Nat × Nat)} {n : Nat} : ∀ (k k' : Nat) (d : Int) (D : List Int), 0 ≤ d → negs D < k → negs D < k' → genS fs n k d D = genS fs n k' d D
  | 0, _, _, _, _, h, _ => by omega
  | _, 0, _, _, _, _, h => by omega
  | k + 1, k' + 1, d, D, hd, h, h' => by
    simp only [genS]
    split
    · rename_i hb
      rcases ground_adv (n := n) (kn := knS D) hd fs (D, false) with e | e
      · rw [e] at hb; cases hb
      · exact genS_fuel k k' _ _ (by omega) (by have := e.2; simp only at this; omega) (by have := e.2; simp only at this; omega)
    · rfl
theorem genS_len {fs : List (Nat × Nat)} {n : Nat} : ∀ (k : Nat) (d : Int) (D : List Int), (genS fs n k d D).length = D.length
  | 0, _, _ => rfl
  | k + 1, d, D => by
    have he : GExt D d (roundS fs n (knS D) d (D, false)) := GExt.round (fs := fs) fs _ ⟨rfl, fun i => Or.inl rfl⟩
    simp only [genS]
    split
    · rw [genS_len k]; exact he.1
    · exact he.1
def fN (n b : Nat) : DF := ((n : Int), (b : Int), ())
def fnsN (n : Nat) (l : List Nat) : List DF := l.map (fN n)
theorem fns_len (n : Nat) (l : List Nat) : (fnsN n l).length = l.length := by simp [fnsN]
theorem fns_get (n : Nat) (l : List Nat) (i : Nat) (h : i < l.length) : (fnsN n l).getD (i : Int).toNat ((0 : Int), (0 : Int), ()) = fN n (l.getD i 0) := by
  simp [fnsN, List.getD, h]
theorem fns_snoc (n : Nat) (l : List Nat) (x : Nat) : fnsN n l ++ [fN n x] = fnsN n (l ++ [x]) := by simp [fnsN]
theorem getD_all {l : List Nat} {B : Nat} (hB : 0 < B) (h : ∀ x ∈ l, x < B) (i : Nat) : l.getD i 0 < B := by
  by_cases hi : i < l.length
  · have : l.getD i 0 = l[i] := by simp [List.getD, hi]
    rw [this]; exact h _ (List.getElem_mem hi)
  · simp [List.getD, hi, hB]
theorem putc_l {n j : Nat} (l : List Nat) (hl : l.length ≤ 4) (hb : ∀ x ∈ l, x < 65536) (v2 : DF) (kx : DF → Int → Option R) : ∀ (m i k : Nat), i + m = l.length → m < k →
    i_Func_put_c1_l3 K k (j : Int) v2 ((mkB (fun i => (l.getD i 0).testBit j) i : Nat) : Int) (fnsN n l) (l.length : Int) (i : Int) kx = kx v2 ((packN l j : Nat) : Int)
  | _, _, 0, _, h => by omega
  | 0, i, k + 1, e, _ => by
    obtain rfl : i = l.length := by omega
    simp only [i_Func_put_c1_l3]; rw [ite_f (decide_eq_false (by omega))]; rfl
  | m + 1, i, k + 1, e, hk => by
    have ih := putc_l (n := n) (j := j) l hl hb v2 kx m (i + 1) k (by omega) (by omega)
    rw [mkB_succ] at ih
    have hx := getD_all (by decide) hb i
    simp only [i_Func_put_c1_l3]
    rw [ite_t (decide_eq_true (by omega)), ite_t (bnds_n (by rw [fns_len]; omega)), fns_get n l i (by omega), fN, i_Func_at_eq j (by omega), some_bind', ite_t (nn _), shl_bt (by omega), or_dg (mkB_lt _ _) (by omega), w64s (by omega), ih]
theorem packN_lt (l : List Nat) (r : Nat) : packN l r < 2 ^ l.length := mkB_lt _ _
theorem i_Func_put_eq {a b n m : Nat} (hb : b < 65536) (hn : n ≤ 4) (l : List Nat) (hl : l.length ≤ 4) (hx : ∀ x ∈ l, x < 65536) (hK : 4611686018427387904 ≤ K) : i_Func_put K (fN a b, (n : Int), fnsN m l, ()) = some (fN n (putN b n l)) := by
  simp only [i_Func_put]
  rw [i_funcBy_eq (fun r => b.testBit (packN l r)) hn (fun j hj => ?_) hK, some_bind']
  · rfl
  · simp only [i_Func_put_c1, fns_len]
    have := putc_l (K := K) (n := m) (j := j) l hl hx (fN a b) (fun z2 z3 => (i_Func_at K (z2, z3, ())).bind fun y4 => some y4) l.length 0 K (by omega) (by omega)
    refine this.trans ?_
    have h16 : packN l j < 16 := Nat.lt_of_lt_of_le (packN_lt l j) (Nat.pow_le_pow_right (by decide) hl)
    rw [fN, i_Func_at_eq _ (by omega), some_bind']; rfl
def projN (n i : Nat) : Nat := mkB (fun r => r.testBit i) (2 ^ n)
theorem projN_lt (n i : Nat) : projN n i < 2 ^ 2 ^ n := mkB_lt _ _
theorem i_projection_eq {n i : Nat} (hn : n ≤ 4) (hK : 4611686018427387904 ≤ K) : i_projection K ((n : Int), (i : Int), ()) = some (fN n (projN n i)) := by
  simp only [i_projection]
  rw [i_funcBy_eq (fun r => r.testBit i) hn (fun j hj => ?_) hK, some_bind']
  · rfl
  · have h16 : j < 16 := Nat.lt_of_lt_of_le hj (Nat.pow_le_pow_right (by decide) hn)
    simp only [i_projection_c1]
    rw [i_bit_eq i (by omega), some_bind']; rfl
theorem that_l (p : Nat → Bool) (f : DF × Unit → Option Bool) (n N : Nat) (hN : N ≤ 65536) (hf : ∀ j, j < N → f (fN n j, ()) = some (p j)) (kx : List DF → Option R) : ∀ (m i k : Nat), i + m = N → m < k →
    i_funcsThat_l3 K k (n : Int) f (fnsN n ((List.range i).filter p)) (N : Int) (i : Int) kx = kx (fnsN n ((List.range N).filter p))
  | _, _, 0, _, h => by omega
  | 0, i, k + 1, e, _ => by
    obtain rfl : i = N := by omega
    simp only [i_funcsThat_l3]; rw [ite_f (decide_eq_false (by omega))]
  | m + 1, i, k + 1, e, hk => by
    have ih := that_l p f n N hN hf kx m (i + 1) k (by omega) (by omega)
    have hlen : (fnsN n ((List.range i).filter p)).length ≤ i := by
      rw [fns_len]; exact Nat.le_trans (List.length_filter_le _ _) (by simp)
    have hlim : (1099511627776 : Nat) = lim := rfl
    simp only [i_funcsThat_l3]
    rw [ite_t (decide_eq_true (by omega)), show f (((n : Int), (i : Int), ()), ()) = some (p i) from hf i (by omega), some_bind']
    rw [List.range_succ, List.filter_append] at ih
    cases hp : p i
    · rw [ite_f rfl, w64s (by omega)]
      rw [show List.filter p [i] = [] by simp [hp], List.append_nil] at ih
      exact ih
    · rw [ite_t rfl, ite_t (decide_eq_true (by simp only [List.length_cons, List.length_nil]; omega)), w64s (by omega)]
      rw [show List.filter p [i] = [i] by simp [hp], ← fns_snoc] at ih
      exact ih
theorem pp4 {n : Nat} (hn : n ≤ 4) : 2 ^ 2 ^ n ≤ 65536 := Nat.le_trans (Nat.pow_le_pow_right (by decide) (Nat.pow_le_pow_right (by decide) hn)) (show 2 ^ 2 ^ 4 ≤ 65536 by decide)
theorem i_funcsThat_eq (p : Nat → Bool) {f : DF × Unit → Option Bool} {n : Nat} (hn : n ≤ 4) (hf : ∀ j, j < 2 ^ 2 ^ n → f (fN n j, ()) = some (p j)) (hK : 4611686018427387904 ≤ K) : i_funcsThat K ((n : Int), f, ()) = some (fnsN n ((List.range (2 ^ 2 ^ n)).filter p)) := by
  have h16 := pp4 hn
  simp only [i_funcsThat]
  rw [i_funcsOf_eq hn, some_bind']
  exact that_l (K := K) p f n (2 ^ 2 ^ n) h16 hf (fun z5 => some z5) (2 ^ 2 ^ n) 0 K (by omega) (by omega)
theorem i_known_eq {n : Nat} (hn : n ≤ 4) {list : List DF} {D : List Int} (hD : D.length = 2 ^ 2 ^ n) {d : Int} (h0 : 0 ≤ d) (h1 : d < 1000000) (hK : 4611686018427387904 ≤ K) : i_generated_known K ((list, (n : Int), D, ()), d, ()) = some (fnsN n (knG D d)) := by
  simp only [i_generated_known]
  rw [i_funcsThat_eq (fun i => decide (0 ≤ D.getD i 0) && decide (D.getD i 0 ≤ d - 1)) hn (fun j hj => ?_) hK, some_bind', knG, hD]
  simp only [i_generated_known_c1, fN]
  refine (ite_t (bnds_n (show j < D.length by omega))).trans ?_
  show (i_within K (D.getD ((j : Nat) : Int).toNat 0, 0, IntKind.i64.wrap (d - 1), ())).bind _ = _
  rw [Int.toNat_natCast, w64 (by omega) (by omega), i_within_eq, some_bind']
theorem i_all_eq {n : Nat} (hn : n ≤ 4) {list : List DF} {D : List Int} (hD : D.length = 2 ^ 2 ^ n) (hK : 4611686018427387904 ≤ K) : i_generated_all K ((list, (n : Int), D, ()), ()) = some (fnsN n (knS D)) := by
  simp only [i_generated_all]
  rw [i_funcsThat_eq (fun i => decide (0 ≤ D.getD i 0)) hn (fun j hj => ?_) hK, some_bind', knS, hD]
  simp only [i_generated_all_c1, fN]
  refine (ite_t (bnds_n (show j < D.length by omega))).trans ?_
  rfl
theorem isNewF_eq {n : Nat} {list : List DF} {l : List Nat} {s : GS} {d : Int} (hl : l.length ≤ 4) (hx : ∀ x ∈ l, x < s.1.length) (h0 : 0 ≤ d) (h1 : d < 1000000) (hK : 4611686018427387904 ≤ K) : isNewF K list (n : Int) d (fnsN n l) s = some (newG d l s) := by
  unfold isNewF newG
  by_cases hd : d = 1
  · rw [if_pos hd, decide_eq_true hd, Bool.true_or]
  · rw [if_neg hd, decide_eq_false hd, Bool.false_or, slices_ContainsFunc_impl_Func_eq _ (fun x => decide (s.1.getD x.2.1.toNat 0 = d - 1)) (by rw [fns_len]; omega) hK (fun x hx' => ?_)]
    · simp only [fnsN, List.any_map]; rfl
    · obtain ⟨b, hb, rfl⟩ := List.mem_map.1 hx'
      simp only [i_generated_steps_c1, fN]
      refine (ite_t (bnds_n (hx b hb))).trans ?_
      show some (decide (s.1.getD ((b : Nat) : Int).toNat 0 = IntKind.i64.wrap (d - 1))) = _
      exact congrArg some (decide_eq_decide.2 (by rw [w64 (by omega) (by omega)]))
theorem eachF_eq {n x : Nat} {d : Int} {s : GS} (hx : x < s.1.length) : eachF d (fN n x) s = some (hitG d x s) := by
  unfold eachF hitG fN
  rw [if_pos ⟨by simp, by simpa using hx⟩]
  simp only [Int.toNat_natCast]
theorem stepI_len {b n : Nat} {kn : List Nat} {d : Int} : ∀ (m : Nat) (l : List Nat) (s : GS), (stepI b n kn d m l s).1.length = s.1.length
  | 0, l, s => by
    simp only [stepI]; split
    · exact ghit_len
    · rfl
  | m + 1, l, s => by
    have : ∀ (q : List Nat) (s : GS), (q.foldl (fun s h => stepI b n kn d m (l ++ [h]) s) s).1.length = s.1.length := by
      intro q
      induction q with
      | nil => intro s; rfl
      | cons y q ih => intro s; rw [List.foldl_cons, ih]; exact stepI_len m _ _
    exact this kn s
theorem foldF_map {α β σ : Type} {g : α → β} {f : σ → β → Option σ} {h : σ → α → σ} {I : σ → Prop} (hI : ∀ s x, I s → I (h s x)) : ∀ (l : List α) (s : σ), (∀ x ∈ l, ∀ s, I s → f s (g x) = some (h s x)) → I s → foldF f (l.map g) s = some (l.foldl h s)
  | [], _, _, _ => rfl
  | x :: l, s, hf, hs => by
    rw [List.map_cons, foldF, hf x (List.mem_cons_self ..) s hs, Option.bind_some, List.foldl_cons]
    exact foldF_map hI l _ (fun y hy => hf y (List.mem_cons_of_mem _ hy)) (hI s x hs)
theorem stepsF_eq {n a b : Nat} (hn : n ≤ 4) (ha : a ≤ 4) (hb : b < 65536) {list : List DF} {kn : List Nat} (hkl : kn.length ≤ 65536) (hkn : ∀ x ∈ kn, x < 2 ^ 2 ^ n) {d : Int} (h0 : 0 ≤ d) (h1 : d < 1000000) (hK : 4611686018427387904 ≤ K) : ∀ (m k : Nat) (l : List Nat) (s : GS), l.length + m = a → m < k →
    (∀ x ∈ l, x < 2 ^ 2 ^ n) → s.1.length = 2 ^ 2 ^ n → stepsF K list (n : Int) (fN a b) (fnsN n kn) d k (fnsN n l) s = some (stepI b n kn d m l s)
  | _, 0, _, _, _, h, _, _ => by omega
  | 0, k + 1, l, s, hl, _, hx, hs => by
    have h16 := pp4 hn
    simp only [stepsF, fns_len]
    refine (if_pos (show (l.length : Int) = (a : Int) by omega)).trans ?_
    rw [isNewF_eq (by omega) (fun x h => by rw [hs]; exact hx x h) h0 h1 hK, Option.bind_some, stepI]
    cases newG d l s
    · rfl
    · rw [if_pos rfl, if_pos rfl, i_Func_put_eq hb hn l (by omega) (fun x h => Nat.lt_of_lt_of_le (hx x h) h16) hK, Option.bind_some, eachF_eq (by rw [hs]; exact putN_lt _ _ _)]
  | m + 1, k + 1, l, s, hl, hk, hx, hs => by
    simp only [stepsF, fns_len]
    refine (if_neg (show ¬ (l.length : Int) = (a : Int) by omega)).trans ?_
    rw [if_pos ⟨by omega, by omega⟩, stepI]
    refine foldF_map (I := fun s => s.1.length = 2 ^ 2 ^ n) (fun s x h => by rw [stepI_len]; exact h) kn s (fun x hxk s hs => ?_) hs
    rw [fns_snoc]
    exact stepsF_eq hn ha hb hkl hkn h0 h1 hK m k (l ++ [x]) s (by simp; omega) (by omega) (fun y hy => by
      rcases List.mem_append.1 hy with e | e
      · exact hx y e
      · rw [List.mem_singleton.1 e]; exact hkn x hxk) hs
/-- a list of functions, in numbers -/
def fsN (fs : List (Nat × Nat)) : List DF := fs.map fun f => fN f.1 f.2
def okFs (fs : List (Nat × Nat)) : Prop := (∀ f ∈ fs, f.1 ≤ 4 ∧ f.2 < 2 ^ 2 ^ f.1) ∧ fs.length ≤ 1000
theorem roundF_eq {n : Nat} (hn : n ≤ 4) {fs : List (Nat × Nat)} (hf : okFs fs) {list : List DF} {kn : List Nat} (hkl : kn.length ≤ 65536) (hkn : ∀ x ∈ kn, x < 2 ^ 2 ^ n) {d : Int} (h0 : 0 ≤ d) (h1 : d < 1000000) (hK : 4611686018427387904 ≤ K) (s : GS) (hs : s.1.length = 2 ^ 2 ^ n) :
    roundF K list (n : Int) (fnsN n kn) d (fsN fs) s = some (roundI fs n kn d s) := by
  unfold roundF fsN roundI
  refine foldF_map (I := fun s => s.1.length = 2 ^ 2 ^ n) (fun s x h => by rw [stepI_len]; exact h) fs s (fun f hff s hs => ?_) hs
  have h2 := hf.1 f hff
  exact stepsF_eq hn h2.1 (Nat.lt_of_lt_of_le h2.2 (pp4 h2.1)) hkl hkn h0 h1 hK f.1 100 [] s (by simp) (by omega) (fun _ h => by cases h) hs
theorem negs_le (D : List Int) : negs D ≤ D.length := List.countP_le_length
theorem knG_lt {D : List Int} {d : Int} : (knG D d).length ≤ D.length ∧ ∀ x ∈ knG D d, x < D.length := by
  refine ⟨Nat.le_trans (List.length_filter_le _ _) (by simp), fun x hx => ?_⟩
  exact List.mem_range.1 (List.mem_filter.1 hx).1
theorem roundI_len {fs : List (Nat × Nat)} {n : Nat} {kn : List Nat} {d : Int} : ∀ (fs : List (Nat × Nat)) (s : GS), (roundI fs n kn d s).1.length = s.1.length
  | [], _ => rfl
  | f :: fs, s => (roundI_len (fs := fs) fs _).trans (stepI_len _ _ _)
theorem loopF_eq {n : Nat} (hn : n ≤ 4) {fs : List (Nat × Nat)} (hf : okFs fs) (hK : 4611686018427387904 ≤ K) : ∀ (k : Nat) (d : Int) (D : List Int), GReady fs n d D → D.length = 2 ^ 2 ^ n → negs D < k → d + negs D < 1000000 → loopF K (fsN fs) (n : Int) k d D = some (genI fs n k d D)
  | 0, _, _, _, _, h, _ => by omega
  | k + 1, d, D, hr, hD, hk, hd => by
    have h0 := hr.pos
    have h16 := pp4 hn
    have hk2 := knG_lt (D := D) (d := d)
    simp only [loopF]
    rw [if_pos ⟨by omega, by omega, by have := hf.2; simp only [fsN, List.length_map]; omega⟩, i_known_eq hn hD (by omega) (by omega) hK, Option.bind_some,
      roundF_eq hn hf (by omega) (fun x hx => by rw [← hD]; exact hk2.2 x hx) (by omega) (by omega) hK _ hD, Option.bind_some, genI]
    by_cases hb : (roundI fs n (knG D d) d (D, false)).2 = true
    · rw [if_pos hb, if_pos hb]
      rw [hr.round] at hb ⊢
      have hadv := ground_adv (n := n) (kn := knS D) (show (0 : Int) ≤ d by omega) fs (D, false)
      have hlt : negs (roundS fs n (knS D) d (D, false)).1 < negs D := by
        rcases hadv with e | e
        · rw [e] at hb; cases hb
        · exact e.2
      have hl2 : (roundS fs n (knS D) d (D, false)).1.length = 2 ^ 2 ^ n := by rw [← hr.round, roundI_len (fs := fs)]; exact hD
      exact loopF_eq hn hf hK k (d + 1) _ hr.next hl2 (by omega) (by omega)
    · rw [if_neg hb, if_neg hb]
/-- the projections have the depth 0 -/
def initG (n : Nat) : List Int := (List.range n).foldl (fun D i => D.set (projN n i) 0) (List.replicate (2 ^ 2 ^ n) (-1))
theorem initF_eq {n : Nat} (hn : n ≤ 4) (hK : 4611686018427387904 ≤ K) : ∀ (m i k : Nat) (D : List Int), i + m = n → m < k → D.length = 2 ^ 2 ^ n →
    initF K (n : Int) k (i : Int) D = some ((List.range' i m).foldl (fun D i => D.set (projN n i) 0) D)
  | _, _, 0, _, _, h, _ => by omega
  | 0, i, k + 1, D, h, _, _ => by
    simp only [initF]; rw [if_neg (by omega)]; rfl
  | m + 1, i, k + 1, D, h, hk, hD => by
    have ih := initF_eq hn hK m (i + 1) k (D.set (projN n i) 0) (by omega) (by omega) (by simpa using hD)
    have hp := projN_lt n i
    simp only [initF]
    rw [if_pos (by omega), i_projection_eq hn hK, Option.bind_some]
    refine (if_pos ⟨by simp [fN], by simp only [fN]; omega⟩).trans ?_
    rw [List.range'_succ, List.foldl_cons, ← ih]; rfl
def KK : Nat := 9223372036854775808
theorem rep16 : slices_Repeat_int64 KK ([(-1 : Int)], (16 : Int), ()) = some (List.replicate 16 (-1)) := by decide +kernel
theorem rep256 : slices_Repeat_int64 KK ([(-1 : Int)], (256 : Int), ()) = some (List.replicate 256 (-1)) := by decide +kernel
theorem rep_eq {n : Nat} (hn : n = 2 ∨ n = 3) : slices_Repeat_int64 KK ([(-1 : Int)], ((2 ^ 2 ^ n : Nat) : Int), ()) = some (List.replicate (2 ^ 2 ^ n) (-1)) := by
  rcases hn with rfl | rfl
  · exact rep16
  · exact rep256
theorem KK_ge : 4611686018427387904 ≤ KK := by decide
/-- what a list generates, round by round -/
def genD (fs : List (Nat × Nat)) (n : Nat) : List Int := genS fs n KK 1 (initG n)
theorem initG_len (n : Nat) : (initG n).length = 2 ^ 2 ^ n := by
  have : ∀ (l : List Nat) (D : List Int), (l.foldl (fun D i => D.set (projN n i) 0) D).length = D.length := by
    intro l
    induction l with
    | nil => intro D; rfl
    | cons y l ih => intro D; rw [List.foldl_cons, ih]; simp
  rw [initG, this]; simp
theorem initG_mem (n x : Nat) : (initG n).getD x 0 ≤ 0 ∧ (x < 2 ^ 2 ^ n → 0 ≤ (initG n).getD x 0 → ∃ i, i < n ∧ x = projN n i) := by
  have key : ∀ (l : List Nat) (D : List Int), (D.getD x 0 ≤ 0 → (l.foldl (fun D i => D.set (projN n i) 0) D).getD x 0 ≤ 0) ∧ (0 ≤ (l.foldl (fun D i => D.set (projN n i) 0) D).getD x 0 → 0 ≤ D.getD x 0 ∨ ∃ i ∈ l, x = projN n i) := by
    intro l
    induction l with
    | nil => intro D; exact ⟨fun h => h, fun h => Or.inl h⟩
    | cons y l ih =>
      intro D
      rw [List.foldl_cons]
      obtain ⟨h1, h2⟩ := ih (D.set (projN n y) 0)
      refine ⟨fun h => h1 ?_, fun h => ?_⟩
      · rw [gget_set]; split
        · exact Int.le_refl 0
        · exact h
      · rcases h2 h with e | ⟨i, hi, e⟩
        · rw [gget_set] at e
          split at e
          · rename_i hx; exact Or.inr ⟨y, List.mem_cons_self .., hx.1⟩
          · exact Or.inl e
        · exact Or.inr ⟨i, List.mem_cons_of_mem _ hi, e⟩
  obtain ⟨h1, h2⟩ := key (List.range n) (List.replicate (2 ^ 2 ^ n) (-1))
  have h0 : (List.replicate (2 ^ 2 ^ n) (-1 : Int)).getD x 0 = if x < 2 ^ 2 ^ n then -1 else 0 := by
    simp only [List.getD, List.getElem?_replicate]
    split <;> rfl
  refine ⟨h1 (by rw [h0]; split <;> decide), fun hx h => ?_⟩
  rcases h2 h with e | ⟨i, hi, e⟩
  · rw [h0, if_pos hx] at e; exact absurd e (by decide)
  · exact ⟨i, List.mem_range.1 hi, e⟩
theorem initG_ready (fs : List (Nat × Nat)) (n : Nat) : GReady fs n 1 (initG n) := ⟨by decide, fun i => by have := (initG_mem n i).1; omega, fun _ _ => Or.inl rfl⟩
theorem initG_negs {n : Nat} (hn : n ≤ 4) : negs (initG n) ≤ 65536 := by
  have := negs_le (initG n)
  rw [initG_len] at this
  exact Nat.le_trans this (pp4 hn)
theorem genF_eq {n : Nat} (hn : n = 2 ∨ n = 3) {fs : List (Nat × Nat)} (hf : okFs fs) : genF KK (fsN fs) (n : Int) = some (genD fs n) := by
  have hn4 : n ≤ 4 := by omega
  have hl : (fsN fs).length < 1000000 := by have := hf.2; simp only [fsN, List.length_map]; omega
  have h16 := Nat.two_pow_pos (2 ^ n)
  unfold genF
  rw [if_pos ⟨by omega, by omega, hl⟩, i_funcsOf_eq hn4, Option.bind_some, rep_eq hn, Option.bind_some, if_neg (by simp only [List.length_replicate]; omega)]
  have hi := initF_eq (K := KK) hn4 KK_ge n 0 1000 (List.replicate (2 ^ 2 ^ n) (-1)) (by omega) (by omega) (by simp)
  rw [show ((0 : Nat) : Int) = 0 from rfl, ← List.range_eq_range'] at hi
  rw [hi, Option.bind_some]
  have hg := initG_negs hn4
  have hlp := loopF_eq hn4 hf KK_ge KK 1 (initG n) (initG_ready fs n) (initG_len n) (by have : (9223372036854775808 : Nat) = KK := rfl; omega) (by omega)
  rw [show (List.range n).foldl (fun D i => D.set (projN n i) 0) (List.replicate (2 ^ 2 ^ n) (-1)) = initG n from rfl, hlp, gen_eq KK 1 (initG n) (initG_ready fs n)]; rfl
/-- the code of a list and an arity -/
def codeG (l : List DF) (n : Int) : Int := if codeV l = 0 then (if 2 ≤ n ∧ n ≤ 3 then (if n = 3 ∧ (l.any fun f => decide (f.1 > 2)) = true then 2 else 0) else 2) else codeV l
theorem anyL1 {x : List DF} {f : List DF × Unit → Option Bool} {b : Bool} (hK : 10 ≤ K) (hf : f (x, ()) = some b) : slices_ContainsFunc_impl_Func_ K ([x], f, ()) = some b := by
  obtain ⟨k, rfl⟩ : ∃ k, K = k + 2 := ⟨K - 2, by omega⟩
  simp only [slices_ContainsFunc_impl_Func_, slices_IndexFunc_impl_Func_, slices_IndexFunc_impl_Func__l2]
  rw [ite_t (by rfl), ite_t (by rfl), show ([x] : List (List DF)).getD (0 : Int).toNat [] = x from rfl, hf, some_bind']
  cases b
  · rw [ite_f rfl, ite_f (by rfl)]; rfl
  · rw [ite_t rfl]; rfl
theorem i_generationCode_eq {l : List DF} (hl : l.length < 4611686018427387904) (n : Int) (hK : 4611686018427387904 ≤ K) : i_generationCode K (n, [l], ()) = some (codeG l n) := by
  have hc : i_generationCode_c1 K (l, ()) = some (!(l.all (isF 0))) := by simp only [i_generationCode_c1]; rw [i_areFuncs_eq hl hK, some_bind']
  have hc2 : slices_ContainsFunc_impl_Func K (l, (fun y6 => i_generationCode_c2 K (y6.1, ())), ()) = some (l.any fun f => decide (f.1 > 2)) := slices_ContainsFunc_impl_Func_eq _ _ hl hK fun x _ => by simp only [i_generationCode_c2]
  simp only [i_generationCode]
  rw [anyL1 (by omega) hc, some_bind', codeG, codeV]
  cases hall : l.all (isF 0)
  · rw [ite_t (c := !false) rfl]; rfl
  · rw [ite_f (c := !true) rfl, i_within_eq, some_bind', if_pos rfl]
    by_cases hn : 2 ≤ n ∧ n ≤ 3
    · rw [decide_eq_true hn.1, decide_eq_true hn.2, ite_f (by rfl), if_pos hn]
      obtain ⟨k, rfl⟩ : ∃ k, K = k + 2 := ⟨K - 2, by omega⟩
      simp only [i_generationCode_l6]
      rw [ite_t (by rfl), ite_t (by rfl), show ([l] : List (List DF)).getD (0 : Int).toNat [] = l from rfl]
      by_cases h8 : 8 < l.length
      · rw [ite_t (decide_eq_true (by omega)), if_pos h8]; rfl
      · rw [ite_f (decide_eq_false (by omega)), if_neg h8, if_pos rfl]
        by_cases h3 : n = 3
        · rw [ite_t (decide_eq_true h3), hc2, some_bind']
          cases ha : l.any fun f => decide (f.1 > 2)
          · rw [ite_f rfl, ite_f (by rfl), if_neg (by simp)]
          · rw [ite_t rfl, if_pos ⟨h3, rfl⟩]
        · rw [ite_f (decide_eq_false h3), ite_f (by rfl), if_neg (fun h => h3 h.1)]
    · rw [ite_t (by
        by_cases h2 : 2 ≤ n
        · rw [decide_eq_true h2, decide_eq_false (fun h => hn ⟨h2, h⟩)]; rfl
        · rw [decide_eq_false h2]; rfl), if_neg hn]
      by_cases h8 : 8 < l.length
      · rw [if_pos h8]; rfl
      · rw [if_neg h8]; rfl
theorem fs_of {l : List DF} (h : codeV l = 0) : ∃ fs, l = fsN fs ∧ okFs fs ∧ fs.length ≤ 8 := by
  obtain ⟨h1, h2⟩ := okL_of_code h
  refine ⟨l.map fun f => (f.1.toNat, f.2.1.toNat), ?_, ⟨fun f hf => ?_, by simp; omega⟩, by simpa using h2⟩
  · unfold fsN
    rw [List.map_map]
    have : ∀ f ∈ l, ((fun f : Nat × Nat => fN f.1 f.2) ∘ fun f : DF => (f.1.toNat, f.2.1.toNat)) f = f := fun f hf => by
      obtain ⟨n, b, rfl, _, _⟩ := h1.nat hf
      rfl
    exact (List.map_congr_left this).trans (List.map_id' l) |>.symm
  · obtain ⟨g, hg, rfl⟩ := List.mem_map.1 hf
    obtain ⟨n, b, rfl, hn, hb⟩ := h1.nat hg
    exact ⟨hn, hb⟩
/-- GeneratedBy, in numbers -/
theorem i_GeneratedBy_bad {l : List DF} (hl : l.length < 4611686018427387904) {n : Int} (h : codeG l n ≠ 0) : i_GeneratedBy KK (l, n, ()) = some ([], codeG l n, ()) := by
  simp only [i_GeneratedBy, genByF]
  rw [i_generationCode_eq hl n KK_ge, Option.bind_some, if_neg h]
theorem i_GeneratedBy_ok {fs : List (Nat × Nat)} (hf : okFs fs) {n : Nat} (hn : n = 2 ∨ n = 3) (h : codeG (fsN fs) (n : Int) = 0) : i_GeneratedBy KK (fsN fs, (n : Int), ()) = some (fnsN n (knS (genD fs n)), 0, ()) := by
  have hl : (fsN fs).length < 4611686018427387904 := by have := hf.2; simp only [fsN, List.length_map]; omega
  simp only [i_GeneratedBy, genByF]
  rw [i_generationCode_eq hl n KK_ge, Option.bind_some, h, if_pos rfl, genF_eq hn hf, Option.bind_some, i_all_eq (by omega) (by rw [genD, genS_len, initG_len]) KK_ge, Option.bind_some]
theorem up_getI (l : List Nat) (i : Nat) : (up l).getD (i : Int).toNat (0 : Int) = ((l.getD i 0 : Nat) : Int) := by
  rw [Int.toNat_natCast]
  simp only [up, List.getD, List.getElem?_map]
  cases l[i]? <;> rfl
theorem up_snoc (l : List Nat) (x : Nat) : up l ++ [((x : Nat) : Int)] = up (l ++ [x]) := by simp [up]
theorem sput_l7 {n a b r : Nat} (l : List Nat) (hl : l.length ≤ 4) (hx : ∀ x ∈ l, x < 65536) (hr : r < 100) (v2 v7 : Int) (v3 : DF) (kx : List Int → Int → DF → Int → Int → Int → Option R) : ∀ (m i k : Nat), i + m = l.length → m < k →
    s_l04Put_l7 K k (up l) v2 v3 v7 (r : Int) ((mkB (fun i => (l.getD i 0).testBit r) i : Nat) : Int) (i : Int) kx = kx (up l) v2 v3 v7 (r : Int) ((packN l r : Nat) : Int)
  | _, _, 0, _, h => by omega
  | 0, i, k + 1, e, _ => by
    obtain rfl : i = l.length := by omega
    simp only [s_l04Put_l7, up_len]; rw [ite_f (decide_eq_false (by omega))]; rfl
  | m + 1, i, k + 1, e, hk => by
    have ih := sput_l7 (n := n) (a := a) (b := b) (r := r) l hl hx hr v2 v7 v3 kx m (i + 1) k (by omega) (by omega)
    rw [mkB_succ] at ih
    have hx1 := getD_all (by decide) hx i
    simp only [s_l04Put_l7, up_len]
    rw [ite_t (decide_eq_true (by omega)), ite_t (bnds_n (by omega)), ite_t (u64_dec _), ite_t (u64_dec _), u64n (by omega), u64n (by omega), up_getI, bitI_bt r (by omega), shl_bt (by omega), or_dg (mkB_lt _ _) (by omega), w64s (by omega), ih]
theorem sput_l3 {n a b : Nat} (hn : n ≤ 4) (hb : b < 65536) (l : List Nat) (hl : l.length ≤ 4) (hx : ∀ x ∈ l, x < 65536) (kx : Int → Option R) : ∀ (m r k : Nat), r + m = 2 ^ n → m + 100 < k →
    s_l04Put_l3 K k (up l) (n : Int) (fN a b) ((mkB (fun r => b.testBit (packN l r)) r : Nat) : Int) (r : Int) kx = kx ((putN b n l : Nat) : Int)
  | _, _, 0, _, h => by omega
  | 0, r, k + 1, e, _ => by
    obtain rfl : r = 2 ^ n := by omega
    simp only [s_l04Put_l3]; rw [s_l01Rows_eq (by omega), some_bind', ite_f (decide_eq_false (by omega))]; rfl
  | m + 1, r, k + 1, e, hk => by
    have hp : 2 ^ n ≤ 16 := Nat.pow_le_pow_right (by decide) hn
    have ih := sput_l3 (a := a) hn hb l hl hx kx m (r + 1) k (by omega) (by omega)
    rw [mkB_succ] at ih
    have h16 : packN l r < 16 := Nat.lt_of_lt_of_le (packN_lt l r) (Nat.pow_le_pow_right (by decide) hl)
    simp only [s_l04Put_l3]
    rw [s_l01Rows_eq (by omega), some_bind', ite_t (decide_eq_true (by omega))]
    refine (sput_l7 (K := K) (n := n) (a := a) (b := b) (r := r) l hl hx (by omega) _ _ _ _ l.length 0 k (by omega) (by omega)).trans ?_
    rw [fN, s_l01At_eq (by omega) (by omega), some_bind', ite_t (u64_dec _), u64n (by omega), shl_bt (by omega), or_dg (mkB_lt _ _) (by omega), w64s (by omega)]
    exact ih
theorem s_l04Put_eq {a b n : Nat} (hb : b < 65536) (hn : n ≤ 4) (l : List Nat) (hl : l.length ≤ 4) (hx : ∀ x ∈ l, x < 65536) (hK : 1000 ≤ K) : s_l04Put K (fN a b, up l, (n : Int), ()) = some ((putN b n l : Nat) : Int) := by
  have hp : 2 ^ n ≤ 16 := Nat.pow_le_pow_right (by decide) hn
  simp only [s_l04Put]
  exact sput_l3 (K := K) (a := a) hn hb l hl hx (fun z11 => some z11) (2 ^ n) 0 K (by omega) (by omega)
theorem stepS_flag {b n : Nat} {kn : List Nat} {d : Int} : ∀ (m : Nat) (l : List Nat) (D : List Int) (c : Bool), stepS b n kn d m l (D, c) = ((stepS b n kn d m l (D, false)).1, c || (stepS b n kn d m l (D, false)).2)
  | 0, l, D, c => by
    simp only [stepS, hitG]
    split
    · simp
    · simp
  | m + 1, l, D, c => by
    have key : ∀ (q : List Nat) (D : List Int) (c : Bool), q.foldl (fun s h => stepS b n kn d m (l ++ [h]) s) (D, c) = ((q.foldl (fun s h => stepS b n kn d m (l ++ [h]) s) (D, false)).1, c || (q.foldl (fun s h => stepS b n kn d m (l ++ [h]) s) (D, false)).2) := by
      intro q
      induction q with
      | nil => intro D c; simp
      | cons y q ih =>
        intro D c
        rw [List.foldl_cons, List.foldl_cons, stepS_flag m _ D c, ih, ih (stepS b n kn d m (l ++ [y]) (D, false)).1 (stepS b n kn d m (l ++ [y]) (D, false)).2, Bool.or_assoc]
    exact key kn D c
theorem stepS_len {b n : Nat} {kn : List Nat} {d : Int} : ∀ (m : Nat) (l : List Nat) (s : GS), (stepS b n kn d m l s).1.length = s.1.length
  | 0, l, s => ghit_len
  | m + 1, l, s => by
    have : ∀ (q : List Nat) (s : GS), (q.foldl (fun s h => stepS b n kn d m (l ++ [h]) s) s).1.length = s.1.length := by
      intro q
      induction q with
      | nil => intro s; rfl
      | cons y q ih => intro s; rw [List.foldl_cons, ih]; exact stepS_len m _ _
    exact this kn s
abbrev RRes := Bool × (List Int × List Int × List Int × Unit)
theorem sround_l9 {n a b m : Nat} {kn l : List Nat} {d : Int} (hkl : kn.length ≤ 65536) (hl : l.length ≤ 10) (r : (DF × List Int × List Int × List Int × Int × Int × Unit) → Option RRes)
    (hr : ∀ x ∈ kn, ∀ D : List Int, D.length = 2 ^ 2 ^ n → r (fN a b, D, up kn, up (l ++ [x]), (n : Int), d, ()) = some ((stepS b n kn d m (l ++ [x]) (D, false)).2, ((stepS b n kn d m (l ++ [x]) (D, false)).1, up kn, up (l ++ [x]), ())))
    (kx : List Int → List Int → List Int → Bool → Option R) : ∀ (q p : List Nat) (k : Nat) (s : GS), kn = p ++ q → q.length < k → s.1.length = 2 ^ 2 ^ n →
    s_l04Round_l9 K r k s.1 (up kn) (up l) (n : Int) d (fN a b) s.2 (p.length : Int) kx = kx (q.foldl (fun s h => stepS b n kn d m (l ++ [h]) s) s).1 (up kn) (up l) (q.foldl (fun s h => stepS b n kn d m (l ++ [h]) s) s).2
  | _, _, 0, _, _, h, _ => by omega
  | [], p, k + 1, s, e, _, _ => by
    rw [List.append_nil] at e
    simp only [s_l04Round_l9, up_len]; rw [ite_f (decide_eq_false (by rw [e]; omega))]; rfl
  | y :: q, p, k + 1, s, e, hk, hs => by
    obtain ⟨D, c⟩ := s
    have hlen : kn.length = p.length + (q.length + 1) := by rw [e]; simp
    have hy : kn.getD p.length 0 = y := by rw [e]; simp [List.getD]
    have hm : y ∈ kn := by rw [e]; simp
    have hlim : (1099511627776 : Nat) = lim := rfl
    have ih := sround_l9 (kn := kn) (l := l) hkl hl r hr kx q (p ++ [y]) k (stepS b n kn d m (l ++ [y]) (D, c)) (by rw [e]; simp) (by simp at hk; omega) (by rw [stepS_len]; exact hs)
    rw [snoc_len] at ih
    have hr1 := hr y hm D hs
    simp only [s_l04Round_l9, up_len, s_l01Own]
    rw [ite_t (decide_eq_true (by omega)), ite_t (decide_eq_true (by simp only [List.length_nil]; omega)), List.nil_append, some_bind', ite_t (bnds_n (by omega)), up_getI, hy, ite_t (decide_eq_true (by simp only [List.length_cons, List.length_nil, up_len]; omega)), up_snoc, hr1, some_bind', w64s (by omega), List.foldl_cons, ← ih, stepS_flag m (l ++ [y]) D c]
    cases (stepS b n kn d m (l ++ [y]) (D, false)).2
    · rw [ite_f rfl, Bool.or_false]
    · rw [ite_t rfl, Bool.or_true]
theorem s_l04Round_eq {n a b : Nat} (hn : n ≤ 4) (ha : a ≤ 4) (hb : b < 65536) {kn : List Nat} (hkl : kn.length ≤ 65536) (hkn : ∀ x ∈ kn, x < 2 ^ 2 ^ n) {d : Int} (hK : 4611686018427387904 ≤ K) : ∀ (m k : Nat) (l : List Nat) (D : List Int), l.length + m = a → m < k → (∀ x ∈ l, x < 2 ^ 2 ^ n) → D.length = 2 ^ 2 ^ n →
    s_l04Round K k (fN a b, D, up kn, up l, (n : Int), d, ()) = some ((stepS b n kn d m l (D, false)).2, ((stepS b n kn d m l (D, false)).1, up kn, up l, ()))
  | _, 0, _, _, _, h, _, _ => by omega
  | 0, k + 1, l, D, hl, _, hx, hD => by
    have h16 := pp4 hn
    have hp := putN_lt b n l
    simp only [s_l04Round, s_l04Round_b, up_len]
    refine (ite_t (decide_eq_true (show (l.length : Int) = (a : Int) by omega))).trans ?_
    rw [s_l04Put_eq hb hn l (by omega) (fun x h => Nat.lt_of_lt_of_le (hx x h) h16) (by omega), some_bind', ite_t (bnds_n (by omega)), Int.toNat_natCast, stepS, hitG]
    by_cases h0 : D.getD (putN b n l) 0 < 0
    · rw [ite_f (decide_eq_false (by omega)), ite_t (bnds_n (by omega)), if_pos h0]
    · rw [ite_t (decide_eq_true (by omega)), if_neg h0]
  | m + 1, k + 1, l, D, hl, hk, hx, hD => by
    have ih := s_l04Round_eq hn ha hb hkl hkn (d := d) hK m k
    simp only [s_l04Round, s_l04Round_b, up_len]
    refine (ite_f (decide_eq_false (show ¬ (l.length : Int) = (a : Int) by omega))).trans ?_
    refine (sround_l9 (K := K) (m := m) hkl (by omega) (s_l04Round K k) (fun x hxk D hD => ih (l ++ [x]) D (by simp; omega) (by omega) (fun y hy => by
      rcases List.mem_append.1 hy with e | e
      · exact hx y e
      · rw [List.mem_singleton.1 e]; exact hkn x hxk) hD) _ kn [] K (D, false) rfl (by omega) hD).trans ?_
    rfl
theorem sdep_l3 {n : Nat} (hn : n ≤ 4) (v0 : List DF) (kx : List DF → Int → List Int → Option R) : ∀ (m i k : Nat), i + m = 2 ^ 2 ^ n → m < k →
    s_l04Depths_l3 K k v0 (n : Int) (List.replicate i (-1)) (i : Int) kx = kx v0 (n : Int) (List.replicate (2 ^ 2 ^ n) (-1))
  | _, _, 0, _, h => by omega
  | 0, i, k + 1, e, _ => by
    obtain rfl : i = 2 ^ 2 ^ n := by omega
    simp only [s_l04Depths_l3]; rw [s_l01All_eq hn, some_bind', ite_f (decide_eq_false (by omega))]
  | m + 1, i, k + 1, e, hk => by
    have h16 := pp4 hn
    have hlim : (1099511627776 : Nat) = lim := rfl
    have ih := sdep_l3 hn v0 kx m (i + 1) k (by omega) (by omega)
    simp only [s_l04Depths_l3]
    rw [s_l01All_eq hn, some_bind', ite_t (decide_eq_true (by omega)), ite_t (decide_eq_true (by simp only [List.length_replicate, List.length_cons, List.length_nil]; omega)), w64s (by omega), ← ih, List.replicate_succ']
theorem sproj_eq {n i : Nat} (hn : n = 2 ∨ n = 3) (hi : i < n) : s_l01Projection KK ((n : Int), (i : Int), ()) = some (fN n (projN n i)) := by
  have : (n = 2 ∧ (i = 0 ∨ i = 1)) ∨ (n = 3 ∧ (i = 0 ∨ i = 1 ∨ i = 2)) := by omega
  rcases this with ⟨rfl, rfl | rfl⟩ | ⟨rfl, rfl | rfl | rfl⟩ <;> decide +kernel
theorem sdep_l7 {n : Nat} (hn : n = 2 ∨ n = 3) (v0 : List DF) (kx : List DF → Int → List Int → Option R) : ∀ (m i k : Nat) (D : List Int), i + m = n → m < k → D.length = 2 ^ 2 ^ n →
    s_l04Depths_l7 KK k v0 (n : Int) D (i : Int) kx = kx v0 (n : Int) ((List.range' i m).foldl (fun D i => D.set (projN n i) 0) D)
  | _, _, 0, _, _, h, _ => by omega
  | 0, i, k + 1, D, e, _, _ => by
    simp only [s_l04Depths_l7]; rw [ite_f (decide_eq_false (by omega))]; rfl
  | m + 1, i, k + 1, D, e, hk, hD => by
    have ih := sdep_l7 hn v0 kx m (i + 1) k (D.set (projN n i) 0) (by omega) (by omega) (by simpa using hD)
    have hp := projN_lt n i
    simp only [s_l04Depths_l7]
    rw [ite_t (decide_eq_true (by omega)), sproj_eq hn (by omega), some_bind']
    refine (ite_t (bnds_n (show projN n i < D.length by omega))).trans ?_
    rw [w64s (by omega), List.range'_succ, List.foldl_cons, ← ih]; rfl
theorem sdep_l17 {n : Nat} (hn : n ≤ 4) (v0 : List DF) {D : List Int} (hD : D.length = 2 ^ 2 ^ n) (v8 : Bool) (v9 : Int) (kx : List DF → Int → List Int → Bool → Int → List Int → Option R) : ∀ (m i k : Nat), i + m = 2 ^ 2 ^ n → m < k →
    s_l04Depths_l17 K k v0 (n : Int) D v8 v9 (up ((List.range i).filter fun i => decide (0 ≤ D.getD i 0))) (i : Int) kx = kx v0 (n : Int) D v8 v9 (up (knS D))
  | _, _, 0, _, h => by omega
  | 0, i, k + 1, e, _ => by
    obtain rfl : i = 2 ^ 2 ^ n := by omega
    simp only [s_l04Depths_l17]; rw [s_l01All_eq hn, some_bind', ite_f (decide_eq_false (by omega)), knS, hD]
  | m + 1, i, k + 1, e, hk => by
    have h16 := pp4 hn
    have hlim : (1099511627776 : Nat) = lim := rfl
    have ih := sdep_l17 hn v0 hD v8 v9 kx m (i + 1) k (by omega) (by omega)
    have hlen : (up ((List.range i).filter fun i => decide (0 ≤ D.getD i 0))).length ≤ i := by
      rw [up_len]; exact Nat.le_trans (List.length_filter_le _ _) (by simp)
    rw [List.range_succ, List.filter_append] at ih
    simp only [s_l04Depths_l17]
    rw [s_l01All_eq hn, some_bind', ite_t (decide_eq_true (by omega)), ite_t (bnds_n (by omega)), Int.toNat_natCast, w64s (by omega)]
    by_cases h0 : 0 ≤ D.getD i 0
    · rw [ite_t (decide_eq_true h0), ite_t (decide_eq_true (by simp only [List.length_cons, List.length_nil]; omega))]
      rw [show List.filter (fun i => decide (0 ≤ D.getD i 0)) [i] = [i] by rw [List.filter_cons_of_pos (by simpa using h0)]; rfl, ← up_snoc] at ih
      exact ih
    · rw [ite_f (decide_eq_false h0)]
      rw [show List.filter (fun i => decide (0 ≤ D.getD i 0)) [i] = [] by rw [List.filter_cons_of_neg (by simpa using h0)]; rfl, List.append_nil] at ih
      exact ih
theorem sdep_l22 {n : Nat} (hn : n ≤ 4) {fs : List (Nat × Nat)} (hf : okFs fs) {kn : List Nat} (hkl : kn.length ≤ 65536) (hkn : ∀ x ∈ kn, x < 2 ^ 2 ^ n) {d : Int} (hK : 4611686018427387904 ≤ K) (kx : List DF → Int → List Int → Bool → Int → Option R) : ∀ (q p : List (Nat × Nat)) (k : Nat) (s : GS), fs = p ++ q → q.length < k → s.1.length = 2 ^ 2 ^ n →
    s_l04Depths_l22 K k (fsN fs) (n : Int) s.1 s.2 d (up kn) (p.length : Int) kx = kx (fsN fs) (n : Int) (roundS q n kn d s).1 (roundS q n kn d s).2 d
  | _, _, 0, _, _, h, _ => by omega
  | [], p, k + 1, s, e, _, _ => by
    rw [List.append_nil] at e
    simp only [s_l04Depths_l22]; rw [ite_f (decide_eq_false (by rw [e]; simp [fsN]))]; rfl
  | f :: q, p, k + 1, s, e, hk, hs => by
    obtain ⟨D, c⟩ := s
    have hfl := hf.2
    have hlen : (fsN fs).length = p.length + (q.length + 1) := by rw [e]; simp [fsN]
    have hlen2 : fs.length = p.length + (q.length + 1) := by rw [e]; simp
    have hy : (fsN fs).getD p.length ((0 : Int), (0 : Int), ()) = fN f.1 f.2 := by rw [e]; simp [fsN, List.getD]
    have hff := hf.1 f (by rw [e]; simp)
    have ih := sdep_l22 (d := d) hn hf hkl hkn hK kx q (p ++ [f]) k (stepS f.2 n kn d f.1 [] (D, c)) (by rw [e]; simp) (by simp at hk; omega) (by rw [stepS_len]; exact hs)
    rw [snoc_len] at ih
    have hr := s_l04Round_eq (K := K) (d := d) hn hff.1 (Nat.lt_of_lt_of_le hff.2 (pp4 hff.1)) hkl hkn hK f.1 K [] D (by simp) (by omega) (fun _ h => by cases h) hs
    simp only [s_l04Depths_l22]
    rw [ite_t (decide_eq_true (by omega)), ite_t (bnds_n (by omega)), Int.toNat_natCast, hy]
    rw [show ([] : List Int) = up [] from rfl, hr, some_bind', w64s (by omega)]
    rw [show roundS (f :: q) n kn d (D, c) = roundS q n kn d (stepS f.2 n kn d f.1 [] (D, c)) from rfl, ← ih, stepS_flag f.1 [] D c]
    cases (stepS f.2 n kn d f.1 [] (D, false)).2
    · rw [ite_f rfl, Bool.or_false]
    · rw [ite_t rfl, Bool.or_true]
theorem knS_lt {D : List Int} : (knS D).length ≤ D.length ∧ ∀ x ∈ knS D, x < D.length := by
  refine ⟨Nat.le_trans (List.length_filter_le _ _) (by simp), fun x hx => ?_⟩
  exact List.mem_range.1 (List.mem_filter.1 hx).1
theorem roundS_len {n : Nat} {kn : List Nat} {d : Int} : ∀ (fs : List (Nat × Nat)) (s : GS), (roundS fs n kn d s).1.length = s.1.length
  | [], _ => rfl
  | f :: fs, s => (roundS_len fs _).trans (stepS_len _ _ _)
theorem sdep_l12 {n : Nat} (hn : n ≤ 4) {fs : List (Nat × Nat)} (hf : okFs fs) (hK : 4611686018427387904 ≤ K) (kx : List Int → Option R) : ∀ (c k : Nat) (d : Int) (D : List Int), 0 ≤ d → d + c < 1000000 → D.length = 2 ^ 2 ^ n → negs D ≤ c → c + 100000 < k →
    s_l04Depths_l12 K k (fsN fs) (n : Int) D true d kx = kx (genS fs n (c + 1) d D)
  | _, 0, _, _, _, _, _, _, h => by omega
  | c, k + 1, d, D, h0, hd, hD, hc, hk => by
    have h16 := pp4 hn
    have hfl := hf.2
    have hk2 := knS_lt (D := D)
    rw [s_l04Depths_l12, if_pos rfl]
    rw [show ([] : List Int) = up ((List.range 0).filter fun i => decide (0 ≤ D.getD i 0)) from rfl]
    refine (sdep_l17 (K := K) hn (fsN fs) hD false d _ (2 ^ 2 ^ n) 0 k (by omega) (by omega)).trans ?_
    refine (sdep_l22 (K := K) hn hf (by omega) (fun x hx => by rw [← hD]; exact hk2.2 x hx) hK _ fs [] k (D, false) rfl (by omega) hD).trans ?_
    rw [genS, w64 (by omega) (by omega)]
    have hadv := ground_adv (n := n) (kn := knS D) h0 fs (D, false)
    cases hb : (roundS fs n (knS D) d (D, false)).2
    · obtain ⟨k', rfl⟩ : ∃ k', k = k' + 1 := ⟨k - 1, by omega⟩
      rw [s_l04Depths_l12, if_neg (by decide), if_neg (by decide)]
    · have hlt : negs (roundS fs n (knS D) d (D, false)).1 < negs D := by
        rcases hadv with e | e
        · rw [e] at hb; cases hb
        · exact e.2
      obtain ⟨c', rfl⟩ : ∃ c', c = c' + 1 := ⟨c - 1, by omega⟩
      rw [if_pos rfl]
      exact sdep_l12 hn hf hK kx c' k (d + 1) _ (by omega) (by omega) (by rw [roundS_len]; exact hD) (by omega) (by omega)
theorem s_l04Depths_eq {n : Nat} (hn : n = 2 ∨ n = 3) {fs : List (Nat × Nat)} (hf : okFs fs) : s_l04Depths KK (fsN fs, (n : Int), ()) = some (genD fs n) := by
  have hn4 : n ≤ 4 := by omega
  have h16 := pp4 hn4
  have hKK : (9223372036854775808 : Nat) = KK := rfl
  simp only [s_l04Depths]
  rw [show ([] : List Int) = List.replicate 0 (-1) from rfl]
  refine (sdep_l3 (K := KK) hn4 (fsN fs) _ (2 ^ 2 ^ n) 0 KK (by omega) (by omega)).trans ?_
  refine (sdep_l7 hn (fsN fs) _ n 0 KK (List.replicate (2 ^ 2 ^ n) (-1)) (by omega) (by omega) (by simp)).trans ?_
  rw [← List.range_eq_range']
  have hg := initG_negs hn4
  refine (sdep_l12 (K := KK) hn4 hf KK_ge (fun z29 => some z29) 65536 KK 1 (initG n) (by omega) (by omega) (initG_len n) hg (by omega)).trans ?_
  rw [genD, genS_fuel (65536 + 1) KK 1 (initG n) (by omega) (by omega) (by omega)]
theorem s_l04Code_eq {l : List DF} (hl : l.length < 4611686018427387904) (n : Int) (hK : 4611686018427387904 ≤ K) : s_l04Code K (l, n, ()) = some (codeG l n) := by
  simp only [s_l04Code]
  rw [s_l02Code_eq hl hK, some_bind', codeG]
  by_cases hc : codeV l = 0
  · rw [hc, ite_f (by rfl), if_pos rfl, s_l01In_eq, some_bind']
    by_cases hn : 2 ≤ n ∧ n ≤ 3
    · rw [decide_eq_true hn.1, decide_eq_true hn.2, ite_f (by rfl), if_pos hn]
      refine (lpLA (l := l) (L := fun k i => s_l04Code_l7 K k l n i (some (0 : Int)) (fun z4 => some z4)) (g := fun f => !(decide (n = 3) && decide (f.1 > 2))) (B := 0) (kx := some 0) (kf := some 2) (fun k => ?_) (fun k p y r e _ => ?_) l [] K rfl (by omega)).trans ?_
      · simp only [s_l04Code_l7]; rw [ite_f (decide_eq_false (by omega))]
      · subst e
        simp only [s_l04Code_l7]
        rw [ite_t lt_len, ite_t bnds_mid, getD_midI, next_i hl]
        by_cases h3 : n = 3
        · rw [ite_t (decide_eq_true h3), decide_eq_true h3, Bool.true_and]
          cases decide (y.1 > 2)
          · rw [ite_f rfl, if_pos (by rfl)]
          · rw [ite_t rfl, if_neg (by decide)]
        · rw [ite_f (decide_eq_false h3), decide_eq_false h3, Bool.false_and, if_pos (by rfl)]
      · by_cases h3 : n = 3 ∧ (l.any fun f => decide (f.1 > 2)) = true
        · rw [if_pos h3, if_neg]
          intro hall
          obtain ⟨f, hf, h2⟩ := List.any_eq_true.1 h3.2
          have := List.all_eq_true.1 hall f hf
          rw [h2, decide_eq_true h3.1] at this; cases this
        · rw [if_neg h3, if_pos]
          rw [List.all_eq_true]
          intro f hf
          cases h2 : decide (f.1 > 2)
          · simp
          · rw [decide_eq_false fun h => h3 ⟨h, List.any_eq_true.2 ⟨f, hf, h2⟩⟩]; rfl
    · rw [ite_t (by
        by_cases h2 : 2 ≤ n
        · rw [decide_eq_true h2, decide_eq_false (fun h => hn ⟨h2, h⟩)]; rfl
        · rw [decide_eq_false h2]; rfl), if_neg hn]
  · rw [ite_t (by rw [decide_eq_false hc]; rfl), if_neg hc]
noncomputable def kindBoth (b k : Nat) : Bool := match i_Func_isOfKind KK (fN 3 b, (k : Int), ()), s_l10Kind KK (fN 3 b, (k : Int), ()) with
  | some x, some y => x == y
  | _, _ => false
theorem kinds_all : ((List.range 256).all fun b => (List.range 4).all fun k => kindBoth b k) = true := by decide +kernel
noncomputable def kB (k b : Nat) : Bool := (i_Func_isOfKind KK (fN 3 b, (k : Int), ())).getD false
theorem kB_eq {k b : Nat} (hk : k < 4) (hb : b < 256) : i_Func_isOfKind KK (fN 3 b, (k : Int), ()) = some (kB k b) ∧ s_l10Kind KK (fN 3 b, (k : Int), ()) = some (kB k b) := by
  have h := List.all_eq_true.1 (List.all_eq_true.1 kinds_all b (List.mem_range.2 hb)) k (List.mem_range.2 hk)
  unfold kindBoth at h
  unfold kB
  cases h1 : i_Func_isOfKind KK (fN 3 b, (k : Int), ()) with
  | none => rw [h1] at h; cases h
  | some x =>
    cases h2 : s_l10Kind KK (fN 3 b, (k : Int), ()) with
    | none => rw [h1, h2] at h; cases h
    | some y =>
      rw [h1, h2] at h
      have h : (x == y) = true := h
      have : x = y := by simpa using h
      subst this
      exact ⟨rfl, rfl⟩
/-- the first function of a kind -/
noncomputable def firstK (k : Nat) (L : List Nat) : DF × Int × Unit := match L.find? (kB k) with
  | some b => (fN 3 b, 0, ())
  | none => (((0 : Int), (0 : Int), ()), 4, ())
theorem find_idx (g : Nat → Bool) : ∀ (L : List Nat) (f : DF → Bool), (∀ b ∈ L, f (fN 3 b) = g b) → (match (fnsN 3 L).findIdx? f with | some j => some ((fnsN 3 L).getD j ((0 : Int), (0 : Int), ())) | none => none) = (L.find? g).map (fN 3)
  | [], f, _ => rfl
  | b :: L, f, h => by
    have ih := find_idx g L f fun x hx => h x (List.mem_cons_of_mem _ hx)
    have hb := h b (List.mem_cons_self ..)
    rw [show fnsN 3 (b :: L) = fN 3 b :: fnsN 3 L from rfl, List.findIdx?_cons, hb, List.find?_cons]
    cases g b
    · rw [if_neg (by decide)]
      rw [← ih]
      cases (fnsN 3 L).findIdx? f <;> rfl
    · rw [if_pos rfl]; rfl
theorem i_find {k : Nat} (hk : k < 4) {L : List Nat} (hL : ∀ b ∈ L, b < 256) (hl : L.length ≤ 256) : ((slices_IndexFunc_impl_Func KK (fnsN 3 L, (fun y5 => i_FindOfKind_c1 KK (y5.1, (k : Int), ())), ())).bind fun y4 =>
    (if (decide (y4 < (0 : Int))) = true then some (((0 : Int), (0 : Int), ()), (4 : Int), ()) else (if (bnds y4 ((fnsN 3 L).length : Int)) = true then some (((fnsN 3 L).getD y4.toNat ((0 : Int), (0 : Int), ())), (0 : Int), ()) else none))) = some (firstK k L) := by
  have hf : ∀ x ∈ fnsN 3 L, (fun y5 : DF × Unit => i_FindOfKind_c1 KK (y5.1, (k : Int), ())) (x, ()) = some (kB k x.2.1.toNat) := fun x hx => by
    obtain ⟨b, hb, rfl⟩ := List.mem_map.1 hx
    simp only [i_FindOfKind_c1]
    rw [(kB_eq hk (hL b hb)).1, some_bind']; rfl
  have hlen := fns_len 3 L
  have hKK : (9223372036854775808 : Nat) = KK := rfl
  have h1 := idx_impl_Func_l (K := KK) (fun y5 : DF × Unit => i_FindOfKind_c1 KK (y5.1, (k : Int), ())) (fun x => kB k x.2.1.toNat) (fnsN 3 L) (by omega) (some (-1 : Int)) (fun z => some z) (fnsN 3 L) [] KK rfl (by omega) hf
  simp only [List.length_nil, Nat.zero_add] at h1
  rw [show ((0 : Nat) : Int) = 0 from rfl] at h1
  have h2 := find_idx (kB k) L (fun x => kB k x.2.1.toNat) fun b _ => rfl
  simp only [slices_IndexFunc_impl_Func]
  rw [h1]
  unfold firstK
  cases hc : (fnsN 3 L).findIdx? fun x => kB k x.2.1.toNat with
  | none =>
    rw [hc] at h2
    cases hd : L.find? (kB k) with
    | none => rfl
    | some b => rw [hd] at h2; cases h2
  | some j =>
    rw [hc] at h2
    have hj : j < (fnsN 3 L).length := by
      have := List.findIdx?_eq_some_iff_getElem.1 hc
      exact this.1
    cases hd : L.find? (kB k) with
    | none => rw [hd] at h2; cases h2
    | some b =>
      rw [hd] at h2
      have h2 : some ((fnsN 3 L).getD j ((0 : Int), (0 : Int), ())) = some (fN 3 b) := h2
      injection h2 with h2
      simp only [some_bind']
      rw [ite_f (decide_eq_false (by omega)), ite_t (bnds_n hj), Int.toNat_natCast, h2]
theorem s_find {k : Nat} (hk : k < 4) {D : List Int} (hD : D.length = 256) (v4 : DF) (kx : DF → Option R) (kr : DF → Int → Option R) : ∀ (m i f : Nat), i + m = 256 → m < f →
    s_FindOfKind_l10 KK f (k : Int) v4 D (i : Int) kx kr = match ((List.range' i m).filter fun i => decide (0 ≤ D.getD i 0)).find? (kB k) with | some b => kr (fN 3 b) 0 | none => kx v4
  | _, _, 0, _, h => by omega
  | 0, i, f + 1, e, _ => by
    simp only [s_FindOfKind_l10]; rw [ite_f (decide_eq_false (by omega))]; rfl
  | m + 1, i, f + 1, e, hf => by
    have ih := s_find hk hD v4 kx kr m (i + 1) f (by omega) (by omega)
    simp only [s_FindOfKind_l10]
    rw [ite_t (decide_eq_true (by omega)), ite_t (bnds_n (by omega)), Int.toNat_natCast, w64s (by omega), ih, List.range'_succ, List.filter_cons]
    by_cases h0 : 0 ≤ D.getD i 0
    · rw [ite_t (decide_eq_true h0), if_pos (decide_eq_true h0), List.find?_cons]
      have hkb := (kB_eq hk (show i < 256 by omega)).2
      refine (congrArg (fun o => Option.bind o _) (show s_l10Kind KK (((3 : Int), (i : Int), ()), (k : Int), ()) = some (kB k i) from hkb)).trans ?_
      rw [some_bind']
      cases kB k i
      · rw [ite_f rfl]
      · rw [ite_t rfl]; rfl
    · rw [ite_f (decide_eq_false h0), if_neg (by simpa using h0)]
/-- What both answer. -/
noncomputable def findV (l : List DF) (kind : Int) : DF × Int × Unit :=
  if codeV l = 1 then (((0 : Int), (0 : Int), ()), 1, ()) else if ¬ (0 ≤ kind ∧ kind ≤ 3) then (((0 : Int), (0 : Int), ()), 2, ()) else if codeG l 3 ≠ 0 then (((0 : Int), (0 : Int), ()), codeG l 3, ()) else firstK kind.toNat (knS (genD (l.map fun f => (f.1.toNat, f.2.1.toNat)) 3))
theorem codeG_V {l : List DF} {n : Int} (h : codeG l n = 0) : codeV l = 0 := by
  unfold codeG at h
  by_cases h0 : codeV l = 0
  · exact h0
  · rw [if_neg h0] at h; exact h
theorem fs_eq {l : List DF} (h : codeV l = 0) : l = fsN (l.map fun f => (f.1.toNat, f.2.1.toNat)) ∧ okFs (l.map fun f => (f.1.toNat, f.2.1.toNat)) := by
  obtain ⟨fs, h1, h2, h3⟩ := fs_of h
  have e : (l.map fun f : DF => (f.1.toNat, f.2.1.toNat)) = fs := by
    rw [h1, fsN, List.map_map]
    exact (List.map_congr_left (fun f _ => rfl)).trans (List.map_id' fs)
  rw [e]; exact ⟨h1, h2⟩
theorem gen_len {fs : List (Nat × Nat)} : (genD fs 3).length = 256 := by rw [genD, genS_len, initG_len]
theorem i_FindOfKind_eq {l : List DF} (hl : l.length < 4611686018427387904) (kind : Int) : i_FindOfKind KK (l, kind, ()) = some (findV l kind) := by
  simp only [i_FindOfKind]
  rw [i_areFuncs_eq hl KK_ge, some_bind']
  unfold findV
  cases hall : l.all (isF 0)
  · rw [ite_t (c := !false) rfl, if_pos (by unfold codeV; rw [hall]; rfl)]
  · have hc1 : codeV l ≠ 1 := by unfold codeV; rw [hall, if_pos rfl]; split <;> decide
    rw [ite_f (c := !true) rfl, if_neg hc1]
    simp only [i_isKind]
    rw [i_within_eq, some_bind', some_bind']
    by_cases hk : 0 ≤ kind ∧ kind ≤ 3
    · rw [decide_eq_true hk.1, decide_eq_true hk.2, ite_f (by rfl), if_neg (fun h => h hk)]
      by_cases hg : codeG l 3 = 0
      · obtain ⟨h1, h2⟩ := fs_eq (codeG_V hg)
        rw [if_neg (fun h => h hg)]
        have hgb := i_GeneratedBy_ok h2 (n := 3) (Or.inr rfl) (by rw [← h1]; exact hg)
        rw [← h1] at hgb
        rw [show ((3 : Nat) : Int) = 3 from rfl] at hgb
        rw [hgb, some_bind']
        refine (ite_f (by rfl)).trans ?_
        have hkn := knS_lt (D := genD (l.map fun f => (f.1.toNat, f.2.1.toNat)) 3)
        rw [gen_len] at hkn
        obtain ⟨k, rfl⟩ := Int.eq_ofNat_of_zero_le hk.1
        exact i_find (show k < 4 by omega) hkn.2 hkn.1
      · rw [i_GeneratedBy_bad hl hg, some_bind', if_pos hg]
        refine (ite_t ?_).trans rfl
        show (!decide (codeG l 3 = 0)) = true
        rw [decide_eq_false hg]; rfl
    · rw [ite_t (by
        by_cases h2 : 0 ≤ kind
        · rw [decide_eq_true h2, decide_eq_false (fun h => hk ⟨h2, h⟩)]; rfl
        · rw [decide_eq_false h2]; rfl), if_pos hk]
theorem nilcode {k : Nat} (kind : Int) (F kr : Int → Option R) : s_l10Code_l2 K (k + 1) kind [] (0 : Int) F kr = F kind := by
  simp only [s_l10Code_l2]
  rw [ite_f (by rfl)]
theorem s_l10Code_nil (kind : Int) : s_l10Code KK (kind, [], ()) = some (if 0 ≤ kind ∧ kind ≤ 3 then 0 else 2) := by
  have hKK : KK = 9223372036854775807 + 1 := rfl
  have this : ∀ (F kr : Int → Option Int), s_l10Code_l2 KK KK kind [] (0 : Int) F kr = F kind := fun F kr => (congrArg (fun k => s_l10Code_l2 KK k kind [] (0 : Int) F kr) hKK).trans (nilcode kind F kr)
  simp only [s_l10Code]
  rw [this, s_l01In_eq, some_bind']
  by_cases hk : 0 ≤ kind ∧ kind ≤ 3
  · rw [decide_eq_true hk.1, decide_eq_true hk.2, if_pos hk]; rfl
  · rw [ite_t (by
      by_cases h2 : 0 ≤ kind
      · rw [decide_eq_true h2, decide_eq_false (fun h => hk ⟨h2, h⟩)]; rfl
      · rw [decide_eq_false h2]; rfl), if_neg hk]
theorem s_FindOfKind_eq {l : List DF} (hl : l.length < 4611686018427387904) (kind : Int) : s_FindOfKind KK (l, kind, ()) = some (findV l kind) := by
  have hj6 : ∀ (v6 : Int) (kr : DF → Int → Option (DF × Int × Unit)), v6 ≠ 0 → s_FindOfKind_j6 KK KK l kind ((0 : Int), (0 : Int), ()) v6 none kr = kr ((0 : Int), (0 : Int), ()) v6 := fun v6 kr h => by
    simp only [s_FindOfKind_j6]
    rw [ite_t (by rw [decide_eq_false h]; rfl)]
  simp only [s_FindOfKind]
  rw [s_l02Code_eq hl KK_ge, some_bind']
  unfold findV
  by_cases hc : codeV l = 0
  · rw [ite_t (decide_eq_true hc), s_l10Code_nil, some_bind', if_neg (c := codeV l = 1) (by rw [hc]; decide)]
    simp only [s_FindOfKind_j4]
    by_cases hk : 0 ≤ kind ∧ kind ≤ 3
    · rw [if_pos hk, ite_t (by rfl), if_neg (fun h => h hk), s_l04Code_eq hl 3 KK_ge, some_bind']
      by_cases hg : codeG l 3 = 0
      · rw [if_neg (fun h => h hg), hg]
        simp only [s_FindOfKind_j6]
        rw [ite_f (by rfl)]
        obtain ⟨h1, h2⟩ := fs_eq hc
        have hgd := s_l04Depths_eq (n := 3) (Or.inr rfl) h2
        rw [← h1, show ((3 : Nat) : Int) = 3 from rfl] at hgd
        rw [hgd, some_bind']
        obtain ⟨k, rfl⟩ := Int.eq_ofNat_of_zero_le hk.1
        have hKK : (9223372036854775808 : Nat) = KK := rfl
        refine (s_find (show k < 4 by omega) gen_len ((0 : Int), (0 : Int), ()) _ _ 256 0 KK (by omega) (by omega)).trans ?_
        rw [← List.range_eq_range', Int.toNat_natCast, firstK, knS, gen_len]
        split <;> rfl
      · rw [if_pos hg, hj6 _ _ hg]
    · rw [if_neg hk, ite_f (by rfl), if_pos hk, hj6 _ _ (by decide)]
  · rw [ite_f (decide_eq_false hc)]
    simp only [s_FindOfKind_j4]
    rw [ite_f (decide_eq_false hc), hj6 _ _ hc]
    have h2 : codeV l = 1 ∨ codeV l = 2 := by
      unfold codeV at hc ⊢
      split at hc
      · rename_i h; rw [if_pos h]; split at hc
        · rename_i h8; rw [if_pos h8]; exact Or.inr rfl
        · exact absurd rfl hc
      · rename_i h; rw [if_neg h]; exact Or.inl rfl
    rcases h2 with h2 | h2
    · rw [if_pos h2, h2]
    · rw [if_neg (by rw [h2]; decide), h2]
      have hg : codeG l 3 = 2 := by unfold codeG; rw [if_neg hc, h2]
      by_cases hk : 0 ≤ kind ∧ kind ≤ 3
      · rw [if_neg (fun h => h hk), if_pos (by rw [hg]; decide), hg]
      · rw [if_pos hk]
theorem law_FindOfKind {l : List DF} (hl : l.length ≤ 9223372036854775807) (kind : Int) : w_FnExactFindOfKind 9223372036854775808 (l, kind, ()) = some true := by
  show w_FnExactFindOfKind KK (l, kind, ()) = some true
  simp only [w_FnExactFindOfKind, w_szFuncS]
  rw [w64 (by omega) (by omega)]
  by_cases h : 1048576 < l.length
  · rw [ite_t (decide_eq_true (by omega)), some_bind', ite_t (decide_eq_true (by omega))]
  · have hl : l.length < 4611686018427387904 := by omega
    rw [ite_f (decide_eq_false (by omega)), some_bind', ite_f (decide_eq_false (by omega)), w_toFuncS_eq (by omega) KK_ge, some_bind', s_FindOfKind_eq hl, some_bind', some_bind', i_FindOfKind_eq hl, some_bind', w_eqFunc_self, some_bind', ite_f (c := !true) rfl,
      ite_f (by rw [decide_eq_true rfl]; rfl)]
    simp only [w_FnExactFindOfKind_j10]
    rw [w_toFuncS_eq (by omega) KK_ge, some_bind', w_eqFuncS_self hl KK_ge, some_bind']; rfl
end Go.Proofs.Ytmlgfaojfmkdnaa.E
namespace Go.Proofs.Ytmlgfaojfmkdnaa.E
open Go Go.Proofs
/-- FnExactFindOfKind, in plain numbers and lists: no condition but what is known of all data. -/
theorem PuFnExactFindOfKind (x : den as_w_FnExactFindOfKind) (h : okD as_w_FnExactFindOfKind x) : ∃ K, w_FnExactFindOfKind K x = some true := by
  obtain ⟨l, kind, u⟩ := x
  exact ⟨9223372036854775808, law_FindOfKind (Nat.le_trans h.1.1 (by decide)) kind⟩
end Go.Proofs.Ytmlgfaojfmkdnaa.E
