/-
  Plain lemmas: what the functions hand back, and that the statement holds of it. Conditions: those of each theorem.
-/
import Derived.Test.YtjbpdhfoeomabaaCFnDomains6
namespace Go.Proofs.Ytjbpdhfoeomabaa.E
open Go Go.Proofs
set_option linter.unusedVariables false
set_option linter.unusedSimpArgs false
variable {K : Nat} {R : Type}
theorem w64 {x : Int} (h1 : -9223372036854775808 ≤ x) (h2 : x < 9223372036854775808) : IntKind.i64.wrap x = x := by
  simp only [IntKind.wrap, IntKind.bits, IntKind.signed, Bool.true_and]
  simp only [show (2 : Int) ^ 64 = 18446744073709551616 from rfl, show (2 : Int) ^ (64 - 1) = 9223372036854775808 from rfl]
  split <;> rename_i h <;> simp only [decide_eq_true_eq] at h <;> omega
theorem w64n {n : Nat} (h : n < 9223372036854775808) : IntKind.i64.wrap (n : Int) = (n : Int) := w64 (by omega) (by omega)
theorem w64s {n : Nat} (h : n + 1 < 9223372036854775808) : IntKind.i64.wrap ((n : Int) + 1) = ((n + 1 : Nat) : Int) := by rw [w64 (by omega) (by omega)]; rfl
theorem w64m1 {n : Nat} (h : n < 9223372036854775808) : IntKind.i64.wrap ((n : Int) - 1) = (n : Int) - 1 := w64 (by omega) (by omega)
theorem u64n {n : Nat} (h : n < 18446744073709551616) : IntKind.u64.wrap (n : Int) = (n : Int) := by
  simp only [IntKind.wrap, IntKind.bits, IntKind.signed, Bool.false_and, Bool.false_eq_true, if_false]
  simp only [show (2 : Int) ^ 64 = 18446744073709551616 from rfl]
  omega
theorem u64_ge (x : Int) : 0 ≤ IntKind.u64.wrap x := by
  simp only [IntKind.wrap, IntKind.bits, IntKind.signed, Bool.false_and, Bool.false_eq_true, if_false]
  exact Int.emod_nonneg _ (by decide)
theorem u64_dec (x : Int) : decide ((0 : Int) ≤ IntKind.u64.wrap x) = true := decide_eq_true (u64_ge x)
theorem bnds_t {i n : Int} (h0 : 0 ≤ i) (h : i < n) : bnds i n = true := by simp [bnds, h0, h]
theorem bnds_n {i n : Nat} (h : i < n) : bnds (i : Int) (n : Int) = true := bnds_t (by omega) (by omega)
theorem nn (n : Nat) : decide ((0 : Int) ≤ (n : Int)) = true := decide_eq_true (by omega)
theorem emod2n (x : Nat) : ((x : Int) % 18446744073709551616).toNat = x % 18446744073709551616 := by omega
theorem bitI_and {a b : Nat} (ha : a < 9223372036854775808) (hb : b < 9223372036854775808) : bitI .and .i64 (a : Int) (b : Int) = ((a &&& b : Nat) : Int) := by
  have h : a &&& b ≤ a := Nat.and_le_left
  show IntKind.i64.wrap (((BitVec.ofInt 64 (a : Int) &&& BitVec.ofInt 64 (b : Int) : BitVec 64).toNat : Nat) : Int) = _
  simp only [BitVec.toNat_and, BitVec.toNat_ofInt]
  simp only [show ((2 ^ 64 : Nat) : Int) = 18446744073709551616 from rfl, emod2n]
  rw [Nat.mod_eq_of_lt (by omega), Nat.mod_eq_of_lt (by omega), w64n (by omega)]
theorem bitI_or {a b : Nat} (ha : a < 9223372036854775808) (hb : b < 9223372036854775808) : bitI .or .i64 (a : Int) (b : Int) = ((a ||| b : Nat) : Int) := by
  have h : a ||| b < 9223372036854775808 := Nat.or_lt_two_pow (n := 63) ha hb
  show IntKind.i64.wrap (((BitVec.ofInt 64 (a : Int) ||| BitVec.ofInt 64 (b : Int) : BitVec 64).toNat : Nat) : Int) = _
  simp only [BitVec.toNat_or, BitVec.toNat_ofInt]
  simp only [show ((2 ^ 64 : Nat) : Int) = 18446744073709551616 from rfl, emod2n]
  rw [Nat.mod_eq_of_lt (by omega), Nat.mod_eq_of_lt (by omega), w64n (by omega)]
theorem shrI_n (a j : Nat) (ha : a < 9223372036854775808) : shrI .i64 (a : Int) (j : Int) = ((a >>> j : Nat) : Int) := by
  simp only [shrI, IntKind.bits, Int.toNat_natCast, Nat.shiftRight_eq_div_pow]
  have : (2 : Int) ^ min j 64 = ((2 ^ min j 64 : Nat) : Int) := by simp
  rw [this, Int.fdiv_eq_ediv_of_nonneg _ (Int.natCast_nonneg _), ← Int.natCast_ediv]
  by_cases h : j ≤ 64
  · rw [Nat.min_eq_left h]
  · rw [Nat.min_eq_right (by omega), Nat.div_eq_of_lt (by omega), Nat.div_eq_of_lt]
    exact Nat.lt_of_lt_of_le ha (Nat.le_trans (show 9223372036854775808 ≤ 2 ^ 64 by decide) (Nat.pow_le_pow_right (by decide) (by omega)))
theorem shlI_n (a j : Nat) (h : a * 2 ^ j < 9223372036854775808) : shlI .i64 (a : Int) (j : Int) = ((a * 2 ^ j : Nat) : Int) := by
  simp only [shlI, IntKind.bits, Int.toNat_natCast]
  by_cases hj : j ≤ 64
  · rw [Nat.min_eq_left hj, ← w64n h]; congr 1
  · have ha : a = 0 := by
      rcases Nat.eq_zero_or_pos a with h0 | h0
      · exact h0
      · have := Nat.mul_le_mul_right (2 ^ j) h0
        have h2 : 2 ^ 64 ≤ 2 ^ j := Nat.pow_le_pow_right (by decide) (by omega)
        have : (18446744073709551616 : Nat) ≤ 2 ^ j := h2
        omega
    subst ha
    have := w64n (n := 0) (by decide)
    simpa using this
theorem pw_pos (j : Nat) : 0 < 2 ^ j := Nat.two_pow_pos j
theorem shl1 {j : Nat} (h : j < 63) : shlI .i64 (1 : Int) (j : Int) = ((2 ^ j : Nat) : Int) := by
  have h2 : 2 ^ j < 2 ^ 63 := Nat.pow_lt_pow_right (by decide) h
  have := shlI_n 1 j (by simpa using h2)
  simpa using this
/-- A digit of a number. -/
def bt (b j : Nat) : Int := if b.testBit j then 1 else 0
theorem bt_eq (b j : Nat) : bt b j = (((b >>> j) &&& 1 : Nat) : Int) := by
  unfold bt
  rw [Nat.and_one_is_mod, Nat.shiftRight_eq_div_pow]
  have := Nat.testBit_eq_decide_div_mod_eq (x := b) (i := j)
  rw [this]
  have h2 := Nat.mod_lt (b / 2 ^ j) (show 0 < 2 by decide)
  split <;> rename_i h <;> simp only [decide_eq_true_eq] at h <;> omega
theorem bt_1 {b j : Nat} : bt b j = 1 ↔ b.testBit j = true := by unfold bt; split <;> simp [*]
theorem bt_0 {b j : Nat} : bt b j = 0 ↔ b.testBit j = false := by unfold bt; split <;> simp [*]
theorem bitI_bt {b : Nat} (j : Nat) (hb : b < 9223372036854775808) : bitI .and .i64 (shrI .i64 (b : Int) (j : Int)) (1 : Int) = bt b j := by
  rw [shrI_n b j hb, show (1 : Int) = ((1 : Nat) : Int) from rfl, bitI_and ?_ (by decide), bt_eq]
  rw [Nat.shiftRight_eq_div_pow]; exact Nat.lt_of_le_of_lt (Nat.div_le_self _ _) hb
def mkB (g : Nat → Bool) : Nat → Nat
  | 0 => 0
  | n + 1 => mkB g n + (if g n then 2 ^ n else 0)
theorem mkB_lt (g : Nat → Bool) : ∀ n, mkB g n < 2 ^ n
  | 0 => by simp [mkB]
  | n + 1 => by
    have := mkB_lt g n
    rw [mkB, Nat.pow_succ]; split <;> omega
theorem mkB_bit (g : Nat → Bool) : ∀ (n j : Nat), (mkB g n).testBit j = (decide (j < n) && g j)
  | 0, j => by simp [mkB]
  | n + 1, j => by
    have hlt := mkB_lt g n
    rw [mkB]
    by_cases hg : g n = true
    · rw [if_pos hg, Nat.add_comm, show 2 ^ n + mkB g n = 2 ^ n ||| mkB g n from by simpa using Nat.two_pow_add_eq_or_of_lt hlt 1, Nat.testBit_or, Nat.testBit_two_pow]
      by_cases h : j = n
      · subst h; simp [hg]
      · rw [mkB_bit g n j]
        have : (decide (n = j)) = false := decide_eq_false (fun e => h e.symm)
        have e2 : decide (j < n + 1) = decide (j < n) := by apply decide_eq_decide.2; omega
        rw [e2]; simp [this]
    · rw [if_neg hg, Nat.add_zero, mkB_bit g n j]
      by_cases h : j = n
      · subst h; simp [hg]
      · have e2 : decide (j < n + 1) = decide (j < n) := by apply decide_eq_decide.2; omega
        rw [e2]
theorem or_pow {x n : Nat} (h : x < 2 ^ n) : x ||| 2 ^ n = x + 2 ^ n := by
  have := Nat.two_pow_add_eq_or_of_lt h 1
  rw [Nat.or_comm, Nat.add_comm]
  simpa using this.symm
theorem getD_mid {α : Type} (p r : List α) (y d : α) : (p ++ y :: r).getD p.length d = y := by
  simp [List.getD]
theorem getD_midI {α : Type} (p r : List α) (y d : α) : (p ++ y :: r).getD ((p.length : Int)).toNat d = y := by
  rw [Int.toNat_natCast]; exact getD_mid p r y d
theorem len_mid {α : Type} (p r : List α) (y : α) : p.length < (p ++ y :: r).length := by simp
theorem mid_app {α : Type} (p r : List α) (y : α) : p ++ y :: r = (p ++ [y]) ++ r := by simp
theorem snoc_len {α : Type} (p : List α) (y : α) : (p ++ [y]).length = p.length + 1 := by simp
theorem ite_t {c : Bool} {α : Type} {a b : α} (h : c = true) : (if c = true then a else b) = a := if_pos h
theorem ite_f {c : Bool} {α : Type} {a b : α} (h : c = false) : (if c = true then a else b) = b := if_neg (by rw [h]; decide)
theorem some_bind' {α β : Type} (a : α) (f : α → Option β) : (some a).bind f = f a := rfl
abbrev DF := Int × Int × Unit
theorem i_within_eq (a b c : Int) : i_within K (a, b, c, ()) = some (decide (b ≤ a) && decide (a ≤ c)) := by
  simp only [i_within]
  by_cases h : b ≤ a
  · rw [if_pos (decide_eq_true h)]; simp [h]
  · rw [if_neg (by simpa using h)]; simp [h]
theorem s_l01In_eq (a b c : Int) : s_l01In K (a, b, c, ()) = some (decide (b ≤ a) && decide (a ≤ c)) := by
  simp only [s_l01In]
  by_cases h : b ≤ a
  · rw [if_pos (decide_eq_true h)]; simp [h]
  · rw [if_neg (by simpa using h)]; simp [h]
theorem i_one_eq (b : Bool) : i_one K (b, ()) = some (if b then 1 else 0) := by cases b <;> rfl
theorem i_rowsOf_eq {n : Nat} (h : n < 63) : i_rowsOf K ((n : Int), ()) = some ((2 ^ n : Nat) : Int) := by
  simp only [i_rowsOf]; rw [if_pos (nn n), shl1 h]
theorem s_l01Rows_eq {n : Nat} (h : n < 63) : s_l01Rows K ((n : Int), ()) = some ((2 ^ n : Nat) : Int) := by
  simp only [s_l01Rows]; rw [if_pos (u64_dec _), u64n (by omega), shl1 h]
theorem pw4 {n : Nat} (h : n ≤ 4) : 2 ^ n ≤ 16 := Nat.pow_le_pow_right (by decide) h
theorem ppw4 {n : Nat} (h : n ≤ 4) : 2 ^ 2 ^ n ≤ 65536 := Nat.pow_le_pow_right (by decide) (pw4 h)
theorem i_funcsOf_eq {n : Nat} (h : n ≤ 4) : i_funcsOf K ((n : Int), ()) = some ((2 ^ 2 ^ n : Nat) : Int) := by
  have h4 := pw4 h
  simp only [i_funcsOf, i_rowsOf_eq (show n < 63 by omega), some_bind']
  rw [if_pos (nn _), shl1 (by omega)]
theorem s_l01All_eq {n : Nat} (h : n ≤ 4) : s_l01All K ((n : Int), ()) = some ((2 ^ 2 ^ n : Nat) - 1 : Int) := by
  have h4 := pw4 h
  have h5 := ppw4 h
  simp only [s_l01All, s_l01Rows_eq (show n < 63 by omega), some_bind']
  rw [if_pos (u64_dec _), u64n (by omega), shl1 (by omega), w64m1 (by omega)]
/-- What is a function, or a relation with as many places. -/
def isF (lo : Int) (f : DF) : Bool := decide (lo ≤ f.1) && decide (f.1 ≤ 4) && decide (0 ≤ f.2.1) && decide (f.2.1 < ((2 ^ 2 ^ f.1.toNat : Nat) : Int))
theorem isF_nat {lo : Int} {f : DF} (h : isF lo f = true) (hl : 0 ≤ lo) : ∃ n b : Nat, f = ((n : Int), (b : Int), ()) ∧ n ≤ 4 ∧ b < 2 ^ 2 ^ n ∧ lo ≤ n := by
  obtain ⟨a, c, u⟩ := f
  simp only [isF, Bool.and_eq_true, decide_eq_true_eq] at h
  refine ⟨a.toNat, c.toNat, ?_, by omega, by have := h.2; omega, by omega⟩
  rw [Int.toNat_of_nonneg (by omega), Int.toNat_of_nonneg (by omega)]
theorem isF_mk {lo : Int} {n b : Nat} (h1 : lo ≤ n) (h2 : n ≤ 4) (h3 : b < 2 ^ 2 ^ n) : isF lo ((n : Int), (b : Int), ()) = true := by
  simp only [isF, Bool.and_eq_true, decide_eq_true_eq, Int.toNat_natCast]
  exact ⟨⟨⟨h1, by omega⟩, by omega⟩, by omega⟩
theorem bits_lt {n b : Nat} (h : n ≤ 4) (hb : b < 2 ^ 2 ^ n) : b < 9223372036854775808 := by have := ppw4 h; omega
theorem isF_range {lo : Int} (hl : 0 ≤ lo) {a c : Int} {u : Unit} (h : lo ≤ a ∧ a ≤ 4) : (decide ((0 : Int) ≤ c) && decide (c ≤ ((2 ^ 2 ^ a.toNat : Nat) : Int) - 1)) = isF lo (a, c, u) := by
  simp only [isF, h.1, h.2, decide_true, Bool.true_and]
  congr 1
  apply decide_eq_decide.2; omega
theorem isF_out {lo : Int} {a c : Int} {u : Unit} (h : ¬ (lo ≤ a ∧ a ≤ 4)) : isF lo (a, c, u) = false := by
  simp only [isF, Bool.and_eq_false_iff, decide_eq_false_iff_not]; omega
theorem and_dec {a b : Prop} [Decidable a] [Decidable b] : ((decide a && decide b) = true) ↔ (a ∧ b) := by simp
theorem i_IsRelation_eq (f : DF) : i_IsRelation K (f, ()) = some (isF 1 f) := by
  obtain ⟨a, c, u⟩ := f
  simp only [i_IsRelation, i_within_eq, some_bind']
  by_cases h : 1 ≤ a ∧ a ≤ 4
  · obtain ⟨n, rfl⟩ := Int.eq_ofNat_of_zero_le (show 0 ≤ a by omega)
    rw [if_pos (and_dec.2 h), i_funcsOf_eq (by omega), some_bind']
    have h5 := ppw4 (show n ≤ 4 by omega)
    rw [w64m1 (by omega)]
    have := isF_range (lo := 1) (by decide) (c := c) (u := u) h
    rw [Int.toNat_natCast] at this
    rw [this]
  · rw [if_neg (fun e => h (and_dec.1 e)), isF_out h]
theorem s_l06Is_eq (f : DF) : s_l06Is K (f, ()) = some (isF 1 f) := by
  obtain ⟨a, c, u⟩ := f
  simp only [s_l06Is, s_l01In_eq, some_bind']
  by_cases h : 1 ≤ a ∧ a ≤ 4
  · obtain ⟨n, rfl⟩ := Int.eq_ofNat_of_zero_le (show 0 ≤ a by omega)
    rw [if_pos (and_dec.2 h), s_l01All_eq (by omega), some_bind']
    have := isF_range (lo := 1) (by decide) (c := c) (u := u) h
    rw [Int.toNat_natCast] at this
    rw [this]
  · rw [if_neg (fun e => h (and_dec.1 e)), isF_out h]
theorem i_bit_eq {b : Nat} (j : Nat) (h : b < 9223372036854775808) : i_bit K ((b : Int), (j : Int), ()) = some (bt b j) := by
  simp only [i_bit]; rw [if_pos (nn j), bitI_bt j h]
theorem s_l01At_eq {n : Int} {b j : Nat} (h : b < 9223372036854775808) (hj : j < 9223372036854775808) : s_l01At K ((n, (b : Int), ()), (j : Int), ()) = some (bt b j) := by
  simp only [s_l01At]; rw [if_pos (u64_dec _), u64n (by omega), bitI_bt j h]
theorem bt_dec (b j : Nat) : decide (bt b j = 1) = b.testBit j := by unfold bt; cases b.testBit j <;> rfl
theorem i_Relation_has_eq {n : Int} {b : Nat} (j : Nat) (h : b < 9223372036854775808) : i_Relation_has K ((n, (b : Int), ()), (j : Int), ()) = some (b.testBit j) := by
  simp only [i_Relation_has, i_bit_eq j h, some_bind', bt_dec]
theorem s_l09Has_eq {n : Int} {b j : Nat} (h : b < 9223372036854775808) (hj : j < 9223372036854775808) : s_l09Has K ((n, (b : Int), ()), (j : Int), ()) = some (b.testBit j) := by
  simp only [s_l09Has]; rw [if_pos (u64_dec _), u64n (by omega), bitI_bt j h, bt_dec]
abbrev DC := DF × List Int × Unit
abbrev DX := Int × List DC × Unit
theorem lt_len {α : Type} {p r : List α} {y : α} : decide ((p.length : Int) < ((p ++ y :: r).length : Int)) = true := decide_eq_true (by simp; omega)
theorem nlt_len {α : Type} {p : List α} : decide ((p.length : Int) < ((p ++ []).length : Int)) = false := decide_eq_false (by simp)
theorem bnds_mid {α : Type} {p r : List α} {y : α} : bnds (p.length : Int) ((p ++ y :: r).length : Int) = true := bnds_n (len_mid p r y)
theorem next_i {α : Type} {p r : List α} {y : α} (h : (p ++ y :: r).length < 4611686018427387904) : IntKind.i64.wrap ((p.length : Int) + 1) = (((p ++ [y]).length : Nat) : Int) := by
  rw [snoc_len]; refine w64s ?_
  have := len_mid p r y; omega
theorem idx_int64_l (f : Int × Unit → Option Bool) (g : Int → Bool) (l : List Int) (hl : l.length < 4611686018427387904) (kx : Option R) (kr : Int → Option R) : ∀ (r p : List Int) (k : Nat), l = p ++ r → r.length < k → (∀ x ∈ r, f (x, ()) = some (g x)) →
    slices_IndexFunc_int64_l2 K k l f (l.length : Int) (p.length : Int) kx kr = match r.findIdx? g with | some j => kr ((p.length + j : Nat) : Int) | none => kx
  | [], p, k + 1, h, _, _ => by subst h; simp only [slices_IndexFunc_int64_l2]; rw [ite_f nlt_len]; rfl
  | y :: r, p, k + 1, h, hk, hf => by
    subst h
    simp only [slices_IndexFunc_int64_l2]
    rw [ite_t lt_len, ite_t bnds_mid, getD_midI, hf y (by simp), some_bind', List.findIdx?_cons]
    cases hg : g y
    · rw [if_neg (by decide), if_neg (by decide), next_i hl, idx_int64_l f g _ hl kx kr r (p ++ [y]) k (mid_app p r y) (by simp at hk; omega) (fun x hx => hf x (by simp [hx]))]
      cases hr : r.findIdx? g
      · rfl
      · simp only [Option.map_some]; congr 1; simp; omega
    · rw [if_pos rfl, if_pos rfl]; rfl
theorem slices_IndexFunc_int64_eq (f : Int × Unit → Option Bool) (g : Int → Bool) {l : List Int} (hl : l.length < 4611686018427387904) (hK : 4611686018427387904 ≤ K) (hf : ∀ x ∈ l, f (x, ()) = some (g x)) :
    slices_IndexFunc_int64 K (l, f, ()) = some (match l.findIdx? g with | some j => (j : Int) | none => -1) := by
  simp only [slices_IndexFunc_int64]
  have := idx_int64_l (K := K) f g l hl (some (-1 : Int)) (fun z => some z) l [] K rfl (by omega) hf
  simp only [List.length_nil, Nat.zero_add] at this
  rw [show ((0 : Nat) : Int) = 0 from rfl] at this
  rw [this]; cases l.findIdx? g <;> rfl
theorem slices_ContainsFunc_int64_eq (f : Int × Unit → Option Bool) (g : Int → Bool) {l : List Int} (hl : l.length < 4611686018427387904) (hK : 4611686018427387904 ≤ K) (hf : ∀ x ∈ l, f (x, ()) = some (g x)) :
    slices_ContainsFunc_int64 K (l, f, ()) = some (l.any g) := by
  simp only [slices_ContainsFunc_int64]
  rw [slices_IndexFunc_int64_eq f g hl hK hf, some_bind', ← List.findIdx?_isSome]
  cases l.findIdx? g <;> simp
theorem idx_impl_Clause_l (f : DC × Unit → Option Bool) (g : DC → Bool) (l : List DC) (hl : l.length < 4611686018427387904) (kx : Option R) (kr : Int → Option R) : ∀ (r p : List DC) (k : Nat), l = p ++ r → r.length < k → (∀ x ∈ r, f (x, ()) = some (g x)) →
    slices_IndexFunc_impl_Clause_l2 K k l f (l.length : Int) (p.length : Int) kx kr = match r.findIdx? g with | some j => kr ((p.length + j : Nat) : Int) | none => kx
  | [], p, k + 1, h, _, _ => by subst h; simp only [slices_IndexFunc_impl_Clause_l2]; rw [ite_f nlt_len]; rfl
  | y :: r, p, k + 1, h, hk, hf => by
    subst h
    simp only [slices_IndexFunc_impl_Clause_l2]
    rw [ite_t lt_len, ite_t bnds_mid, getD_midI, hf y (by simp), some_bind', List.findIdx?_cons]
    cases hg : g y
    · rw [if_neg (by decide), if_neg (by decide), next_i hl, idx_impl_Clause_l f g _ hl kx kr r (p ++ [y]) k (mid_app p r y) (by simp at hk; omega) (fun x hx => hf x (by simp [hx]))]
      cases hr : r.findIdx? g
      · rfl
      · simp only [Option.map_some]; congr 1; simp; omega
    · rw [if_pos rfl, if_pos rfl]; rfl
theorem slices_IndexFunc_impl_Clause_eq (f : DC × Unit → Option Bool) (g : DC → Bool) {l : List DC} (hl : l.length < 4611686018427387904) (hK : 4611686018427387904 ≤ K) (hf : ∀ x ∈ l, f (x, ()) = some (g x)) :
    slices_IndexFunc_impl_Clause K (l, f, ()) = some (match l.findIdx? g with | some j => (j : Int) | none => -1) := by
  simp only [slices_IndexFunc_impl_Clause]
  have := idx_impl_Clause_l (K := K) f g l hl (some (-1 : Int)) (fun z => some z) l [] K rfl (by omega) hf
  simp only [List.length_nil, Nat.zero_add] at this
  rw [show ((0 : Nat) : Int) = 0 from rfl] at this
  rw [this]; cases l.findIdx? g <;> rfl
theorem slices_ContainsFunc_impl_Clause_eq (f : DC × Unit → Option Bool) (g : DC → Bool) {l : List DC} (hl : l.length < 4611686018427387904) (hK : 4611686018427387904 ≤ K) (hf : ∀ x ∈ l, f (x, ()) = some (g x)) :
    slices_ContainsFunc_impl_Clause K (l, f, ()) = some (l.any g) := by
  simp only [slices_ContainsFunc_impl_Clause]
  rw [slices_IndexFunc_impl_Clause_eq f g hl hK hf, some_bind', ← List.findIdx?_isSome]
  cases l.findIdx? g <;> simp
def inR (m v : Int) : Bool := decide (0 ≤ v) && decide (v ≤ m - 1)
def okC (m : Int) (c : DC) : Bool := isF 1 c.1 && decide ((c.2.1.length : Int) = c.1.1) && c.2.1.all (inR m)
def okX (x : DX) : Bool := decide (0 ≤ x.1) && decide (x.1 ≤ 8) && decide (x.2.1.length ≤ 12) && x.2.1.all (okC x.1)
/-- Lists that are not too long to go through. -/
def shX (x : DX) : Prop := x.2.1.length < 4611686018427387904 ∧ ∀ c ∈ x.2.1, c.2.1.length < 4611686018427387904
theorem not_any_not {α : Type} (l : List α) (g : α → Bool) : (!(l.any fun a => !g a)) = l.all g := by
  induction l with
  | nil => rfl
  | cons a l ih => simp only [List.any_cons, List.all_cons, Bool.not_or, Bool.not_not, ih]
theorem any_not {α : Type} (l : List α) (g : α → Bool) : (l.any fun a => !g a) = !(l.all g) := by rw [← not_any_not, Bool.not_not]
theorem i_IsInstance_c1_c1_eq {x : DX} {v : Int} (h : 0 ≤ x.1 ∧ x.1 ≤ 8) : i_IsInstance_c1_c1 K (v, x, ()) = some (!inR x.1 v) := by
  simp only [i_IsInstance_c1_c1, i_within_eq, some_bind', w64 (show -9223372036854775808 ≤ x.1 - 1 by omega) (show x.1 - 1 < 9223372036854775808 by omega)]
  rfl
theorem i_IsInstance_c1_eq {x : DX} {c : DC} (h : 0 ≤ x.1 ∧ x.1 ≤ 8) (hc : c.2.1.length < 4611686018427387904) (hK : 4611686018427387904 ≤ K) : i_IsInstance_c1 K (c, x, ()) = some (!okC x.1 c) := by
  simp only [i_IsInstance_c1, i_IsRelation_eq, some_bind', okC]
  cases h1 : isF 1 c.1
  · rfl
  · by_cases h2 : (c.2.1.length : Int) = c.1.1
    · rw [ite_f (by rfl), ite_f (by simp [h2]), slices_ContainsFunc_int64_eq _ (fun v => !inR x.1 v) hc hK (fun v _ => i_IsInstance_c1_c1_eq h), some_bind', any_not]
      simp [h2]
    · rw [ite_f (by rfl), ite_t (by simp [h2])]; simp [h2]
theorem i_IsInstance_eq {x : DX} (hx : shX x) (hK : 4611686018427387904 ≤ K) : i_IsInstance K (x, ()) = some (okX x) := by
  simp only [i_IsInstance, i_within_eq, some_bind', okX]
  by_cases h : 0 ≤ x.1 ∧ x.1 ≤ 8
  · rw [ite_t (and_dec.2 h)]
    by_cases h2 : x.2.1.length ≤ 12
    · rw [ite_t (decide_eq_true (by omega)), slices_ContainsFunc_impl_Clause_eq _ (fun c => !okC x.1 c) hx.1 hK (fun c hc => i_IsInstance_c1_eq h (hx.2 c hc) hK), some_bind', not_any_not]
      simp [h.1, h.2, h2]
    · rw [ite_f (decide_eq_false (by omega))]; simp [h2]
  · have e : (decide (0 ≤ x.1) && decide (x.1 ≤ 8)) = false := by cases hb : (decide (0 ≤ x.1) && decide (x.1 ≤ 8)); rfl; exact absurd (and_dec.1 hb) h
    rw [ite_f e, e]; rfl
theorem l09Is_l10 (x : DX) (i : Int) (c : DC) (hl : c.2.1.length < 4611686018427387904) (h8 : 0 ≤ x.1 ∧ x.1 ≤ 8) (kx : DX → Int → Option R) (kr : Bool → Option R) : ∀ (r p : List Int) (k : Nat), c.2.1 = p ++ r → r.length < k →
    s_l09Is_l10 K k x i c (p.length : Int) kx kr = if r.all (inR x.1) = true then kx x i else kr false
  | [], p, k + 1, h, hk => by simp only [s_l09Is_l10]; rw [h, ite_f nlt_len]; rfl
  | y :: r, p, k + 1, h, hk => by
    simp only [s_l09Is_l10]
    rw [h, ite_t lt_len, ite_t bnds_mid, getD_midI, s_l01In_eq, some_bind', w64 (by omega) (by omega), next_i (by rw [← h]; exact hl), l09Is_l10 x i c hl h8 kx kr r (p ++ [y]) k (by rw [h, mid_app]) (by simp at hk; omega)]
    rw [List.all_cons]
    show (if (!inR x.1 y) = true then _ else _) = _
    cases inR x.1 y <;> rfl
theorem l09Is_l4 (x : DX) (hx : shX x) (h8 : 0 ≤ x.1 ∧ x.1 ≤ 8) (kx : Option R) (kr : Bool → Option R) : ∀ (r p : List DC) (k : Nat), x.2.1 = p ++ r → 4611686018427387904 + r.length < k →
    s_l09Is_l4 K k x (p.length : Int) kx kr = if r.all (okC x.1) = true then kx else kr false
  | [], p, k + 1, h, hk => by simp only [s_l09Is_l4]; rw [h, ite_f nlt_len]; rfl
  | y :: r, p, k + 1, h, hk => by
    have hy : y.2.1.length < 4611686018427387904 := hx.2 y (by rw [h]; simp)
    simp only [s_l09Is_l4, s_l09Is_j9]
    rw [h, ite_t lt_len, ite_t bnds_mid, getD_midI, s_l06Is_eq, some_bind']
    have hl10 := l09Is_l10 (K := K) x (p.length : Int) y hy h8 (fun z8 z9 => s_l09Is_l4 K k z8 (IntKind.i64.wrap (z9 + (1 : Int))) kx kr) (fun z10 => kr z10) y.2.1 [] k rfl (by simp at hk; omega)
    simp only [List.length_nil] at hl10
    rw [show ((0 : Nat) : Int) = 0 from rfl] at hl10
    rw [hl10, next_i (by rw [← h]; exact hx.1), l09Is_l4 x hx h8 kx kr r (p ++ [y]) k (by rw [h, mid_app]) (by simp at hk; omega)]
    rw [List.all_cons, okC]
    cases isF 1 y.1
    · rfl
    · by_cases h2 : (y.2.1.length : Int) = y.1.1
      · rw [ite_f (by rfl), ite_f (by simp [h2])]
        rw [decide_eq_true h2]
        cases y.2.1.all (inR x.1) <;> rfl
      · rw [ite_f (by rfl), ite_t (by simp [h2])]; simp [h2]
theorem s_l09Is_eq {x : DX} (hx : shX x) (hK : 9223372036854775808 ≤ K) : s_l09Is K (x, ()) = some (okX x) := by
  simp only [s_l09Is, s_l01In_eq, some_bind', s_l09Is_j3, okX]
  by_cases h : 0 ≤ x.1 ∧ x.1 ≤ 8
  · have e := and_dec.2 h
    rw [ite_f (by rw [e]; rfl)]
    by_cases h2 : x.2.1.length ≤ 12
    · rw [ite_f (decide_eq_false (by omega))]
      have := l09Is_l4 (K := K) x hx h (some true) (fun z11 => some z11) x.2.1 [] K rfl (by have := hx.1; omega)
      simp only [List.length_nil] at this
      rw [show ((0 : Nat) : Int) = 0 from rfl] at this
      rw [this]; simp only [h.1, h.2, h2, decide_true, Bool.true_and]
      cases x.2.1.all (okC x.1) <;> rfl
    · rw [ite_t (decide_eq_true (by omega))]; simp [h2]
  · have e : (decide (0 ≤ x.1) && decide (x.1 ≤ 8)) = false := by cases hb : (decide (0 ≤ x.1) && decide (x.1 ≤ 8)); rfl; exact absurd (and_dec.1 hb) h
    rw [ite_t (by rw [e]; rfl), e]; rfl
def dg (b : Bool) (n : Nat) : Nat := if b = true then 2 ^ n else 0
theorem dg_le (b : Bool) (n : Nat) : dg b n ≤ 2 ^ n := by unfold dg; split <;> simp
theorem mkB_succ (g : Nat → Bool) (n : Nat) : mkB g (n + 1) = mkB g n + dg (g n) n := rfl
theorem shl_bt {a j n : Nat} (hn : n < 62) : shlI .i64 (bt a j) (n : Int) = ((dg (a.testBit j) n : Nat) : Int) := by
  unfold bt dg
  cases a.testBit j
  · have := shlI_n 0 n (by simp)
    simpa using this
  · rw [if_pos rfl, if_pos rfl, shl1 (by omega)]
theorem lt62 {n : Nat} (hn : n < 62) : 2 ^ (n + 1) ≤ 4611686018427387904 := Nat.le_trans (Nat.pow_le_pow_right (by decide) (show n + 1 ≤ 62 by omega)) (by decide)
theorem or_dg {x n : Nat} (hx : x < 2 ^ n) (hn : n < 62) (b : Bool) : bitI .or .i64 (x : Int) ((dg b n : Nat) : Int) = ((x + dg b n : Nat) : Int) := by
  have h2 := lt62 hn
  have h3 := Nat.pow_succ 2 n
  have h4 := dg_le b n
  rw [bitI_or (by omega) (by omega)]
  congr 1
  unfold dg; cases b
  · simp
  · rw [if_pos rfl, or_pow hx]
theorem add_dg {x n : Nat} (hx : x < 2 ^ n) (hn : n < 62) (b : Bool) : IntKind.i64.wrap ((x : Int) + ((dg b n : Nat) : Int)) = ((x + dg b n : Nat) : Int) := by
  have h2 := lt62 hn
  have h3 := Nat.pow_succ 2 n
  have h4 := dg_le b n
  rw [w64 (by omega) (by omega)]; simp
/-- The number of the tuple of an assignment's values. -/
def tup (a : Nat) (vs : List Int) : Nat := mkB (fun i => a.testBit (vs.getD i 0).toNat) vs.length
theorem sat_l (a : Nat) (c : DC) (ha : a < 9223372036854775808) (hl : c.2.1.length ≤ 8) (kx : DC → Int → Option R) : ∀ (r p : List Int) (k : Nat), c.2.1 = p ++ r → r.length < k → (∀ v ∈ r, 0 ≤ v ∧ v ≤ 7) →
    i_Clause_satisfied_l3 K k (a : Int) c ((mkB (fun i => a.testBit (c.2.1.getD i 0).toNat) p.length : Nat) : Int) c.2.1 (c.2.1.length : Int) (p.length : Int) kx = kx c ((tup a c.2.1 : Nat) : Int)
  | [], p, k + 1, h, _, _ => by
    simp only [i_Clause_satisfied_l3]
    rw [ite_f (decide_eq_false (by rw [h]; simp))]
    unfold tup; rw [show c.2.1.length = p.length from by rw [h]; simp]
  | y :: r, p, k + 1, h, hk, hv => by
    obtain ⟨h0, h7⟩ := hv y (by simp)
    obtain ⟨m, rfl⟩ := Int.eq_ofNat_of_zero_le h0
    simp only [i_Clause_satisfied_l3]
    have hlt : p.length < c.2.1.length := by rw [h]; simp
    have hg : c.2.1.getD p.length 0 = (m : Int) := by rw [h]; exact getD_mid p r _ _
    rw [ite_t (decide_eq_true (by omega)), ite_t (bnds_n hlt), Int.toNat_natCast, hg, i_bit_eq m ha, some_bind', ite_t (nn _), shl_bt (by omega), or_dg (mkB_lt _ _) (by omega), w64s (by omega)]
    have := sat_l a c ha hl kx r (p ++ [(m : Int)]) k (by rw [h, mid_app]) (by simp at hk; omega) (fun v hv' => hv v (by simp [hv']))
    rw [snoc_len, mkB_succ, hg, Int.toNat_natCast] at this
    exact this
theorem okC_v {m : Int} {c : DC} (h : okC m c = true) (hm : m ≤ 8) : (∀ v ∈ c.2.1, 0 ≤ v ∧ v ≤ 7) ∧ c.2.1.length ≤ 4 ∧ isF 1 c.1 = true := by
  simp only [okC, Bool.and_eq_true, decide_eq_true_eq, List.all_eq_true] at h
  obtain ⟨⟨h1, h2⟩, h3⟩ := h
  refine ⟨fun v hv => ?_, ?_, h1⟩
  · have := h3 v hv
    simp only [inR, and_dec] at this
    omega
  · obtain ⟨n, b, e, h4, _, _⟩ := isF_nat h1 (by decide)
    rw [e] at h2
    have h2 : (c.2.1.length : Int) = n := h2
    omega
def satC (c : DC) (a : Nat) : Bool := c.1.2.1.toNat.testBit (tup a c.2.1)
theorem tup_lt (a : Nat) {vs : List Int} (h : vs.length ≤ 4) : tup a vs < 16 := Nat.lt_of_lt_of_le (mkB_lt _ _) (pw4 h)
theorem i_satisfied_eq {a : Nat} {m : Int} {c : DC} (h : okC m c = true) (hm : m ≤ 8) (ha : a < 9223372036854775808) (hK : 4611686018427387904 ≤ K) : i_Clause_satisfied K (c, (a : Int), ()) = some (satC c a) := by
  obtain ⟨h1, h2, h3⟩ := okC_v h hm
  simp only [i_Clause_satisfied]
  have := sat_l (K := K) a c ha (by omega) (fun z2 z3 => (i_Relation_has K (z2.1, z3, ())).bind fun y4 => some y4) c.2.1 [] K rfl (by omega) h1
  simp only [List.length_nil, mkB] at this
  rw [show ((0 : Nat) : Int) = 0 from rfl] at this
  rw [this]
  obtain ⟨n, b, e, h4, h5, _⟩ := isF_nat h3 (by decide)
  rw [e, i_Relation_has_eq _ (bits_lt h4 h5), some_bind', satC, e]; rfl
theorem tuple_l (a : Nat) (c : DC) (ha : a < 9223372036854775808) (hl : c.2.1.length ≤ 8) (kx : Int → Option R) : ∀ (r p : List Int) (k : Nat), c.2.1 = p ++ r → r.length < k → (∀ v ∈ r, 0 ≤ v ∧ v ≤ 7) →
    s_l09Tuple_l3 K k (a : Int) c ((mkB (fun i => a.testBit (c.2.1.getD i 0).toNat) p.length : Nat) : Int) (p.length : Int) kx = kx ((tup a c.2.1 : Nat) : Int)
  | [], p, k + 1, h, _, _ => by
    simp only [s_l09Tuple_l3]
    rw [ite_f (decide_eq_false (by rw [h]; simp))]
    unfold tup; rw [show c.2.1.length = p.length from by rw [h]; simp]
  | y :: r, p, k + 1, h, hk, hv => by
    obtain ⟨h0, h7⟩ := hv y (by simp)
    obtain ⟨m, rfl⟩ := Int.eq_ofNat_of_zero_le h0
    simp only [s_l09Tuple_l3]
    have hlt : p.length < c.2.1.length := by rw [h]; simp
    have hg : c.2.1.getD p.length 0 = (m : Int) := by rw [h]; exact getD_mid p r _ _
    rw [ite_t (decide_eq_true (by omega)), ite_t (bnds_n hlt), Int.toNat_natCast, hg, ite_t (u64_dec _), ite_t (u64_dec _), u64n (by omega), u64n (by omega), bitI_bt m ha, shl_bt (by omega), add_dg (mkB_lt _ _) (by omega), w64s (by omega)]
    have := tuple_l a c ha hl kx r (p ++ [(m : Int)]) k (by rw [h, mid_app]) (by simp at hk; omega) (fun v hv' => hv v (by simp [hv']))
    rw [snoc_len, mkB_succ, hg, Int.toNat_natCast] at this
    exact this
theorem s_l09Tuple_eq {a : Nat} {m : Int} {c : DC} (h : okC m c = true) (hm : m ≤ 8) (ha : a < 9223372036854775808) (hK : 4611686018427387904 ≤ K) : s_l09Tuple K (c, (a : Int), ()) = some ((tup a c.2.1 : Nat) : Int) := by
  obtain ⟨h1, h2, h3⟩ := okC_v h hm
  simp only [s_l09Tuple]
  have := tuple_l (K := K) a c ha (by omega) (fun z3 => some z3) c.2.1 [] K rfl (by omega) h1
  simp only [List.length_nil, mkB] at this
  rw [show ((0 : Nat) : Int) = 0 from rfl] at this
  exact this
theorem s_has_tuple {a : Nat} {m : Int} {c : DC} (h : okC m c = true) (hm : m ≤ 8) : s_l09Has K (c.1, ((tup a c.2.1 : Nat) : Int), ()) = some (satC c a) := by
  obtain ⟨h1, h2, h3⟩ := okC_v h hm
  obtain ⟨n, b, e, h4, h5, _⟩ := isF_nat h3 (by decide)
  have := tup_lt a h2
  rw [e, s_l09Has_eq (bits_lt h4 h5) (by omega), satC, e]; rfl
def satX (x : DX) (a : Nat) : Bool := x.2.1.all fun c => satC c a
theorem okX_h {x : DX} (h : okX x = true) : 0 ≤ x.1 ∧ x.1 ≤ 8 ∧ x.2.1.length ≤ 12 ∧ ∀ c ∈ x.2.1, okC x.1 c = true := by
  simp only [okX, Bool.and_eq_true, decide_eq_true_eq, List.all_eq_true] at h
  exact ⟨h.1.1.1, h.1.1.2, h.1.2, h.2⟩
theorem okX_sh {x : DX} (h : okX x = true) : shX x := by
  obtain ⟨h1, h2, h3, h4⟩ := okX_h h
  exact ⟨by omega, fun c hc => by have := (okC_v (h4 c hc) h2).2.1; omega⟩
theorem solves_l (x : DX) (h : okX x = true) (a : Nat) (ha : a < 9223372036854775808) (hK : 4611686018427387904 ≤ K) (kx : Option R) (kr : Bool → Option R) : ∀ (r p : List DC) (k : Nat), x.2.1 = p ++ r → r.length < k →
    s_l09Solves_l2 K k (a : Int) x (p.length : Int) kx kr = if (r.all fun c => satC c a) = true then kx else kr false
  | [], p, k + 1, e, _ => by simp only [s_l09Solves_l2]; rw [e, ite_f nlt_len]; rfl
  | y :: r, p, k + 1, e, hk => by
    obtain ⟨h1, h2, h3, h4⟩ := okX_h h
    have hy := h4 y (by rw [e]; simp)
    simp only [s_l09Solves_l2]
    rw [e, ite_t lt_len, ite_t bnds_mid, ite_t bnds_mid, getD_midI, s_l09Tuple_eq hy h2 ha hK, some_bind', s_has_tuple hy h2, some_bind', next_i (by rw [← e]; omega), solves_l x h a ha hK kx kr r (p ++ [y]) k (by rw [e, mid_app]) (by simp at hk; omega), List.all_cons]
    cases satC y a <;> rfl
theorem s_l09Solves_eq {x : DX} (h : okX x = true) {a : Nat} (ha : a < 9223372036854775808) (hK : 4611686018427387904 ≤ K) : s_l09Solves K (x, (a : Int), ()) = some (satX x a) := by
  simp only [s_l09Solves]
  have := solves_l (K := K) x h a ha hK (some true) (fun z5 => some z5) x.2.1 [] K rfl (by have := (okX_h h).2.2.1; omega)
  simp only [List.length_nil] at this
  rw [show ((0 : Nat) : Int) = 0 from rfl] at this
  rw [this, satX]; cases x.2.1.all fun c => satC c a <;> rfl
/-- The numbers below n that are such, as Go's numbers. -/
def sel (P : Nat → Bool) (n : Nat) : List Int := ((List.range n).filter P).map fun (a : Nat) => (a : Int)
theorem sel_succ (P : Nat → Bool) (n : Nat) : sel P (n + 1) = if P n = true then sel P n ++ [(n : Int)] else sel P n := by
  simp only [sel, List.range_succ, List.filter_append, List.map_append]
  cases h : P n <;> simp [h]
theorem sel_len (P : Nat → Bool) : ∀ n, (sel P n).length ≤ n
  | 0 => by simp [sel]
  | n + 1 => by
    have := sel_len P n
    rw [sel_succ]; split <;> simp <;> omega
theorem lim_len {l : List Int} {m : Int} (h : l.length < 1099511627776) : decide (l.length + [m].length ≤ lim) = true := by
  apply decide_eq_true; simp [lim]; omega
def solX (x : DX) : List Int := sel (satX x) (2 ^ x.1.toNat)
theorem sols_l (x : DX) (h : okX x = true) (n : Nat) (hn : n ≤ 256) (hK : 4611686018427387904 ≤ K) (kx : List Int → Option R) : ∀ (m i k : Nat), i + m = n → m < k →
    i_Instance_solutions_l3 K k x (sel (satX x) i) (n : Int) (i : Int) kx = kx (sel (satX x) n)
  | 0, i, k + 1, e, _ => by
    obtain rfl : i = n := by omega
    simp only [i_Instance_solutions_l3]; rw [ite_f (by simp)]
  | m + 1, i, k + 1, e, hk => by
    obtain ⟨h1, h2, h3, h4⟩ := okX_h h
    simp only [i_Instance_solutions_l3]
    rw [ite_t (decide_eq_true (by omega)), slices_ContainsFunc_impl_Clause_eq _ (fun c => !satC c i) (by omega) hK (fun c hc => by
      simp only [i_Instance_solutions_c1, i_satisfied_eq (h4 c hc) h2 (show i < 9223372036854775808 by omega) hK]; rfl), some_bind', not_any_not]
    have hl := sel_len (satX x) i
    rw [w64s (by omega), ite_t (lim_len (by omega))]
    have := sols_l x h n hn hK kx m (i + 1) k (by omega) (by omega)
    rw [sel_succ, satX] at this
    cases hs : x.2.1.all fun c => satC c i
    · rw [hs, if_neg (by decide)] at this
      rw [if_neg (by decide)]; exact this
    · rw [hs, if_pos rfl] at this
      rw [if_pos rfl]; exact this
theorem pw8 {n : Nat} (h : n ≤ 8) : 2 ^ n ≤ 256 := Nat.pow_le_pow_right (by decide) h
theorem okX_nat {x : DX} (h : okX x = true) : ∃ n : Nat, x.1 = n ∧ n ≤ 8 := by
  obtain ⟨h1, h2, _⟩ := okX_h h
  exact ⟨x.1.toNat, by omega, by omega⟩
theorem i_solutions_eq {x : DX} (h : okX x = true) (hK : 4611686018427387904 ≤ K) : i_Instance_solutions K (x, ()) = some (solX x) := by
  obtain ⟨n, e, hn⟩ := okX_nat h
  have hp := pw8 hn
  simp only [i_Instance_solutions]
  rw [e, ite_t (nn n), shl1 (by omega)]
  have := sols_l (K := K) x h (2 ^ n) hp hK (fun z => some z) (2 ^ n) 0 K (by omega) (by omega)
  rw [show ((0 : Nat) : Int) = 0 from rfl] at this
  rw [solX, e, Int.toNat_natCast]; exact this
theorem s_sols_l (x : DX) (h : okX x = true) (n : Nat) (e : x.1 = n) (hn : n ≤ 8) (hK : 4611686018427387904 ≤ K) (kx : List Int → Option R) : ∀ (m i k : Nat), i + m = 2 ^ n → m < k →
    s_l09Solutions_l3 K k x (sel (satX x) i) (i : Int) kx = kx (sel (satX x) (2 ^ n))
  | 0, i, k + 1, ei, _ => by
    obtain rfl : i = 2 ^ n := by omega
    simp only [s_l09Solutions_l3]; rw [e, s_l01Rows_eq (by omega), some_bind', ite_f (by simp)]
  | m + 1, i, k + 1, ei, hk => by
    have hp := pw8 hn
    simp only [s_l09Solutions_l3]
    have hl := sel_len (satX x) i
    rw [e, s_l01Rows_eq (by omega), some_bind', ite_t (decide_eq_true (by omega)), s_l09Solves_eq h (show i < 9223372036854775808 by omega) hK, some_bind', w64s (by omega), ite_t (lim_len (by omega))]
    have := s_sols_l x h n e hn hK kx m (i + 1) k (by omega) (by omega)
    rw [sel_succ] at this
    cases hs : satX x i
    · rw [hs, if_neg (by decide)] at this
      rw [if_neg (by decide)]; exact this
    · rw [hs, if_pos rfl] at this
      rw [if_pos rfl]; exact this
theorem s_l09Solutions_eq {x : DX} (h : okX x = true) (hK : 4611686018427387904 ≤ K) : s_l09Solutions K (x, ()) = some (solX x) := by
  obtain ⟨n, e, hn⟩ := okX_nat h
  have hp := pw8 hn
  simp only [s_l09Solutions]
  have := s_sols_l (K := K) x h n e hn hK (fun z => some z) (2 ^ n) 0 K (by omega) (by omega)
  rw [show ((0 : Nat) : Int) = 0 from rfl] at this
  rw [solX, e, Int.toNat_natCast]; exact this
theorem i_SolutionsOf_eq {x : DX} (hx : shX x) (hK : 9223372036854775808 ≤ K) : i_SolutionsOf K (x, ()) = some (if okX x = true then (solX x, 0, ()) else ([], 1, ())) := by
  simp only [i_SolutionsOf, i_IsInstance_eq hx (show 4611686018427387904 ≤ K by omega), some_bind']
  cases h : okX x
  · rfl
  · rw [ite_f (by rfl), i_solutions_eq h (by omega)]; rfl
theorem i_CountSolutions_eq {x : DX} (hx : shX x) (hK : 9223372036854775808 ≤ K) : i_CountSolutions K (x, ()) = some (if okX x = true then (((solX x).length : Int), 0, ()) else (0, 1, ())) := by
  simp only [i_CountSolutions, i_SolutionsOf_eq hx hK, some_bind']
  cases h : okX x
  · rfl
  · rw [if_pos rfl, if_pos rfl]
theorem solX_len (x : DX) (h : okX x = true) : (solX x).length ≤ 256 := by
  obtain ⟨n, e, hn⟩ := okX_nat h
  have := sel_len (satX x) (2 ^ x.1.toNat)
  have h2 := pw8 hn
  rw [solX]; rw [e, Int.toNat_natCast] at this ⊢; omega
theorem lim_app {α : Type} {l m : List α} (h : l.length + m.length ≤ 1099511627776) : decide (l.length + m.length ≤ lim) = true := decide_eq_true h
def one01 (b : Bool) : Int := if b = true then 1 else 0
theorem i_satBy_l (x : DX) (h : okX x = true) (a : Nat) (ha : a < 9223372036854775808) (hK : 4611686018427387904 ≤ K) (kx : List Int → Option R) : ∀ (r p : List DC) (k : Nat), x.2.1 = p ++ r → r.length < k →
    i_SatisfiedBy_l7 K k (a : Int) (p.map fun c => one01 (satC c a)) x.2.1 (x.2.1.length : Int) (p.length : Int) kx = kx (x.2.1.map fun c => one01 (satC c a))
  | [], p, k + 1, e, _ => by simp only [i_SatisfiedBy_l7]; rw [e, ite_f nlt_len]; simp
  | y :: r, p, k + 1, e, hk => by
    obtain ⟨h1, h2, h3, h4⟩ := okX_h h
    have hy := h4 y (by rw [e]; simp)
    have hpl : p.length < 13 := by rw [e] at h3; simp at h3; omega
    simp only [i_SatisfiedBy_l7]
    have ih := i_satBy_l x h a ha hK kx r (p ++ [y]) k (by rw [e, mid_app]) (by simp at hk; omega)
    rw [e] at ih ⊢
    rw [ite_t lt_len, ite_t bnds_mid, getD_midI, i_satisfied_eq hy h2 ha hK, some_bind', i_one_eq, some_bind', ite_t (lim_app (by simp; omega)), next_i (by rw [← e]; omega)]
    rw [List.map_append] at ih
    exact ih
theorem s_satBy_l (x : DX) (h : okX x = true) (a : Nat) (ha : a < 9223372036854775808) (hK : 4611686018427387904 ≤ K) (kx : List Int → Option R) : ∀ (r p : List DC) (k : Nat), x.2.1 = p ++ r → r.length < k →
    s_SatisfiedBy_l7 K k (a : Int) x (p.map fun c => one01 (satC c a)) (p.length : Int) kx = kx (x.2.1.map fun c => one01 (satC c a))
  | [], p, k + 1, e, _ => by simp only [s_SatisfiedBy_l7]; rw [e, ite_f nlt_len]; simp
  | y :: r, p, k + 1, e, hk => by
    obtain ⟨h1, h2, h3, h4⟩ := okX_h h
    have hy := h4 y (by rw [e]; simp)
    have hpl : p.length < 13 := by rw [e] at h3; simp at h3; omega
    simp only [s_SatisfiedBy_l7]
    have ih := s_satBy_l x h a ha hK kx r (p ++ [y]) k (by rw [e, mid_app]) (by simp at hk; omega)
    rw [e] at ih ⊢
    rw [ite_t lt_len, ite_t bnds_mid, ite_t bnds_mid, getD_midI, s_l09Tuple_eq hy h2 ha hK, some_bind', s_has_tuple hy h2, some_bind', next_i (by rw [← e]; omega)]
    rw [List.map_append] at ih
    cases hb : satC y a
    · rw [if_neg (by decide), ite_t (lim_app (by simp; omega))]
      simp only [List.map_cons, List.map_nil, hb, one01, if_neg (show ¬ (false = true) by decide)] at ih
      exact ih
    · rw [if_pos rfl, ite_t (lim_app (by simp; omega))]
      simp only [List.map_cons, List.map_nil, hb, one01, if_pos (show (true = true) by rfl)] at ih
      exact ih
def satBy (x : DX) (a : Int) : List Int × Int × Unit := if okX x = true then (if 0 ≤ a ∧ a ≤ ((2 ^ x.1.toNat : Nat) : Int) - 1 then (x.2.1.map fun c => one01 (satC c a.toNat), 0, ()) else ([], 2, ())) else ([], 1, ())
theorem and_decF {a b : Prop} [Decidable a] [Decidable b] (h : ¬ (a ∧ b)) : (decide a && decide b) = false := by
  cases hb : (decide a && decide b); rfl; exact absurd (and_dec.1 hb) h
theorem i_SatisfiedBy_eq {x : DX} {a : Int} (hx : shX x) (hK : 9223372036854775808 ≤ K) : i_SatisfiedBy K (x, a, ()) = some (satBy x a) := by
  simp only [i_SatisfiedBy, i_IsInstance_eq hx (show 4611686018427387904 ≤ K by omega), some_bind', satBy]
  cases h : okX x
  · rfl
  · obtain ⟨n, e, hn⟩ := okX_nat h
    have hp := pw8 hn
    rw [ite_f (by rfl), e, ite_t (nn n), shl1 (by omega), w64m1 (by omega), i_within_eq, some_bind', if_pos rfl, Int.toNat_natCast]
    by_cases ha : 0 ≤ a ∧ a ≤ ((2 ^ n : Nat) : Int) - 1
    · rw [and_dec.2 ha, ite_f (by rfl), if_pos ha]
      obtain ⟨m, rfl⟩ := Int.eq_ofNat_of_zero_le ha.1
      have := i_satBy_l (K := K) x h m (by omega) (by omega) (fun z7 => some (z7, (0 : Int), ())) x.2.1 [] K rfl (by have := hx.1; omega)
      exact this
    · rw [and_decF ha, ite_t (by rfl), if_neg ha]
theorem s_SatisfiedBy_eq {x : DX} {a : Int} (hx : shX x) (hK : 9223372036854775808 ≤ K) : s_SatisfiedBy K (x, a, ()) = some (satBy x a) := by
  simp only [s_SatisfiedBy, s_l09Is_eq hx hK, some_bind', satBy]
  cases h : okX x
  · rfl
  · obtain ⟨n, e, hn⟩ := okX_nat h
    have hp := pw8 hn
    rw [ite_f (by rfl), e, s_l01Rows_eq (by omega), some_bind', w64m1 (by omega), s_l01In_eq, some_bind', if_pos rfl, Int.toNat_natCast]
    by_cases ha : 0 ≤ a ∧ a ≤ ((2 ^ n : Nat) : Int) - 1
    · rw [and_dec.2 ha, ite_f (by rfl), if_pos ha]
      obtain ⟨m, rfl⟩ := Int.eq_ofNat_of_zero_le ha.1
      have := s_satBy_l (K := K) x h m (by omega) (by omega) (fun z7 => some (z7, (0 : Int), ())) x.2.1 [] K rfl (by have := hx.1; omega)
      exact this
    · rw [and_decF ha, ite_t (by rfl), if_neg ha]
def solN (x : DX) : List Nat := (List.range (2 ^ x.1.toNat)).filter (satX x)
theorem solX_map (x : DX) : solX x = (solN x).map fun (a : Nat) => (a : Int) := rfl
theorem solN_lt {x : DX} (h : okX x = true) : ∀ a ∈ solN x, a < 256 := fun a ha => by
  obtain ⟨n, e, hn⟩ := okX_nat h
  have h2 := pw8 hn
  have := List.mem_range.1 (List.mem_filter.1 ha).1
  rw [e, Int.toNat_natCast] at this; omega
theorem solN_len {x : DX} (h : okX x = true) : (solN x).length ≤ 256 := by
  have := solX_len x h
  rw [solX_map, List.length_map] at this; exact this
theorem getD_map (l : List Nat) (i : Nat) : (l.map fun (a : Nat) => (a : Int)).getD ((i : Int)).toNat 0 = ((l.getD i 0 : Nat) : Int) := by
  rw [Int.toNat_natCast]
  simp only [List.getD, List.getElem?_map]
  cases l[i]? <;> rfl
theorem i_solved_eq {x : DX} (hx : shX x) (hK : 9223372036854775808 ≤ K) : i_solved K (x, ()) = some (if okX x = true then (solX x, if solX x = [] then 4 else 0, ()) else ([], 1, ())) := by
  simp only [i_solved, i_SolutionsOf_eq hx hK, some_bind']
  cases h : okX x
  · rfl
  · simp only [if_pos, decide_true]
    cases hs : solX x
    · rfl
    · rw [ite_f (decide_eq_false (by simp; omega)), if_neg (by simp)]; rfl
theorem s_given_eq {x : DX} (hx : shX x) (hK : 9223372036854775808 ≤ K) : s_l09Given K (x, ()) = some (if okX x = true then (solX x, if solX x = [] then 4 else 0, ()) else ([], 1, ())) := by
  simp only [s_l09Given, s_l09Is_eq hx hK, some_bind']
  cases h : okX x
  · rfl
  · rw [ite_f (by rfl), s_l09Solutions_eq h (by omega), some_bind', if_pos rfl]
    cases hs : solX x
    · rfl
    · rw [ite_f (decide_eq_false (by simp; omega)), if_neg (by simp)]
theorem sol_cases (x : DX) : solX x = [] ∨ ∃ y r, solN x = y :: r ∧ solX x = (y : Int) :: r.map fun (a : Nat) => (a : Int) := by
  rw [solX_map]
  cases h : solN x with
  | nil => left; rfl
  | cons y r => right; exact ⟨y, r, rfl, rfl⟩
theorem map_range_succ {α : Type} (f : Nat → α) (i : Nat) : (List.range (i + 1)).map f = (List.range i).map f ++ [f i] := by rw [List.range_succ, List.map_append]; rfl
def frc (y : Nat) (r : List Nat) (v : Nat) : Int := if (r.any fun a => a.testBit v != y.testBit v) = true then 2 else bt y v
theorem bt_ne (a y v : Nat) : (!decide (bt a v = bt y v)) = (a.testBit v != y.testBit v) := by
  unfold bt; cases a.testBit v <;> cases y.testBit v <;> rfl
theorem any_map {α β : Type} (f : α → β) (l : List α) (g : β → Bool) : (l.map f).any g = l.any fun a => g (f a) := by
  induction l with
  | nil => rfl
  | cons a l ih => simp [ih]
theorem i_forced_l (y : Nat) (r : List Nat) (n : Nat) (hn : n ≤ 8) (hl : (y :: r).length ≤ 256) (h : ∀ a ∈ y :: r, a < 256) (hK : 4611686018427387904 ≤ K) (kx : List Int → Option R) : ∀ (m i k : Nat), i + m = n → m < k →
    i_ForcedOf_l6 K k ((y :: r).map fun (a : Nat) => (a : Int)) ((List.range i).map (frc y r)) (n : Int) (i : Int) kx = kx ((List.range n).map (frc y r))
  | 0, i, k + 1, e, _ => by
    obtain rfl : i = n := by omega
    simp only [i_ForcedOf_l6]; rw [ite_f (by simp)]
  | m + 1, i, k + 1, e, hk => by
    have hy := h y (by simp)
    simp only [i_ForcedOf_l6]
    have hc : slices_ContainsFunc_int64 K ((y :: r).map fun (a : Nat) => (a : Int), (fun y4 => i_ForcedOf_c1 K (y4.1, (i : Int), bt y i, ())), ()) = some (r.any fun a => a.testBit i != y.testBit i) := by
      rw [slices_ContainsFunc_int64_eq _ (fun a => a.toNat.testBit i != y.testBit i) (by simp only [List.length_map]; omega) hK (fun z hz => by
        obtain ⟨a, ha, rfl⟩ := List.mem_map.1 hz
        simp only [i_ForcedOf_c1, i_bit_eq i (show a < 9223372036854775808 by have := h a ha; omega), some_bind', bt_ne, Int.toNat_natCast])]
      rw [any_map, List.any_cons]; simp
    rw [ite_t (decide_eq_true (by omega)), ite_t (bnds_t (by decide) (by simp only [List.length_map, List.length_cons]; omega)), show ((y :: r).map fun (a : Nat) => (a : Int)).getD (0 : Int).toNat 0 = (y : Int) from rfl, i_bit_eq i (by omega), some_bind', hc, some_bind', w64s (by omega)]
    have ih := i_forced_l y r n hn hl h hK kx m (i + 1) k (by omega) (by omega)
    rw [map_range_succ] at ih
    have hlim : decide (((List.range i).map (frc y r)).length + [(2 : Int)].length ≤ lim) = true := lim_app (by simp; omega)
    have hlim2 : decide (((List.range i).map (frc y r)).length + [bt y i].length ≤ lim) = true := lim_app (by simp; omega)
    cases hb : (r.any fun a => a.testBit i != y.testBit i)
    · rw [if_neg (by decide), ite_t hlim2]
      rw [show frc y r i = bt y i from by rw [frc, hb]; rfl] at ih
      exact ih
    · rw [if_pos rfl, ite_t hlim]
      rw [show frc y r i = 2 from by rw [frc, hb]; rfl] at ih
      exact ih
theorem s_forced_l10 (x : DX) (l : List Nat) (z : List Int) (hl : l.length ≤ 256) (h : ∀ a ∈ l, a < 256) (v : Nat) (hv : v ≤ 8) (y : Nat) (kx : DX → List Int → List Int → Int → Int → Option R) : ∀ (r p : List Nat) (k : Nat), l = p ++ r → r.length < k →
    s_ForcedOf_l10 K k x (l.map fun (a : Nat) => (a : Int)) z (v : Int) (bt y v) (p.length : Int) kx = kx x (l.map fun (a : Nat) => (a : Int)) z (v : Int) (frc y r v)
  | [], p, k + 1, e, _ => by simp only [s_ForcedOf_l10]; rw [ite_f (decide_eq_false (by rw [e]; simp))]; rfl
  | a :: r, p, k + 1, e, hk => by
    have ha := h a (by rw [e]; simp)
    have hlt : p.length < l.length := by rw [e]; simp
    simp only [s_ForcedOf_l10]
    have hg : l.getD p.length 0 = a := by rw [e]; exact getD_mid p r a 0
    have ih := s_forced_l10 x l z hl h v hv y kx r (p ++ [a]) k (by rw [e, mid_app]) (by simp at hk; omega)
    rw [snoc_len] at ih
    rw [ite_t (decide_eq_true (by simp; omega)), ite_t (bnds_n (by simpa using hlt)), ite_t (u64_dec _), getD_map, hg, u64n (by omega), bitI_bt v (by omega), bt_ne, w64s (by omega)]
    cases hb : (a.testBit v != y.testBit v)
    · rw [if_neg (by decide), ih, frc, frc, List.any_cons, hb, Bool.false_or]
    · rw [if_pos rfl, frc, List.any_cons, hb]; rfl
theorem s_forced_l (x : DX) (y : Nat) (r : List Nat) (n : Nat) (e1 : x.1 = n) (hn : n ≤ 8) (hl : (y :: r).length ≤ 256) (h : ∀ a ∈ y :: r, a < 256) (kx : List Int → Option R) : ∀ (m i k : Nat), i + m = n → 1000 + m < k →
    s_ForcedOf_l6 K k x ((y :: r).map fun (a : Nat) => (a : Int)) ((List.range i).map (frc y r)) (i : Int) kx = kx ((List.range n).map (frc y r))
  | 0, i, k + 1, e, _ => by
    obtain rfl : i = n := by omega
    simp only [s_ForcedOf_l6]; rw [e1, ite_f (by simp)]
  | m + 1, i, k + 1, e, hk => by
    have hy := h y (by simp)
    simp only [s_ForcedOf_l6]
    rw [ite_t (decide_eq_true (by omega)), ite_t (bnds_t (by decide) (by simp only [List.length_map, List.length_cons]; omega)), ite_t (u64_dec _), show ((y :: r).map fun (a : Nat) => (a : Int)).getD (0 : Int).toNat 0 = (y : Int) from rfl, u64n (by omega), bitI_bt i (by omega)]
    have h10 := fun kx2 => s_forced_l10 (K := K) (R := R) x (y :: r) ((List.range i).map (frc y r)) hl h i (by omega) y kx2 r [y] k rfl (by simp at hl; omega)
    simp only [List.length_cons, List.length_nil, Nat.zero_add, Int.ofNat_one] at h10
    rw [h10]
    have ih := s_forced_l x y r n e1 hn hl h kx m (i + 1) k (by omega) (by omega)
    rw [map_range_succ] at ih
    rw [ite_t (lim_app (by simp; omega)), w64s (by omega)]
    exact ih
/-- What is handed back of solutions that there are, a list. -/
def forcedX (x : DX) : List Int × Int × Unit := if okX x = true then (match solN x with | [] => ([], 4, ()) | y :: r => ((List.range x.1.toNat).map (frc y r), 0, ())) else ([], 1, ())
theorem i_Forced_eq {x : DX} (hx : shX x) (hK : 9223372036854775808 ≤ K) : i_ForcedOf K (x, ()) = some (forcedX x) := by
  simp only [i_ForcedOf, i_solved_eq hx hK, some_bind', forcedX]
  cases h : okX x
  · rfl
  · rcases sol_cases x with h0 | ⟨y, r, h1, h2⟩
    · rw [solX_map, List.map_eq_nil_iff] at h0
      simp only [if_pos, solX_map, h0]; rfl
    · have hl := solN_len h
      have hlt := solN_lt h
      rw [h1] at hl hlt
      obtain ⟨n, e, hn⟩ := okX_nat h
      simp only [if_pos, solX_map, h1, if_neg (show ¬ ((y :: r).map fun (a : Nat) => (a : Int)) = [] by simp)]
      rw [ite_f (by rfl), e, Int.toNat_natCast]
      have := i_forced_l (K := K) y r n hn hl hlt (by omega) (fun z => some (z, (0 : Int), ())) n 0 K (by omega) (by omega)
      exact this
theorem s_Forced_eq {x : DX} (hx : shX x) (hK : 9223372036854775808 ≤ K) : s_ForcedOf K (x, ()) = some (forcedX x) := by
  simp only [s_ForcedOf, s_given_eq hx hK, some_bind', forcedX]
  cases h : okX x
  · rfl
  · rcases sol_cases x with h0 | ⟨y, r, h1, h2⟩
    · rw [solX_map, List.map_eq_nil_iff] at h0
      simp only [if_pos, solX_map, h0]; rfl
    · have hl := solN_len h
      have hlt := solN_lt h
      rw [h1] at hl hlt
      obtain ⟨n, e, hn⟩ := okX_nat h
      simp only [if_pos, solX_map, h1, if_neg (show ¬ ((y :: r).map fun (a : Nat) => (a : Int)) = [] by simp)]
      rw [ite_f (by rfl)]
      have := s_forced_l (K := K) x y r n e hn hl hlt (fun z => some (z, (0 : Int), ())) n 0 K (by omega) (by omega)
      rw [e, Int.toNat_natCast]
      exact this
theorem forcedX_len {x : DX} : (forcedX x).1.length ≤ 1099511627776 := by
  unfold forcedX
  cases h : okX x
  · simp
  · obtain ⟨n, e, hn⟩ := okX_nat h
    rw [if_pos rfl]
    split
    · simp
    · simp [e]; omega
theorem slices_Clone_int64_eq {l : List Int} (h : l.length ≤ 1099511627776) : slices_Clone_int64 K (l, ()) = some l := if_pos h
theorem s_l01Own_eq {l : List Int} (h : l.length ≤ 1099511627776) : s_l01Own K (l, ()) = some l := by
  simp only [s_l01Own]; rw [ite_t (lim_app (by simp; omega))]; rfl
theorem i_copied_l (l : List DC) (hl : l.length ≤ 1000000000) (h : ∀ c ∈ l, c.2.1.length ≤ 1099511627776) (kx : List DC → Option R) : ∀ (r p : List DC) (k : Nat), l = p ++ r → r.length < k →
    i_copied_l3 K k p l (l.length : Int) (p.length : Int) kx = kx l
  | [], p, k + 1, e, _ => by simp only [i_copied_l3]; rw [e, ite_f nlt_len]; simp
  | y :: r, p, k + 1, e, hk => by
    have hp : p.length < l.length := by rw [e]; simp
    simp only [i_copied_l3]
    have ih := i_copied_l l hl h kx r (p ++ [y]) k (by rw [e, mid_app]) (by simp at hk; omega)
    have hy := h y (by rw [e]; simp)
    rw [e] at ih ⊢
    rw [ite_t lt_len, ite_t bnds_mid, getD_midI, slices_Clone_int64_eq hy, some_bind', ite_t (lim_app (by simp; omega)), next_i (by rw [← e]; omega)]
    exact ih
theorem i_copied_eq {l : List DC} (hl : l.length ≤ 1000000000) (h : ∀ c ∈ l, c.2.1.length ≤ 1099511627776) (hK : 4611686018427387904 ≤ K) : i_copied K (l, ()) = some l := by
  simp only [i_copied]
  exact i_copied_l l hl h _ l [] K rfl (by omega)
theorem s_copy_l (x : DX) (hl : x.2.1.length ≤ 1000000000) (h : ∀ c ∈ x.2.1, c.2.1.length ≤ 1099511627776) (kx : List DC → Option R) : ∀ (r p : List DC) (k : Nat), x.2.1 = p ++ r → r.length < k →
    s_l09Copy_l3 K k x p (p.length : Int) kx = kx x.2.1
  | [], p, k + 1, e, _ => by simp only [s_l09Copy_l3]; rw [e, ite_f nlt_len]; simp
  | y :: r, p, k + 1, e, hk => by
    have hp : p.length < x.2.1.length := by rw [e]; simp
    simp only [s_l09Copy_l3]
    have ih := s_copy_l x hl h kx r (p ++ [y]) k (by rw [e, mid_app]) (by simp at hk; omega)
    have hy := h y (by rw [e]; simp)
    rw [e] at ih ⊢
    rw [ite_t lt_len, ite_t bnds_mid, ite_t bnds_mid, getD_midI, s_l01Own_eq hy, some_bind', ite_t (lim_app (by simp; omega)), next_i (by rw [← e]; omega)]
    exact ih
theorem s_l09Copy_eq {x : DX} (hl : x.2.1.length ≤ 1000000000) (h : ∀ c ∈ x.2.1, c.2.1.length ≤ 1099511627776) (hK : 4611686018427387904 ≤ K) : s_l09Copy K (x, ()) = some x.2.1 := by
  simp only [s_l09Copy]
  exact s_copy_l x hl h _ x.2.1 [] K rfl (by omega)
theorem okX_cp {x : DX} (h : okX x = true) : x.2.1.length ≤ 12 ∧ ∀ c ∈ x.2.1, c.2.1.length ≤ 4 := by
  obtain ⟨h1, h2, h3, h4⟩ := okX_h h
  exact ⟨h3, fun c hc => (okC_v (h4 c hc) h2).2.1⟩
/-- An instance with a variable fixed. -/
def fixX (x : DX) (v b : Int) : DX × Int × Unit :=
  if okX x = true then (if (decide (0 ≤ v) && decide (v ≤ x.1 - 1)) = true then (if (decide (0 ≤ b) && decide (b ≤ 1)) = true then (if x.2.1.length = 12 then ((0, [], ()), 3, ()) else ((x.1, x.2.1 ++ [((1, 1 + b, ()), [v], ())], ()), 0, ()))
    else ((0, [], ()), 2, ())) else ((0, [], ()), 2, ())) else ((0, [], ()), 1, ())
theorem i_FixVar_eq {x : DX} {v b : Int} (hx : shX x) (hK : 9223372036854775808 ≤ K) : i_FixVar K (x, v, b, ()) = some (fixX x v b) := by
  simp only [i_FixVar, i_IsInstance_eq hx (show 4611686018427387904 ≤ K by omega), some_bind', fixX]
  cases h : okX x
  · rfl
  · obtain ⟨h1, h2, _⟩ := okX_h h
    obtain ⟨h3, h4⟩ := okX_cp h
    rw [ite_f (by rfl), w64 (by omega) (by omega), i_within_eq, some_bind', if_pos rfl]
    cases hv : (decide (0 ≤ v) && decide (v ≤ x.1 - 1))
    · rfl
    · rw [ite_f (by rfl), i_within_eq, some_bind', if_pos rfl]
      cases hb : (decide (0 ≤ b) && decide (b ≤ 1))
      · rfl
      · rw [ite_f (by rfl), if_pos rfl]
        by_cases h12 : x.2.1.length = 12
        · rw [ite_t (decide_eq_true (by omega)), if_pos h12]
        · have hb2 := and_dec.1 hb
          rw [ite_f (decide_eq_false (by omega)), if_neg h12]
          simp only [i_FixVar_j7]
          rw [i_copied_eq (by omega) (fun c hc => by have := h4 c hc; omega) (by omega), some_bind', ite_t (decide_eq_true hb2.1), ite_t (lim_app (by simp; omega))]
          have e : shlI .i64 (1 : Int) b = 1 + b := by
            rcases (show b = 0 ∨ b = 1 by omega) with rfl | rfl <;> rfl
          rw [e]
theorem s_FixVar_eq {x : DX} {v b : Int} (hx : shX x) (hK : 9223372036854775808 ≤ K) : s_FixVar K (x, v, b, ()) = some (fixX x v b) := by
  simp only [s_FixVar, s_l09Is_eq hx hK, some_bind', fixX]
  cases h : okX x
  · rfl
  · obtain ⟨h1, h2, _⟩ := okX_h h
    obtain ⟨h3, h4⟩ := okX_cp h
    rw [ite_f (by rfl), w64 (by omega) (by omega), s_l01In_eq, some_bind', if_pos rfl]
    cases hv : (decide (0 ≤ v) && decide (v ≤ x.1 - 1))
    · rfl
    · rw [ite_f (by rfl), s_l01In_eq, some_bind', if_pos rfl]
      cases hb : (decide (0 ≤ b) && decide (b ≤ 1))
      · rfl
      · rw [ite_f (by rfl), if_pos rfl]
        by_cases h12 : x.2.1.length = 12
        · rw [ite_t (decide_eq_true (by omega)), if_pos h12]
        · have hb2 := and_dec.1 hb
          rw [ite_f (decide_eq_false (by omega)), if_neg h12]
          simp only [s_FixVar_j7]
          rw [s_l09Copy_eq (by omega) (fun c hc => by have := h4 c hc; omega) (by omega), some_bind', ite_t (lim_app (by simp; omega)), w64 (by omega) (by omega)]
def allF (P : Nat → Bool) : Nat → Nat → Bool
  | _, 0 => true
  | j, m + 1 => P j && allF P (j + 1) m
def anyF (P : Nat → Bool) : Nat → Nat → Bool
  | _, 0 => false
  | j, m + 1 => P j || anyF P (j + 1) m
theorem allF_iff {P : Nat → Bool} : ∀ {m j : Nat}, allF P j m = true ↔ ∀ i, j ≤ i → i < j + m → P i = true
  | 0, j => by simp only [allF, true_iff]; intro i h1 h2; omega
  | m + 1, j => by
    simp only [allF, Bool.and_eq_true, allF_iff (m := m) (j := j + 1)]
    constructor
    · rintro ⟨h1, h2⟩ i h3 h4
      by_cases e : i = j
      · rw [e]; exact h1
      · exact h2 i (by omega) (by omega)
    · intro h
      exact ⟨h j (by omega) (by omega), fun i h3 h4 => h i (by omega) (by omega)⟩
theorem anyF_iff {P : Nat → Bool} : ∀ {m j : Nat}, anyF P j m = true ↔ ∃ i, j ≤ i ∧ i < j + m ∧ P i = true
  | 0, j => by simp only [anyF]; constructor; (intro h; cases h); (rintro ⟨i, h1, h2, _⟩; omega)
  | m + 1, j => by
    simp only [anyF, Bool.or_eq_true, anyF_iff (m := m) (j := j + 1)]
    constructor
    · rintro (h | ⟨i, h1, h2, h3⟩)
      · exact ⟨j, by omega, by omega, h⟩
      · exact ⟨i, by omega, by omega, h3⟩
    · rintro ⟨i, h1, h2, h3⟩
      by_cases e : i = j
      · left; rw [← e]; exact h3
      · right; exact ⟨i, by omega, by omega, h3⟩
theorem anyF_congr {P Q : Nat → Bool} {j m : Nat} (h : ∀ i, j ≤ i → i < j + m → P i = Q i) : anyF P j m = anyF Q j m := by
  rw [Bool.eq_iff_iff, anyF_iff, anyF_iff]
  exact ⟨fun ⟨i, h1, h2, h3⟩ => ⟨i, h1, h2, by rw [← h i h1 h2]; exact h3⟩, fun ⟨i, h1, h2, h3⟩ => ⟨i, h1, h2, by rw [h i h1 h2]; exact h3⟩⟩
theorem tuples_l (n : Int) (b : Nat) (hb : b < 9223372036854775808) (N : Nat) (hN : N ≤ 65536) (kx : List Int → Option R) : ∀ (m i k : Nat), i + m = N → m < k →
    i_Relation_tuples_l3 K k (n, (b : Int), ()) (sel b.testBit i) (N : Int) (i : Int) kx = kx (sel b.testBit N)
  | 0, i, k + 1, e, _ => by
    obtain rfl : i = N := by omega
    simp only [i_Relation_tuples_l3]; rw [ite_f (by simp)]
  | m + 1, i, k + 1, e, hk => by
    have hl := sel_len b.testBit i
    simp only [i_Relation_tuples_l3]
    have ih := tuples_l n b hb N hN kx m (i + 1) k (by omega) (by omega)
    rw [sel_succ] at ih
    rw [ite_t (decide_eq_true (by omega)), i_Relation_has_eq i hb, some_bind', w64s (by omega), ite_t (lim_len (by omega))]
    cases hs : b.testBit i
    · rw [hs, if_neg (by decide)] at ih
      rw [if_neg (by decide)]; exact ih
    · rw [hs, if_pos rfl] at ih
      rw [if_pos rfl]; exact ih
theorem i_tuples_eq {n b : Nat} (hn : n ≤ 4) (hb : b < 9223372036854775808) (hK : 4611686018427387904 ≤ K) : i_Relation_tuples K (((n : Int), (b : Int), ()), ()) = some (sel b.testBit (2 ^ n)) := by
  have hp := pw4 hn
  simp only [i_Relation_tuples, i_rowsOf_eq (show n < 63 by omega), some_bind']
  exact tuples_l (K := K) (n : Int) b hb (2 ^ n) (by omega) (fun z => some z) (2 ^ n) 0 K (by omega) (by omega)
theorem index_l (v : Int) (l : List Int) (hl : l.length < 4611686018427387904) (kx : Option R) (kr : Int → Option R) : ∀ (r p : List Int) (k : Nat), l = p ++ r → r.length < k →
    slices_Index_int64_l2 K k l v (l.length : Int) (p.length : Int) kx kr = match r.findIdx? (fun z => decide (v = z)) with | some j => kr ((p.length + j : Nat) : Int) | none => kx
  | [], p, k + 1, h, _ => by subst h; simp only [slices_Index_int64_l2]; rw [ite_f nlt_len]; rfl
  | y :: r, p, k + 1, h, hk => by
    subst h
    simp only [slices_Index_int64_l2]
    rw [ite_t lt_len, ite_t bnds_mid, getD_midI, List.findIdx?_cons]
    cases hg : decide (v = y)
    · rw [if_neg (by decide), if_neg (by decide), next_i hl, index_l v _ hl kx kr r (p ++ [y]) k (mid_app p r y) (by simp at hk; omega)]
      cases hr : r.findIdx? (fun z => decide (v = z))
      · rfl
      · simp only [Option.map_some]; congr 1; simp; omega
    · rw [if_pos rfl, if_pos rfl]; rfl
theorem slices_Index_eq {v : Int} {l : List Int} {j : Nat} (hl : l.length < 4611686018427387904) (hK : 4611686018427387904 ≤ K) (h : l.findIdx? (fun z => decide (v = z)) = some j) : slices_Index_int64 K (l, v, ()) = some (j : Int) := by
  simp only [slices_Index_int64]
  have := index_l (K := K) v l hl (some (-1 : Int)) (fun z => some z) l [] K rfl (by omega)
  simp only [List.length_nil, Nat.zero_add] at this
  rw [show ((0 : Nat) : Int) = 0 from rfl] at this
  rw [this, h]
/-- The first place at which the number stands that stands at place i. -/
def fstP (vs : List Int) (i : Nat) : Nat := (vs.findIdx? fun z => decide (vs.getD i 0 = z)).getD 0
theorem fstP_h {vs : List Int} {i : Nat} (h : i < vs.length) : vs.findIdx? (fun z => decide (vs.getD i 0 = z)) = some (fstP vs i) ∧ fstP vs i ≤ i ∧ vs.getD (fstP vs i) 0 = vs.getD i 0 := by
  have hi : vs.getD i 0 = vs[i] := by simp [List.getD, List.getElem?_eq_getElem h]
  cases hf : vs.findIdx? (fun z => decide (vs.getD i 0 = z)) with
  | none =>
    rw [List.findIdx?_eq_none_iff] at hf
    have := hf vs[i] (List.getElem_mem h)
    rw [hi] at this; simp at this
  | some j =>
    have e : fstP vs i = j := by unfold fstP; rw [hf]; rfl
    rw [e]
    obtain ⟨h1, h2, h3⟩ := List.findIdx?_eq_some_iff_getElem.1 hf
    refine ⟨rfl, ?_, ?_⟩
    · apply Nat.le_of_not_lt
      intro hlt
      have := h3 i hlt
      rw [hi] at this; simp at this
    · simp only [List.getD, List.getElem?_eq_getElem h1, Option.getD_some]
      simpa [List.getD] using (of_decide_eq_true h2).symm
def alw (d : Int) (t i : Nat) : Bool := decide (d = 2) || decide (d = bt t i)
def opI (vs d : List Int) (t i : Nat) : Bool := alw (d.getD (vs.getD i 0).toNat 0) t i && (t.testBit (fstP vs i) == t.testBit i)
theorem bt_eqd (t i j : Nat) : (!decide (bt t i = bt t j)) = !(t.testBit i == t.testBit j) := by
  unfold bt; cases t.testBit i <;> cases t.testBit j <;> rfl
theorem open_l (t : Nat) (c : DC) (d : List Int) (ht : t < 9223372036854775808) (hK : 4611686018427387904 ≤ K) (hl : c.2.1.length ≤ 4) (hv : ∀ v ∈ c.2.1, 0 ≤ v ∧ v < d.length) (kx : Option R) (kr : Bool → Option R) : ∀ (m i k : Nat), i + m = c.2.1.length → m < k →
    i_Clause_isOpen_l2 K k (t : Int) d c c.2.1 (c.2.1.length : Int) (i : Int) kx kr = if allF (opI c.2.1 d t) i m = true then kx else kr false
  | 0, i, k + 1, e, _ => by
    simp only [i_Clause_isOpen_l2]; rw [ite_f (decide_eq_false (by omega))]; rfl
  | m + 1, i, k + 1, e, hk => by
    have hi : i < c.2.1.length := by omega
    have hm : c.2.1.getD i 0 ∈ c.2.1 := by simp [List.getD, List.getElem?_eq_getElem hi]
    obtain ⟨hv0, hv1⟩ := hv _ hm
    obtain ⟨f1, f2, f3⟩ := fstP_h hi
    simp only [i_Clause_isOpen_l2]
    have ih := open_l t c d ht hK hl hv kx kr m (i + 1) k (by omega) (by omega)
    rw [ite_t (decide_eq_true (by omega)), ite_t (bnds_n hi), Int.toNat_natCast, slices_Index_eq (by omega) hK f1, some_bind', ite_t (bnds_t hv0 hv1), ite_t (bnds_t hv0 hv1), i_bit_eq i ht, some_bind', i_bit_eq (fstP c.2.1 i) ht, some_bind', some_bind', bt_eqd, w64s (by omega), ih]
    rw [allF, opI, alw]
    generalize d.getD (c.2.1.getD i 0).toNat 0 = dv
    generalize allF (opI c.2.1 d t) (i + 1) m = A
    cases (t.testBit (fstP c.2.1 i) == t.testBit i) <;> by_cases h2 : dv = 2 <;> by_cases h3 : dv = bt t i <;> cases A <;> simp [h2, h3]
def opn (vs d : List Int) (t : Nat) : Bool := allF (opI vs d t) 0 vs.length
theorem i_isOpen_eq {t : Nat} {c : DC} {d : List Int} (ht : t < 9223372036854775808) (hK : 4611686018427387904 ≤ K) (hl : c.2.1.length ≤ 4) (hv : ∀ v ∈ c.2.1, 0 ≤ v ∧ v < d.length) : i_Clause_isOpen K (c, (t : Int), d, ()) = some (opn c.2.1 d t) := by
  simp only [i_Clause_isOpen]
  have := open_l (K := K) t c d ht hK hl hv (some true) (fun z => some z) c.2.1.length 0 K (by omega) (by omega)
  rw [show ((0 : Nat) : Int) = 0 from rfl] at this
  rw [this, opn]; cases allF (opI c.2.1 d t) 0 c.2.1.length <;> rfl
def opK (vs d : List Int) (t k : Nat) : Bool := alw (d.getD (vs.getD k 0).toNat 0) t k && allF (fun j => !decide (vs.getD j 0 = vs.getD k 0) || (t.testBit j == t.testBit k)) 0 k
theorem fstP_same {vs : List Int} {i j : Nat} (h : vs.getD i 0 = vs.getD j 0) : fstP vs i = fstP vs j := by unfold fstP; rw [h]
theorem opn_eq (vs d : List Int) (t : Nat) : allF (opK vs d t) 0 vs.length = opn vs d t := by
  rw [opn, Bool.eq_iff_iff, allF_iff, allF_iff]
  constructor
  · intro h i _ hi
    have hi : i < vs.length := by omega
    have h1 := h i (by omega) (by omega)
    simp only [opK, Bool.and_eq_true] at h1
    simp only [opI, Bool.and_eq_true]
    refine ⟨h1.1, ?_⟩
    obtain ⟨_, f2, f3⟩ := fstP_h hi
    by_cases e : fstP vs i = i
    · rw [e]; simp
    · have := allF_iff.1 h1.2 (fstP vs i) (by omega) (by omega)
      rw [f3] at this
      simpa using this
  · intro h k _ hk
    have h1 := h k (by omega) (by omega)
    simp only [opI, Bool.and_eq_true] at h1
    simp only [opK, Bool.and_eq_true]
    refine ⟨h1.1, allF_iff.2 fun j _ hj => ?_⟩
    by_cases e : vs.getD j 0 = vs.getD k 0
    · have h2 := h j (by omega) (by omega)
      simp only [opI, Bool.and_eq_true, beq_iff_eq] at h1 h2
      rw [fstP_same e] at h2
      rw [← h1.2, ← h2.2]; simp
    · rw [decide_eq_false e]; rfl
theorem bt_beq (t j k : Nat) : (!decide (bt t j = bt t k)) = !(t.testBit j == t.testBit k) := bt_eqd t j k
theorem supp_l11 (d : List Int) (pl val : Int) (c : DC) (t kk : Nat) (ht : t < 9223372036854775808) (hl : c.2.1.length ≤ 4) (hkk : kk < c.2.1.length) (kx : List Int → Int → Int → DC → Int → Bool → Int → Option R) : ∀ (m j k : Nat) (good : Bool), j + m = kk → m < k →
    s_l09Supported_l11 K k d pl val c (t : Int) good (kk : Int) (bt t kk) (j : Int) kx = kx d pl val c (t : Int) (good && allF (fun j => !decide (c.2.1.getD j 0 = c.2.1.getD kk 0) || (t.testBit j == t.testBit kk)) j m) (kk : Int)
  | 0, j, k + 1, good, e, _ => by
    simp only [s_l09Supported_l11]; rw [ite_f (decide_eq_false (by omega))]; simp [allF]
  | m + 1, j, k + 1, good, e, hk => by
    simp only [s_l09Supported_l11, s_l09Supported_j12]
    have ih := fun g => supp_l11 d pl val c t kk ht hl hkk kx m (j + 1) k g (by omega) (by omega)
    rw [ite_t (decide_eq_true (by omega)), ite_t (bnds_n (by omega)), ite_t (bnds_n hkk), Int.toNat_natCast, Int.toNat_natCast, ite_t (u64_dec _), u64n (by omega), bitI_bt j ht, bt_beq, w64s (by omega), ih, ih, allF]
    by_cases h : c.2.1.getD j 0 = c.2.1.getD kk 0
    · rw [if_pos (decide_eq_true h), decide_eq_true h]
      cases (t.testBit j == t.testBit kk) <;> simp
    · rw [if_neg (by simpa using h), decide_eq_false h]; simp
theorem s_l09Allows_eq (a b : Int) : s_l09Allows K (a, b, ()) = some (decide (a = 2) || decide (a = b)) := by
  simp only [s_l09Allows]
  by_cases h : a = 2
  · rw [if_pos (decide_eq_true h), decide_eq_true h]; rfl
  · rw [if_neg (by simpa using h), decide_eq_false h]; rfl
theorem supp_l6 (d : List Int) (pl val : Int) (c : DC) (t : Nat) (ht : t < 9223372036854775808) (hl : c.2.1.length ≤ 4) (hv : ∀ v ∈ c.2.1, 0 ≤ v ∧ v < d.length) (kx : List Int → Int → Int → DC → Int → Bool → Option R) : ∀ (m kk k : Nat) (good : Bool), kk + m = c.2.1.length → 100 + m < k →
    s_l09Supported_l6 K k d pl val c (t : Int) good (kk : Int) kx = kx d pl val c (t : Int) (good && allF (opK c.2.1 d t) kk m)
  | 0, kk, k + 1, good, e, _ => by
    simp only [s_l09Supported_l6]; rw [ite_f (decide_eq_false (by omega))]; simp [allF]
  | m + 1, kk, k + 1, good, e, hk => by
    have hi : kk < c.2.1.length := by omega
    obtain ⟨hv0, hv1⟩ := hv _ (show c.2.1.getD kk 0 ∈ c.2.1 by simp [List.getD, List.getElem?_eq_getElem hi])
    simp only [s_l09Supported_l6, s_l09Supported_j8]
    rw [ite_t (decide_eq_true (by omega))]
    cases good
    · rw [if_neg (by decide)]; simp
    · rw [if_pos rfl, ite_t (u64_dec _), ite_t (bnds_n hi), Int.toNat_natCast, ite_t (bnds_t hv0 hv1), u64n (by omega), bitI_bt kk ht, s_l09Allows_eq, some_bind']
      have h11 := supp_l11 (K := K) (R := R) d pl val c t kk ht hl hi (fun z35 z36 z37 z38 z39 z40 z41 => s_l09Supported_l6 K k z35 z36 z37 z38 z39 z40 (IntKind.i64.wrap (z41 + 1)) kx) kk 0 k (decide (d.getD (c.2.1.getD kk 0).toNat 0 = 2) || decide (d.getD (c.2.1.getD kk 0).toNat 0 = bt t kk)) (by omega) (by omega)
      rw [show ((0 : Nat) : Int) = 0 from rfl] at h11
      rw [h11, w64s (by omega), supp_l6 d pl val c t ht hl hv kx m (kk + 1) k _ (by omega) (by omega), allF, Bool.true_and, opK, alw]
def supp (vs d : List Int) (bits n k : Nat) (val : Bool) : Bool := anyF (fun t => bits.testBit t && (opn vs d t && (t.testBit k == val))) 0 (2 ^ n)
theorem supp_l2 (d : List Int) (pl : Nat) (val : Bool) (c : DC) (n bits : Nat) (e1 : c.1 = ((n : Int), (bits : Int), ())) (hn : n ≤ 4) (hb : bits < 9223372036854775808) (hpl : pl < 9223372036854775808) (hl : c.2.1.length ≤ 4) (hv : ∀ v ∈ c.2.1, 0 ≤ v ∧ v < d.length) (kx : Option R) (kr : Bool → Option R) :
    ∀ (m t k : Nat), t + m = 2 ^ n → 1000 + m < k →
    s_l09Supported_l2 K k d (pl : Int) (if val = true then 1 else 0) c (t : Int) kx kr = if anyF (fun t => bits.testBit t && (opn c.2.1 d t && (t.testBit pl == val))) t m = true then kr true else kx
  | 0, t, k + 1, e, _ => by
    simp only [s_l09Supported_l2]
    rw [e1]
    simp only [s_l01Rows_eq (show n < 63 by omega), some_bind']
    rw [ite_f (decide_eq_false (by omega))]; rfl
  | m + 1, t, k + 1, e, hk => by
    have hp := pw4 hn
    simp only [s_l09Supported_l2, s_l09Supported_j5]
    have ih := supp_l2 d pl val c n bits e1 hn hb hpl hl hv kx kr m (t + 1) k (by omega) (by omega)
    have h6 := fun good => supp_l6 (K := K) (R := R) d (pl : Int) (if val = true then 1 else 0) c t (by omega) hl hv (fun z49 z50 z51 z52 z53 z54 => if z54 = true then kr true else s_l09Supported_l2 K k z49 z50 z51 z52 (IntKind.i64.wrap (z53 + 1)) kx kr) c.2.1.length 0 k good (by omega) (by omega)
    rw [show ((0 : Nat) : Int) = 0 from rfl] at h6
    rw [show c.1.1 = (n : Int) from by rw [e1], s_l01Rows_eq (show n < 63 by omega), some_bind', ite_t (decide_eq_true (by omega)), show s_l09Has K (c.1, (t : Int), ()) = some (bits.testBit t) from by rw [e1]; exact s_l09Has_eq hb (by omega), some_bind', h6, h6, w64s (by omega), ih, ite_t (u64_dec _), u64n (by omega), bitI_bt pl (by omega), opn_eq, anyF]
    have e2 : decide (bt t pl = if val = true then 1 else 0) = (t.testBit pl == val) := by unfold bt; cases t.testBit pl <;> cases val <;> rfl
    rw [e2]
    cases bits.testBit t <;> cases (t.testBit pl == val) <;> cases opn c.2.1 d t <;> rfl
theorem s_l09Supported_eq {d : List Int} {pl : Nat} {val : Bool} {c : DC} {n bits : Nat} (e1 : c.1 = ((n : Int), (bits : Int), ())) (hn : n ≤ 4) (hb : bits < 9223372036854775808) (hpl : pl < 9223372036854775808) (hl : c.2.1.length ≤ 4) (hv : ∀ v ∈ c.2.1, 0 ≤ v ∧ v < d.length) (hK : 4611686018427387904 ≤ K) :
    s_l09Supported K (c, d, (pl : Int), (if val = true then 1 else 0), ()) = some (supp c.2.1 d bits n pl val) := by
  have hp := pw4 hn
  simp only [s_l09Supported]
  have := supp_l2 (K := K) d pl val c n bits e1 hn hb hpl hl hv (some false) (fun z => some z) (2 ^ n) 0 K (by omega) (by omega)
  rw [show ((0 : Nat) : Int) = 0 from rfl] at this
  rw [this, supp]; cases anyF (fun t => bits.testBit t && (opn c.2.1 d t && (t.testBit pl == val))) 0 (2 ^ n) <;> rfl
theorem narrow_l6 (d : List Int) (c : DC) (i : Nat) (v : Int) (x11 : List Int) (x12 x13 : Int) (hK : 4611686018427387904 ≤ K) (hl : c.2.1.length ≤ 4) (hv : ∀ v ∈ c.2.1, 0 ≤ v ∧ v < d.length) (L : List Nat) (hL : L.length ≤ 16) (hLt : ∀ t ∈ L, t < 16) (kx : List Int → DC → Int → List Bool → List Int → Int → Int → Option R) :
    ∀ (r p : List Nat) (k : Nat) (s0 s1 : Bool), L = p ++ r → r.length < k →
    i_Clause_narrow_l6 K k d c (i : Int) v [s0, s1] x11 x12 x13 (L.map fun (a : Nat) => (a : Int)) ((L.map fun (a : Nat) => (a : Int)).length : Int) (p.length : Int) kx =
      kx d c v [s0 || r.any (fun t => opn c.2.1 d t && (t.testBit i == false)), s1 || r.any (fun t => opn c.2.1 d t && (t.testBit i == true))] x11 x12 x13
  | [], p, k + 1, s0, s1, e, _ => by
    simp only [i_Clause_narrow_l6]; rw [ite_f (decide_eq_false (by rw [e]; simp))]; simp
  | t :: r, p, k + 1, s0, s1, e, hk => by
    have ht := hLt t (by rw [e]; simp)
    have hlt : p.length < L.length := by rw [e]; simp
    simp only [i_Clause_narrow_l6]
    have ih := fun a b => narrow_l6 d c i v x11 x12 x13 hK hl hv L hL hLt kx r (p ++ [t]) k a b (by rw [e, mid_app]) (by simp at hk; omega)
    simp only [snoc_len] at ih
    have hb : bnds (bt t i) (2 : Int) = true := by unfold bt; cases t.testBit i <;> rfl
    rw [ite_t (decide_eq_true (by simp; omega)), ite_t (bnds_n (by simpa using hlt)), getD_map, show L.getD p.length 0 = t from by rw [e]; exact getD_mid p r t 0, i_isOpen_eq (by omega) hK hl hv, some_bind', i_bit_eq i (by omega), some_bind', ite_t hb, w64s (by omega)]
    cases ho : opn c.2.1 d t
    · rw [if_neg (by decide), ih]; simp [ho]
    · rw [if_pos rfl]
      cases hti : t.testBit i
      · rw [show bt t i = 0 from bt_0.2 hti, show ([s0, s1] : List Bool).set (0 : Int).toNat true = [true, s1] from rfl, ih]; simp [ho, hti]
      · rw [show bt t i = 1 from bt_1.2 hti, show ([s0, s1] : List Bool).set (1 : Int).toNat true = [s0, true] from rfl, ih]; simp [ho, hti]
def nstep (c : DC) (bits n : Nat) (d : List Int) (i : Nat) : Bool × List Int :=
  if supp c.2.1 d bits n i false = true then (if supp c.2.1 d bits n i true = true then (true, d) else (true, d.set (c.2.1.getD i 0).toNat 0))
  else (if supp c.2.1 d bits n i true = true then (true, d.set (c.2.1.getD i 0).toNat 1) else (false, d))
def nfold (c : DC) (bits n : Nat) : List Int → Nat → Nat → Bool × List Int
  | d, _, 0 => (true, d)
  | d, i, m + 1 => if (nstep c bits n d i).1 = true then nfold c bits n (nstep c bits n d i).2 (i + 1) m else (false, (nstep c bits n d i).2)
theorem nstep_len (c : DC) (bits n : Nat) (d : List Int) (i : Nat) : (nstep c bits n d i).2.length = d.length := by
  unfold nstep; split <;> split <;> simp
theorem sel_nat (P : Nat → Bool) (n : Nat) : sel P n = ((List.range n).filter P).map fun (a : Nat) => (a : Int) := rfl
theorem any_supp (vs d : List Int) (bits n i : Nat) (val : Bool) : (((List.range (2 ^ n)).filter bits.testBit).any fun t => opn vs d t && (t.testBit i == val)) = supp vs d bits n i val := by
  rw [supp, Bool.eq_iff_iff, anyF_iff, List.any_eq_true]
  constructor
  · rintro ⟨t, h1, h2⟩
    obtain ⟨h3, h4⟩ := List.mem_filter.1 h1
    exact ⟨t, by omega, by have := List.mem_range.1 h3; omega, by rw [h4, h2]; rfl⟩
  · rintro ⟨t, _, h2, h3⟩
    rw [Bool.and_eq_true] at h3
    exact ⟨t, List.mem_filter.2 ⟨List.mem_range.2 (by omega), h3.1⟩, h3.2⟩
theorem narrow_l2 (c : DC) (n bits : Nat) (e1 : c.1 = ((n : Int), (bits : Int), ())) (hn : n ≤ 4) (hb : bits < 9223372036854775808) (hK : 4611686018427387904 ≤ K) (hl : c.2.1.length ≤ 4) (kx : List Int → Option R) (kr : List Int → Bool → Option R) :
    ∀ (m i k : Nat) (d : List Int), i + m = c.2.1.length → 100 + m < k → (∀ v ∈ c.2.1, 0 ≤ v ∧ v < d.length) →
    i_Clause_narrow_l2 K k d c c.2.1 (c.2.1.length : Int) (i : Int) kx kr = if (nfold c bits n d i m).1 = true then kx (nfold c bits n d i m).2 else kr (nfold c bits n d i m).2 false
  | 0, i, k + 1, d, e, _, _ => by
    simp only [i_Clause_narrow_l2]; rw [ite_f (decide_eq_false (by omega))]; rfl
  | m + 1, i, k + 1, d, e, hk, hv => by
    have hp := pw4 hn
    have hi : i < c.2.1.length := by omega
    obtain ⟨hv0, hv1⟩ := hv _ (show c.2.1.getD i 0 ∈ c.2.1 by simp [List.getD, List.getElem?_eq_getElem hi])
    have hL := sel_len bits.testBit (2 ^ n)
    rw [sel_nat, List.length_map] at hL
    have h6 := fun kx => narrow_l6 (K := K) (R := R) d c i (c.2.1.getD i 0) c.2.1 (c.2.1.length : Int) (i : Int) hK hl hv ((List.range (2 ^ n)).filter bits.testBit) (by omega) (fun t ht => by have := List.mem_range.1 (List.mem_filter.1 ht).1; omega) kx ((List.range (2 ^ n)).filter bits.testBit) [] k false false rfl (by omega)
    simp only [List.length_nil, Bool.false_or, any_supp] at h6
    rw [show ((0 : Nat) : Int) = 0 from rfl] at h6
    simp only [i_Clause_narrow_l2, i_Clause_narrow_j17]
    rw [ite_t (decide_eq_true (by omega)), ite_t (bnds_n hi), show i_Relation_tuples K (c.1, ()) = some (sel bits.testBit (2 ^ n)) from by rw [e1]; exact i_tuples_eq hn hb hK, some_bind', Int.toNat_natCast, sel_nat, show List.replicate 2 false = [false, false] from rfl, h6, w64s (by omega)]
    have ih := fun d' (hd : d'.length = d.length) => narrow_l2 c n bits e1 hn hb hK hl kx kr m (i + 1) k d' (by omega) (by omega) (fun v h => by rw [hd]; exact hv v h)
    have b0 : bnds (0 : Int) (2 : Int) = true := rfl
    have b1 : bnds (1 : Int) (2 : Int) = true := rfl
    have bv := bnds_t hv0 hv1
    have g0 : ∀ a b : Bool, ([a, b] : List Bool).getD (0 : Int).toNat false = a := fun _ _ => rfl
    have g1 : ∀ a b : Bool, ([a, b] : List Bool).getD (1 : Int).toNat false = b := fun _ _ => rfl
    simp only [b0, b1, bv, g0, g1, if_true, ih d rfl, ih (d.set (c.2.1.getD i 0).toNat 0) (List.length_set ..), ih (d.set (c.2.1.getD i 0).toNat 1) (List.length_set ..)]
    rw [nfold, nstep]
    cases supp c.2.1 d bits n i false <;> cases supp c.2.1 d bits n i true <;> rfl
theorem i_narrow_eq {c : DC} {n bits : Nat} {d : List Int} (e1 : c.1 = ((n : Int), (bits : Int), ())) (hn : n ≤ 4) (hb : bits < 9223372036854775808) (hK : 4611686018427387904 ≤ K) (hl : c.2.1.length ≤ 4) (hv : ∀ v ∈ c.2.1, 0 ≤ v ∧ v < d.length) :
    i_Clause_narrow K (c, d, ()) = some ((nfold c bits n d 0 c.2.1.length).1, ((nfold c bits n d 0 c.2.1.length).2, ())) := by
  simp only [i_Clause_narrow]
  have := narrow_l2 (K := K) c n bits e1 hn hb hK hl (fun z => some (true, (z, ()))) (fun z47 z48 => some (z48, (z47, ()))) c.2.1.length 0 K d (by omega) (by omega) hv
  rw [show ((0 : Nat) : Int) = 0 from rfl] at this
  rw [this]
  cases h : (nfold c bits n d 0 c.2.1.length).1 <;> rfl
def tw : List Int → Nat
  | [] => 0
  | a :: l => (if a = 2 then 1 else 0) + tw l
def isDm (d : List Int) : Prop := ∀ a ∈ d, a = 0 ∨ a = 1 ∨ a = 2
theorem tw_le : ∀ d, tw d ≤ d.length
  | [] => Nat.le_refl _
  | a :: l => by have := tw_le l; simp only [tw, List.length_cons]; split <;> omega
theorem tw_set {b : Int} (hb : b ≠ 2) : ∀ (d : List Int) (i : Nat), d.getD i 0 = 2 → i < d.length → tw (d.set i b) < tw d
  | [], i, _, h => by simp at h
  | a :: l, 0, h, _ => by
    have h : a = 2 := h
    simp only [List.set_cons_zero, tw, if_neg hb, if_pos h]; omega
  | a :: l, i + 1, h, hi => by
    have := tw_set hb l i (by simpa [List.getD] using h) (by simpa using hi)
    simp only [List.set_cons_succ, tw]; omega
theorem set_same : ∀ (d : List Int) (i : Nat) (b : Int), d.getD i 0 = b → i < d.length → d.set i b = d
  | [], i, b, _, h => by simp at h
  | a :: l, 0, b, h, _ => by
    have h : a = b := h
    rw [h]; rfl
  | a :: l, i + 1, b, h, hi => by
    rw [List.set_cons_succ, set_same l i b (by simpa [List.getD] using h) (by simpa using hi)]
theorem isDm_set {d : List Int} (h : isDm d) {b : Int} (hb : b = 0 ∨ b = 1) (i : Nat) : isDm (d.set i b) := fun a ha => by
  rcases List.mem_or_eq_of_mem_set ha with h1 | h1
  · exact h a h1
  · rcases hb with e | e <;> rw [h1, e] <;> simp
theorem isDm_get {d : List Int} (h : isDm d) {i : Nat} (hi : i < d.length) : d.getD i 0 = 0 ∨ d.getD i 0 = 1 ∨ d.getD i 0 = 2 :=
  h _ (by simp [List.getD, List.getElem?_eq_getElem hi])
/-- Nothing has changed, or fewer domains have both values. -/
def lsD (d d' : List Int) : Prop := d' = d ∨ tw d' < tw d
theorem lsD_tw {d d' : List Int} (h : lsD d d') : tw d' ≤ tw d := by
  rcases h with h | h
  · rw [h]; exact Nat.le_refl _
  · omega
theorem lsD_trans {a b c : List Int} (h1 : lsD a b) (h2 : lsD b c) : lsD a c ∧ (decide (c ≠ a) = (decide (b ≠ a) || decide (c ≠ b))) := by
  rcases h1 with h1 | h1
  · subst h1; exact ⟨h2, by simp⟩
  · have := lsD_tw h2
    have hc : c ≠ a := fun e => by subst e; omega
    have hb : b ≠ a := fun e => by subst e; omega
    exact ⟨.inr (by omega), by rw [decide_eq_true hc, decide_eq_true hb]; rfl⟩
theorem opn_k {vs d : List Int} {t i : Nat} (h : opn vs d t = true) (hi : i < vs.length) : alw (d.getD (vs.getD i 0).toNat 0) t i = true ∧ t.testBit (fstP vs i) = t.testBit i := by
  have := allF_iff.1 h i (by omega) (by omega)
  simp only [opI, Bool.and_eq_true, beq_iff_eq] at this
  exact this
theorem supp_no {vs d : List Int} {bits n k : Nat} (hk : k < vs.length) {val : Bool} (h : d.getD (vs.getD k 0).toNat 0 = if val = true then 0 else 1) : supp vs d bits n k val = false := by
  cases hs : supp vs d bits n k val
  · rfl
  · obtain ⟨t, _, _, h3⟩ := anyF_iff.1 hs
    simp only [Bool.and_eq_true, beq_iff_eq] at h3
    have := (opn_k h3.2.1 hk).1
    rw [h, alw] at this
    unfold bt at this
    rw [h3.2.2] at this
    cases val <;> simp at this
theorem getD_set {d : List Int} {i j : Nat} {b : Int} (hi : i < d.length) : (d.set i b).getD j 0 = if i = j then b else d.getD j 0 := by
  simp only [List.getD, List.getElem?_set]
  by_cases h : i = j
  · subst h; simp [hi]
  · simp [h]
theorem supp_up {vs d : List Int} {bits n k : Nat} (hk : k < vs.length) (hv : ∀ v ∈ vs, 0 ≤ v ∧ v < d.length) (h2 : d.getD (vs.getD k 0).toNat 0 = 2) : supp vs (d.set (vs.getD k 0).toNat 1) bits n k true = supp vs d bits n k true := by
  have mem : ∀ i, i < vs.length → vs.getD i 0 ∈ vs := fun i hi => by simp [List.getD, List.getElem?_eq_getElem hi]
  obtain ⟨hk0, hk1⟩ := hv _ (mem k hk)
  refine anyF_congr fun t _ _ => ?_
  cases bits.testBit t
  · rfl
  · cases ht : t.testBit k
    · simp
    · simp only [Bool.true_and, beq_self_eq_true, Bool.and_true]
      rw [Bool.eq_iff_iff]
      constructor
      · intro h
        refine allF_iff.2 fun i _ hi => ?_
        have hi : i < vs.length := by omega
        obtain ⟨h3, h4⟩ := opn_k h hi
        rw [opI, h4, beq_self_eq_true, Bool.and_true]
        rw [getD_set (by omega)] at h3
        by_cases e : (vs.getD k 0).toNat = (vs.getD i 0).toNat
        · rw [← e, h2]; rfl
        · rw [if_neg e] at h3; exact h3
      · intro h
        refine allF_iff.2 fun i _ hi => ?_
        have hi : i < vs.length := by omega
        obtain ⟨hi0, hi1⟩ := hv _ (mem i hi)
        obtain ⟨h3, h4⟩ := opn_k h hi
        obtain ⟨_, h5⟩ := opn_k h hk
        rw [opI, h4, beq_self_eq_true, Bool.and_true, getD_set (by omega)]
        by_cases e : (vs.getD k 0).toNat = (vs.getD i 0).toNat
        · have e2 : vs.getD i 0 = vs.getD k 0 := by omega
          rw [if_pos e, alw, bt, ← h4, fstP_same e2, h5, ht]; rfl
        · rw [if_neg e]; exact h3
def bitsC (c : DC) : Nat := c.1.2.1.toNat
def arC (c : DC) : Nat := c.1.1.toNat
theorem okC_rel {m : Int} {c : DC} (h : okC m c = true) (hm : m ≤ 8) : c.1 = ((arC c : Int), (bitsC c : Int), ()) ∧ arC c ≤ 4 ∧ bitsC c < 9223372036854775808 ∧ c.2.1.length ≤ 4 := by
  obtain ⟨_, h2, h3⟩ := okC_v h hm
  obtain ⟨n, b, e, h4, h5, _⟩ := isF_nat h3 (by decide)
  have h6 := bits_lt h4 h5
  refine ⟨?_, ?_, ?_, h2⟩
  · rw [arC, bitsC, e]; rfl
  · rw [arC, e]; exact h4
  · rw [bitsC, e]; exact h6
theorem nstep_h {c : DC} {d : List Int} {i : Nat} (hi : i < c.2.1.length) (hv : ∀ v ∈ c.2.1, 0 ≤ v ∧ v < d.length) (hd : isDm d) (bits n : Nat) : isDm (nstep c bits n d i).2 ∧ lsD d (nstep c bits n d i).2 := by
  obtain ⟨h0, h1⟩ := hv _ (show c.2.1.getD i 0 ∈ c.2.1 by simp [List.getD, List.getElem?_eq_getElem hi])
  have hlt : (c.2.1.getD i 0).toNat < d.length := by omega
  have key : ∀ b : Int, (b = 0 ∨ b = 1) → supp c.2.1 d bits n i (decide (b = 0)) = false → supp c.2.1 d bits n i (decide (b = 1)) = true → lsD d (d.set (c.2.1.getD i 0).toNat b) := fun b hb hs ht => by
    rcases isDm_get hd hlt with e | e | e
    · rcases hb with rfl | rfl
      · left; exact set_same d _ _ e hlt
      · have := supp_no (bits := bits) (n := n) hi (val := true) (d := d) e
        rw [show decide ((1 : Int) = 1) = true from rfl, this] at ht; cases ht
    · rcases hb with rfl | rfl
      · have := supp_no (bits := bits) (n := n) hi (val := false) (d := d) e
        rw [show decide ((0 : Int) = 1) = false from rfl, this] at ht; cases ht
      · left; exact set_same d _ _ e hlt
    · right; exact tw_set (by rcases hb with rfl | rfl <;> decide) d _ e hlt
  unfold nstep
  cases hs0 : supp c.2.1 d bits n i false <;> cases hs1 : supp c.2.1 d bits n i true
  · exact ⟨hd, .inl rfl⟩
  · exact ⟨isDm_set hd (.inr rfl) _, key 1 (.inr rfl) hs0 hs1⟩
  · exact ⟨isDm_set hd (.inl rfl) _, key 0 (.inl rfl) hs1 hs0⟩
  · exact ⟨hd, .inl rfl⟩
theorem nfold_h {c : DC} (bits n : Nat) : ∀ (m i : Nat) {d : List Int}, i + m ≤ c.2.1.length → (∀ v ∈ c.2.1, 0 ≤ v ∧ v < d.length) → isDm d → isDm (nfold c bits n d i m).2 ∧ lsD d (nfold c bits n d i m).2 ∧ (nfold c bits n d i m).2.length = d.length
  | 0, i, d, _, _, hd => ⟨hd, .inl rfl, rfl⟩
  | m + 1, i, d, hi, hv, hd => by
    obtain ⟨h1, h2⟩ := nstep_h (c := c) (i := i) (by omega) hv hd bits n
    have hl := nstep_len c bits n d i
    rw [nfold]
    split
    · obtain ⟨g1, g2, g3⟩ := nfold_h (c := c) bits n m (i + 1) (d := (nstep c bits n d i).2) (show i + 1 + m ≤ c.2.1.length by omega) (fun v h => by rw [hl]; exact hv v h) h1
      exact ⟨g1, (lsD_trans h2 g2).1, g3.trans hl⟩
    · exact ⟨h1, h2, hl⟩
/-- One place, as the reference narrows it. -/
theorem place_l (x : DX) (c : DC) (ci : Int) (m8 : Int) (hm : m8 ≤ 8) (hc : okC m8 c = true) (kk : Nat) (hkk : kk < c.2.1.length) (d : List Int) (hd : isDm d) (hv : ∀ v ∈ c.2.1, 0 ≤ v ∧ v < d.length) (more : Bool) (hK : 4611686018427387904 ≤ K) (kx : DX → List Int → Bool → Int → DC → Int → Option R) (kr : List Int → Int → Option R) (k : Nat) (hk : 10 < k) :
    s_NarrowDomains_l22 K k x d more ci c (kk : Int) 0 kx kr = if (nstep c (bitsC c) (arC c) d kk).1 = true then kx x (nstep c (bitsC c) (arC c) d kk).2 (more || decide ((nstep c (bitsC c) (arC c) d kk).2 ≠ d)) ci c (kk : Int) else kr [] 4 := by
  obtain ⟨e1, hn, hb, hl⟩ := okC_rel hc hm
  obtain ⟨hv0, hv1⟩ := hv _ (show c.2.1.getD kk 0 ∈ c.2.1 by simp [List.getD, List.getElem?_eq_getElem hkk])
  have hlt : (c.2.1.getD kk 0).toNat < d.length := by omega
  obtain ⟨k, rfl⟩ : ∃ k', k = k' + 3 := ⟨k - 3, by omega⟩
  have S : ∀ (d' : List Int) (val : Bool), d'.length = d.length → s_l09Supported K (c, d', (kk : Int), (if val = true then 1 else 0), ()) = some (supp c.2.1 d' (bitsC c) (arC c) kk val) := fun d' val hd' =>
    s_l09Supported_eq e1 hn hb (by omega) hl (fun v h => by rw [hd']; exact hv v h) hK
  have S0 := fun d' h => S d' false h
  have S1 := fun d' h => S d' true h
  simp only [Bool.false_eq_true, if_false, if_true] at S0 S1
  have b0 : decide ((0 : Int) < 2) = true := rfl
  have b1 : decide ((1 : Int) < 2) = true := rfl
  have b2 : decide ((2 : Int) < 2) = false := rfl
  have w0 : IntKind.i64.wrap ((0 : Int) + 1) = 1 := by decide
  have w1 : IntKind.i64.wrap ((1 : Int) + 1) = 2 := by decide
  have v0 : IntKind.i64.wrap ((1 : Int) - 0) = 1 := by decide
  have v1 : IntKind.i64.wrap ((1 : Int) - 1) = 0 := by decide
  have hbv : ∀ d' : List Int, d'.length = d.length → bnds (c.2.1.getD kk 0) (d'.length : Int) = true := fun d' h => by rw [h]; exact bnds_t hv0 hv1
  simp only [s_NarrowDomains_l22, s_NarrowDomains_j26, Int.toNat_natCast, b0, b1, b2, w0, w1, v0, v1, bnds_n hkk, hbv d rfl, s_l09Allows_eq, some_bind', S0 d rfl, S1 d rfl, if_true, Bool.false_eq_true, if_false, hbv _ (List.length_set ..), S1 _ (List.length_set ..)]
  have ne0 : d.getD (c.2.1.getD kk 0).toNat 0 = 2 → d.set (c.2.1.getD kk 0).toNat 0 ≠ d := fun e h => by
    have := tw_set (b := 0) (by decide) d _ e hlt; rw [h] at this; omega
  have ne1 : d.getD (c.2.1.getD kk 0).toNat 0 = 2 → d.set (c.2.1.getD kk 0).toNat 1 ≠ d := fun e h => by
    have := tw_set (b := 1) (by decide) d _ e hlt; rw [h] at this; omega
  unfold nstep
  rcases isDm_get hd hlt with e | e | e
  · -- the domain has 0 alone
    have n1 := supp_no (bits := bitsC c) (n := arC c) hkk (val := true) (d := d) e
    have es := set_same d (c.2.1.getD kk 0).toNat 0 e hlt
    simp only [e, n1]
    cases hs0 : supp c.2.1 d (bitsC c) (arC c) kk false
    · simp
    · simp [-List.getD_eq_getElem?_getD, es, e]
  · have n0 := supp_no (bits := bitsC c) (n := arC c) hkk (val := false) (d := d) e
    have es := set_same d (c.2.1.getD kk 0).toNat 1 e hlt
    simp only [e, n0]
    cases hs1 : supp c.2.1 d (bitsC c) (arC c) kk true
    · simp [-List.getD_eq_getElem?_getD, e]
    · simp [-List.getD_eq_getElem?_getD, es, e]
  · have hu := supp_up (bits := bitsC c) (n := arC c) hkk hv e
    have hg : (d.set (c.2.1.getD kk 0).toNat 1).getD (c.2.1.getD kk 0).toNat 0 = 1 := by rw [getD_set hlt, if_pos rfl]
    simp only [e, hu, hg]
    cases hs0 : supp c.2.1 d (bitsC c) (arC c) kk false <;> cases hs1 : supp c.2.1 d (bitsC c) (arC c) kk true
    · simp
    · have := ne1 e; simp [-List.getD_eq_getElem?_getD, this]
    · have := ne0 e; simp [-List.getD_eq_getElem?_getD, this, e]
    · simp [-List.getD_eq_getElem?_getD, e]
/-- All places of one clause, as the reference narrows them. -/
theorem places_l (x : DX) (c : DC) (ci : Int) (m8 : Int) (hm : m8 ≤ 8) (hc : okC m8 c = true) (hK : 4611686018427387904 ≤ K) (kx : DX → List Int → Bool → Int → Option R) (kr : List Int → Int → Option R) : ∀ (m kk k : Nat) (d : List Int) (more : Bool), kk + m = c.2.1.length → 100 + m < k → isDm d → (∀ v ∈ c.2.1, 0 ≤ v ∧ v < d.length) →
    s_NarrowDomains_l19 K k x d more ci c (kk : Int) kx kr = if (nfold c (bitsC c) (arC c) d kk m).1 = true then kx x (nfold c (bitsC c) (arC c) d kk m).2 (more || decide ((nfold c (bitsC c) (arC c) d kk m).2 ≠ d)) ci else kr [] 4
  | 0, kk, k + 1, d, more, e, _, _, _ => by
    simp only [s_NarrowDomains_l19]; rw [ite_f (decide_eq_false (by omega))]; simp [nfold]
  | m + 1, kk, k + 1, d, more, e, hk, hd, hv => by
    obtain ⟨_, _, _, hl⟩ := okC_rel hc hm
    obtain ⟨h1, h2⟩ := nstep_h (c := c) (i := kk) (by omega) hv hd (bitsC c) (arC c)
    have hn := nstep_len c (bitsC c) (arC c) d kk
    have hv' : ∀ v ∈ c.2.1, 0 ≤ v ∧ v < (nstep c (bitsC c) (arC c) d kk).2.length := fun v h => by rw [hn]; exact hv v h
    simp only [s_NarrowDomains_l19]
    rw [ite_t (decide_eq_true (by omega)), place_l x c ci m8 hm hc kk (by omega) d hd hv more hK _ _ k (by omega), w64s (by omega), places_l x c ci m8 hm hc hK kx kr m (kk + 1) k _ _ (by omega) (by omega) h1 hv', nfold]
    by_cases hs : (nstep c (bitsC c) (arC c) d kk).1 = true
    · obtain ⟨_, g2, _⟩ := nfold_h (c := c) (bitsC c) (arC c) m (kk + 1) (d := (nstep c (bitsC c) (arC c) d kk).2) (by omega) hv' h1
      rw [if_pos hs, if_pos hs, (lsD_trans h2 g2).2, Bool.or_assoc]
    · rw [if_neg hs, if_neg hs]; rfl
def pfold : List DC → List Int → Bool × List Int
  | [], d => (true, d)
  | c :: r, d => if (nfold c (bitsC c) (arC c) d 0 c.2.1.length).1 = true then pfold r (nfold c (bitsC c) (arC c) d 0 c.2.1.length).2 else (false, d)
theorem pfold_h {n : Nat} : ∀ {cs : List DC} {d : List Int}, (∀ c ∈ cs, ∀ v ∈ c.2.1, 0 ≤ v ∧ v < (n : Int)) → d.length = n → isDm d → isDm (pfold cs d).2 ∧ lsD d (pfold cs d).2 ∧ (pfold cs d).2.length = n
  | [], d, _, hn, hd => ⟨hd, .inl rfl, hn⟩
  | c :: r, d, hv, hn, hd => by
    obtain ⟨h1, h2, h3⟩ := nfold_h (c := c) (bitsC c) (arC c) c.2.1.length 0 (d := d) (by omega) (fun v h => by rw [hn]; exact hv c (by simp) v h) hd
    rw [pfold]
    split
    · obtain ⟨g1, g2, g3⟩ := pfold_h (cs := r) (fun c' h => hv c' (by simp [h])) (h3.trans hn) h1
      exact ⟨g1, (lsD_trans h2 g2).1, g3⟩
    · exact ⟨hd, .inl rfl, hn⟩
theorem okX_vars {x : DX} (h : okX x = true) {d : List Int} (hd : (d.length : Int) = x.1) : ∀ c ∈ x.2.1, ∀ v ∈ c.2.1, 0 ≤ v ∧ v < (d.length : Int) := fun c hc v hv => by
  obtain ⟨_, _, _, h4⟩ := okX_h h
  have := h4 c hc
  simp only [okC, Bool.and_eq_true, decide_eq_true_eq, List.all_eq_true] at this
  have := this.2 v hv
  simp only [inR, and_dec] at this
  omega
/-- All clauses, once, as the reference goes through them. -/
theorem pass_s (x : DX) (h : okX x = true) (n : Nat) (hn : (n : Int) = x.1) (hK : 4611686018427387904 ≤ K) (kx : DX → List Int → Bool → Option R) (kr : List Int → Int → Option R) : ∀ (r p : List DC) (k : Nat) (d : List Int) (more : Bool), x.2.1 = p ++ r → 1000 + r.length < k → isDm d → d.length = n →
    s_NarrowDomains_l15 K k x d more (p.length : Int) kx kr = if (pfold r d).1 = true then kx x (pfold r d).2 (more || decide ((pfold r d).2 ≠ d)) else kr [] 4
  | [], p, k + 1, d, more, e, _, _, _ => by
    simp only [s_NarrowDomains_l15]; rw [ite_f (decide_eq_false (by rw [e]; simp))]; simp [pfold]
  | c :: r, p, k + 1, d, more, e, hk, hd, hl => by
    obtain ⟨_, hx8, hx12, hx4⟩ := okX_h h
    have hc := hx4 c (by rw [e]; simp)
    have hcl := (okC_rel hc hx8).2.2.2
    have hv := okX_vars h (d := d) (by rw [hl]; exact hn)
    have hvc := hv c (by rw [e]; simp)
    obtain ⟨h1, h2, h3⟩ := nfold_h (c := c) (bitsC c) (arC c) c.2.1.length 0 (d := d) (by omega) hvc hd
    simp only [s_NarrowDomains_l15]
    have hp := places_l (K := K) (R := R) x c (p.length : Int) x.1 hx8 hc hK (fun z27 z28 z29 z30 => s_NarrowDomains_l15 K k z27 z28 z29 (IntKind.i64.wrap (z30 + (1 : Int))) kx kr) kr c.2.1.length 0 k d more (by omega) (by simp at hk; omega) hd hvc
    rw [show ((0 : Nat) : Int) = 0 from rfl] at hp
    have hlt : p.length < x.2.1.length := by rw [e]; simp
    have ih := fun d' m' (q1 : isDm d') (q2 : d'.length = n) => pass_s x h n hn hK kx kr r (p ++ [c]) k d' m' (by rw [e, mid_app]) (by simp at hk; omega) q1 q2
    simp only [snoc_len] at ih
    rw [ite_t (decide_eq_true (by omega)), ite_t (bnds_n hlt), show x.2.1.getD ((p.length : Int)).toNat (((0 : Int), (0 : Int), ()), ([] : List Int), ()) = c from by rw [e]; exact getD_midI p r c _, hp, w64s (by omega), ih _ _ h1 (h3.trans hl), pfold]
    by_cases hs : (nfold c (bitsC c) (arC c) d 0 c.2.1.length).1 = true
    · obtain ⟨_, g2, _⟩ := pfold_h (n := n) (cs := r) (d := (nfold c (bitsC c) (arC c) d 0 c.2.1.length).2) (fun c' hc' => by have := hv c' (by rw [e]; simp [hc']); rwa [hl] at this) (h3.trans hl) h1
      rw [if_pos hs, if_pos hs, (lsD_trans h2 g2).2, Bool.or_assoc]
    · rw [if_neg hs, if_neg hs]; rfl
/-- All clauses, once, as the program goes through them. -/
theorem pass_i (x : DX) (h : okX x = true) (n : Nat) (hn : (n : Int) = x.1) (hK : 4611686018427387904 ≤ K) (v7 : List Int) (kx : DX → List Int → List Int → Option R) (kr : List Int → Int → Option R) : ∀ (r p : List DC) (k : Nat) (d : List Int), x.2.1 = p ++ r → r.length < k → isDm d → d.length = n →
    i_NarrowDomains_l8 K k x d v7 x.2.1 (x.2.1.length : Int) (p.length : Int) kx kr = if (pfold r d).1 = true then kx x (pfold r d).2 v7 else kr [] 4
  | [], p, k + 1, d, e, _, _, _ => by
    simp only [i_NarrowDomains_l8]; rw [ite_f (decide_eq_false (by rw [e]; simp))]; simp [pfold]
  | c :: r, p, k + 1, d, e, hk, hd, hl => by
    obtain ⟨_, hx8, hx12, hx4⟩ := okX_h h
    have hc := hx4 c (by rw [e]; simp)
    obtain ⟨e1, hn4, hb, hcl⟩ := okC_rel hc hx8
    have hv := okX_vars h (d := d) (by rw [hl]; exact hn)
    have hvc := hv c (by rw [e]; simp)
    obtain ⟨h1, h2, h3⟩ := nfold_h (c := c) (bitsC c) (arC c) c.2.1.length 0 (d := d) (by omega) hvc hd
    simp only [i_NarrowDomains_l8]
    have hlt : p.length < x.2.1.length := by rw [e]; simp
    have ih := fun d' (q1 : isDm d') (q2 : d'.length = n) => pass_i x h n hn hK v7 kx kr r (p ++ [c]) k d' (by rw [e, mid_app]) (by simp at hk; omega) q1 q2
    simp only [snoc_len] at ih
    rw [ite_t (decide_eq_true (by omega)), ite_t (bnds_n hlt), show x.2.1.getD ((p.length : Int)).toNat (((0 : Int), (0 : Int), ()), ([] : List Int), ()) = c from by rw [e]; exact getD_midI p r c _, i_narrow_eq e1 hn4 hb hK hcl hvc, some_bind', w64s (by omega), pfold]
    simp only
    rw [ih _ h1 (h3.trans hl)]
    cases hs : (nfold c (bitsC c) (arC c) d 0 c.2.1.length).1 <;> rfl
def narX (cs : List DC) : Nat → List Int → Bool × List Int
  | 0, d => (true, d)
  | m + 1, d => if (pfold cs d).1 = true then (if (pfold cs d).2 = d then (true, d) else narX cs m (pfold cs d).2) else (false, [])
theorem slices_Equal_int64_l (l g : List Int) (hl : l.length < 4611686018427387904) (kx : Option R) (kr : Bool → Option R) : ∀ (r s p q : List Int) (k : Nat), l = p ++ r → g = q ++ s → p.length = q.length → r.length = s.length → r.length < k →
    slices_Equal_int64_l4 K k l g (l.length : Int) (p.length : Int) kx kr = if r = s then kx else kr false
  | [], s, p, q, k + 1, e, e2, h1, h2, hk => by
    have : s = [] := List.length_eq_zero_iff.1 h2.symm
    subst this
    simp only [slices_Equal_int64_l4]; rw [ite_f (decide_eq_false (by rw [e]; simp))]; rfl
  | a :: r, [], p, q, k + 1, e, e2, h1, h2, hk => by cases h2
  | a :: r, b :: s, p, q, k + 1, e, e2, h1, h2, hk => by
    have hp : p.length < l.length := by rw [e]; simp
    have hq : p.length < g.length := by rw [e2, h1]; simp
    have ih := slices_Equal_int64_l l g hl kx kr r s (p ++ [a]) (q ++ [b]) k (by rw [e, mid_app]) (by rw [e2, mid_app]) (by simp [h1]) (by simpa using h2) (by simp at hk; omega)
    simp only [snoc_len] at ih
    simp only [slices_Equal_int64_l4]
    rw [ite_t (decide_eq_true (by omega)), ite_t (bnds_n hp), ite_t (bnds_n hq), show l.getD ((p.length : Int)).toNat 0 = a from by rw [e]; exact getD_midI p r a _, show g.getD ((p.length : Int)).toNat 0 = b from by rw [h1, e2]; exact getD_midI q s b _, w64s (by omega), ih]
    by_cases hab : a = b
    · subst hab; simp
    · rw [ite_t (by simp [hab]), if_neg (by simp [hab])]
theorem slices_Equal_int64_eq {l g : List Int} (hl : l.length < 4611686018427387904) (hK : 4611686018427387904 ≤ K) : slices_Equal_int64 K (l, g, ()) = some (decide (l = g)) := by
  simp only [slices_Equal_int64]
  by_cases h : l.length = g.length
  · have := slices_Equal_int64_l (K := K) l g hl (some true) (fun z => some z) l g [] [] K rfl rfl rfl h (by omega)
    simp only [List.length_nil] at this
    rw [show ((0 : Nat) : Int) = 0 from rfl] at this
    rw [ite_f (by simp [h]), this]
    by_cases e : l = g
    · rw [if_pos e, decide_eq_true e]
    · rw [if_neg e, decide_eq_false e]
  · rw [ite_t (by simp; omega), decide_eq_false (fun e => h (by rw [e]))]
theorem nar_i (x : DX) (h : okX x = true) (n : Nat) (hn : (n : Int) = x.1) (hK : 4611686018427387904 ≤ K) (kr : List Int → Int → Option R) : ∀ (m k : Nat) (d : List Int), tw d < m → 1000 + m < k → isDm d → d.length = n →
    i_NarrowDomains_l6 K k x d kr = kr (narX x.2.1 m d).2 (if (narX x.2.1 m d).1 = true then 0 else 4)
  | m + 1, k + 1, d, ht, hk, hd, hl => by
    obtain ⟨_, hx8, hx12, hx4⟩ := okX_h h
    have hv : ∀ c ∈ x.2.1, ∀ v ∈ c.2.1, 0 ≤ v ∧ v < (n : Int) := by have := okX_vars h (d := d) (by rw [hl]; exact hn); rwa [hl] at this
    obtain ⟨h1, h2, h3⟩ := pfold_h hv hl hd
    have hp := fun kx => pass_i (K := K) (R := R) x h n hn hK d kx kr x.2.1 [] k d rfl (by omega) hd hl
    simp only [List.length_nil] at hp
    rw [show ((0 : Nat) : Int) = 0 from rfl] at hp
    have hn8 : n ≤ 8 := by omega
    simp only [i_NarrowDomains_l6]
    rw [slices_Clone_int64_eq (by omega), some_bind', hp, slices_Equal_int64_eq (by omega) hK, some_bind', narX]
    by_cases hs : (pfold x.2.1 d).1 = true
    · rw [if_pos hs, if_pos hs]
      by_cases he : (pfold x.2.1 d).2 = d
      · rw [if_pos (decide_eq_true he), if_pos he, if_pos rfl, he]
      · have : tw (pfold x.2.1 d).2 < tw d := by
          rcases h2 with h2 | h2
          · exact absurd h2 he
          · exact h2
        rw [if_neg (by simpa using he), if_neg he, nar_i x h n hn hK kr m k _ (by omega) (by omega) h1 h3]
    · rw [if_neg hs, if_neg hs]; rfl
theorem nar_s (x : DX) (h : okX x = true) (n : Nat) (hn : (n : Int) = x.1) (hK : 4611686018427387904 ≤ K) (kx : List Int → Option R) (kr : List Int → Int → Option R) : ∀ (m k : Nat) (d : List Int), tw d < m → 2000 + m < k → isDm d → d.length = n →
    s_NarrowDomains_l12 K k x d true kx kr = if (narX x.2.1 m d).1 = true then kx (narX x.2.1 m d).2 else kr [] 4
  | m + 1, k + 2, d, ht, hk, hd, hl => by
    obtain ⟨_, hx8, hx12, hx4⟩ := okX_h h
    have hv : ∀ c ∈ x.2.1, ∀ v ∈ c.2.1, 0 ≤ v ∧ v < (n : Int) := by have := okX_vars h (d := d) (by rw [hl]; exact hn); rwa [hl] at this
    obtain ⟨h1, h2, h3⟩ := pfold_h hv hl hd
    have hp := fun kx => pass_s (K := K) (R := R) x h n hn hK kx kr x.2.1 [] (k + 1) d false rfl (by omega) hd hl
    simp only [List.length_nil] at hp
    rw [show ((0 : Nat) : Int) = 0 from rfl] at hp
    rw [s_NarrowDomains_l12, if_pos rfl, hp, narX]
    by_cases hs : (pfold x.2.1 d).1 = true
    · rw [if_pos hs, if_pos hs]
      by_cases he : (pfold x.2.1 d).2 = d
      · rw [if_pos he, if_pos rfl, decide_eq_false (by simpa using he), s_NarrowDomains_l12, if_neg (by decide), he]
      · have : tw (pfold x.2.1 d).2 < tw d := by
          rcases h2 with h2 | h2
          · exact absurd h2 he
          · exact h2
        rw [if_neg he, decide_eq_true he, Bool.false_or, nar_s x h n hn hK kx kr m (k + 1) _ (by omega) (by omega) h1 h3]
    · rw [if_neg hs, if_neg hs]; rfl
theorem narX_len (cs : List DC) (n : Nat) (hv : ∀ c ∈ cs, ∀ v ∈ c.2.1, 0 ≤ v ∧ v < (n : Int)) : ∀ (m : Nat) (d : List Int), isDm d → d.length = n → (narX cs m d).2.length ≤ n
  | 0, d, _, hl => by rw [narX]; exact Nat.le_of_eq hl
  | m + 1, d, hd, hl => by
    obtain ⟨h1, h2, h3⟩ := pfold_h hv hl hd
    rw [narX]
    split
    · split
      · exact Nat.le_of_eq hl
      · exact narX_len cs n hv m _ h1 h3
    · exact Nat.zero_le _
def dmB (d : List Int) : Bool := d.all fun a => decide (0 ≤ a) && decide (a ≤ 2)
theorem dmB_is {d : List Int} (h : dmB d = true) : isDm d := fun a ha => by
  have := List.all_eq_true.1 h a ha
  simp only [and_dec] at this
  omega
def narD (x : DX) (d : List Int) : List Int × Int × Unit :=
  if okX x = true then (if (decide ((d.length : Int) = x.1) && dmB d) = true then ((narX x.2.1 9 d).2, if (narX x.2.1 9 d).1 = true then 0 else 4, ()) else ([], 2, ())) else ([], 1, ())
theorem i_NarrowDomains_eq {x : DX} {d : List Int} (hx : shX x) (hd : d.length ≤ 1099511627776) (hK : 9223372036854775808 ≤ K) : i_NarrowDomains K (x, d, ()) = some (narD x d) := by
  have hK2 : 4611686018427387904 ≤ K := by omega
  simp only [i_NarrowDomains, i_IsInstance_eq hx hK2, some_bind', narD]
  cases h : okX x
  · rfl
  · rw [if_neg (by decide), if_pos rfl]
    by_cases hl : (d.length : Int) = x.1
    · rw [ite_f (by simp [hl]), slices_ContainsFunc_int64_eq _ (fun a => !(decide (0 ≤ a) && decide (a ≤ 2))) (by omega) hK2 (fun a _ => by simp only [i_NarrowDomains_c1, i_within_eq, some_bind']), some_bind', any_not, decide_eq_true hl, Bool.true_and]
      cases hb : dmB d
      · rw [if_pos (by rw [dmB] at hb; rw [hb]; rfl), if_neg (by decide)]
      · have hd8 := (okX_h h).2.1
        have ht := tw_le d
        rw [if_neg (by rw [dmB] at hb; rw [hb]; decide), if_pos rfl]
        simp only [i_NarrowDomains_j5]
        rw [slices_Clone_int64_eq hd, some_bind', nar_i x h d.length hl hK2 _ 9 K d (by omega) (by omega) (dmB_is hb) rfl]
    · rw [ite_t (by simp [hl]), decide_eq_false hl, Bool.false_and, if_neg (by decide)]
theorem s_dom_l (x : DX) (d : List Int) (hl : d.length < 4611686018427387904) (kx : List Int → DX → Option R) (kr : List Int → Int → Option R) : ∀ (r p : List Int) (k : Nat), d = p ++ r → r.length < k →
    s_NarrowDomains_l4 K k d x (p.length : Int) kx kr = if dmB r = true then kx d x else kr [] 2
  | [], p, k + 1, e, _ => by
    simp only [s_NarrowDomains_l4]; rw [ite_f (decide_eq_false (by rw [e]; simp))]; rfl
  | a :: r, p, k + 1, e, hk => by
    have hp : p.length < d.length := by rw [e]; simp
    have ih := s_dom_l x d hl kx kr r (p ++ [a]) k (by rw [e, mid_app]) (by simp at hk; omega)
    simp only [snoc_len] at ih
    simp only [s_NarrowDomains_l4]
    rw [ite_t (decide_eq_true (by omega)), ite_t (bnds_n hp), show d.getD ((p.length : Int)).toNat 0 = a from by rw [e]; exact getD_midI p r a _, s_l01In_eq, some_bind', w64s (by omega), ih, show dmB (a :: r) = ((decide (0 ≤ a) && decide (a ≤ 2)) && dmB r) from rfl]
    cases (decide (0 ≤ a) && decide (a ≤ 2)) <;> rfl
theorem s_NarrowDomains_eq {x : DX} {d : List Int} (hx : shX x) (hd : d.length ≤ 1099511627776) (hK : 9223372036854775808 ≤ K) : s_NarrowDomains K (x, d, ()) = some (narD x d) := by
  have hK2 : 4611686018427387904 ≤ K := by omega
  simp only [s_NarrowDomains, s_l09Is_eq hx hK, some_bind', narD]
  cases h : okX x
  · rfl
  · rw [if_neg (by decide), if_pos rfl]
    have hdl := fun kx kr => s_dom_l (K := K) (R := List Int × Int × Unit) x d (by omega) kx kr d [] K rfl (by omega)
    simp only [List.length_nil] at hdl
    rw [show ((0 : Nat) : Int) = 0 from rfl] at hdl
    rw [hdl]
    cases hb : dmB d
    · rw [if_neg (by decide), Bool.and_false, if_neg (by decide)]
    · rw [if_pos rfl]
      by_cases hl : (d.length : Int) = x.1
      · have hd8 := (okX_h h).2.1
        have ht := tw_le d
        rw [ite_f (by simp [hl]), s_l01Own_eq hd, some_bind', nar_s x h d.length hl hK2 _ _ 9 K d (by omega) (by omega) (dmB_is hb) rfl, decide_eq_true hl]
        cases hn : (narX x.2.1 9 d).1
        · have : (narX x.2.1 9 d).2 = [] := by
            have key : ∀ (m : Nat) (d : List Int), (narX x.2.1 m d).1 = false → (narX x.2.1 m d).2 = [] := fun m => by
              induction m with
              | zero => intro d h; cases h
              | succ m ih =>
                intro d h
                rw [narX] at h ⊢
                split
                · rename_i h1; rw [if_pos h1] at h
                  split
                  · rename_i h2; rw [if_pos h2] at h; cases h
                  · rename_i h2; rw [if_neg h2] at h; exact ih _ h
                · rfl
            exact key 9 d hn
          rw [this]; rfl
        · rfl
      · rw [ite_t (by simp [hl]), decide_eq_false hl]; rfl
def rowV (ch : List Nat) (a i : Nat) : Nat := mkB (fun j => (ch.getD j 0).testBit i) a
def valV (fb n : Nat) (ch : List Nat) : Nat := mkB (fun i => fb.testBit (rowV ch ch.length i)) n
def madeV (fb n : Nat) (L : List Nat) : Nat → List Nat → Nat
  | 0, ch => 2 ^ valV fb n ch
  | m + 1, ch => L.foldl (fun acc t => acc ||| madeV fb n L m (ch ++ [t])) 0
def keepV (fb n B : Nat) (L : List Nat) : Nat → List Nat → Bool
  | 0, ch => B.testBit (valV fb n ch)
  | m + 1, ch => L.all fun t => keepV fb n B L m (ch ++ [t])
theorem fold_bit (F : Nat → Nat) (j : Nat) : ∀ (L : List Nat) (acc : Nat), (L.foldl (fun acc t => acc ||| F t) acc).testBit j = (acc.testBit j || L.any fun t => (F t).testBit j)
  | [], acc => by simp
  | t :: L, acc => by rw [List.foldl_cons, fold_bit F j L, Nat.testBit_or, List.any_cons, Bool.or_assoc]
theorem keep_made (fb n B : Nat) (L : List Nat) : ∀ (m : Nat) (ch : List Nat), keepV fb n B L m ch = true ↔ ∀ j, (madeV fb n L m ch).testBit j = true → B.testBit j = true
  | 0, ch => by
    simp only [keepV, madeV, Nat.testBit_two_pow, decide_eq_true_eq]
    constructor
    · rintro h j rfl; exact h
    · intro h; exact h _ rfl
  | m + 1, ch => by
    simp only [keepV, madeV, fold_bit, List.all_eq_true, keep_made fb n B L m, Nat.zero_testBit, Bool.false_or, List.any_eq_true]
    constructor
    · rintro h j ⟨t, h1, h2⟩; exact h t h1 j h2
    · intro h t h1 j h2; exact h j ⟨t, h1, h2⟩
theorem valV_lt (fb n : Nat) (ch : List Nat) : valV fb n ch < 2 ^ n := mkB_lt _ _
theorem fold_lt {F : Nat → Nat} {w : Nat} : ∀ (L : List Nat) (acc : Nat), acc < 2 ^ w → (∀ t ∈ L, F t < 2 ^ w) → L.foldl (fun acc t => acc ||| F t) acc < 2 ^ w
  | [], acc, h, _ => h
  | t :: L, acc, h, h2 => by rw [List.foldl_cons]; exact fold_lt L _ (Nat.or_lt_two_pow h (h2 t (by simp))) (fun t ht => h2 t (by simp [ht]))
theorem madeV_lt {fb n : Nat} (hn : n ≤ 4) (L : List Nat) : ∀ (m : Nat) (ch : List Nat), madeV fb n L m ch < 2 ^ 16
  | 0, ch => by
    have := valV_lt fb n ch
    have := pw4 hn
    exact Nat.pow_lt_pow_right (by decide) (by omega)
  | m + 1, ch => fold_lt L 0 (Nat.two_pow_pos _) (fun t _ => madeV_lt hn L m _)
theorem bitI_andNot0 {a b : Nat} (ha : a < 9223372036854775808) (hb : b < 9223372036854775808) : bitI .andNot .i64 (a : Int) (b : Int) = 0 ↔ ∀ j, a.testBit j = true → b.testBit j = true := by
  have e : bitI .andNot .i64 (a : Int) (b : Int) = ((a ^^^ (a &&& b) : Nat) : Int) := by
    have h1 : a &&& b ≤ a := Nat.and_le_left
    have h2 : a ^^^ (a &&& b) < 9223372036854775808 := Nat.xor_lt_two_pow (n := 63) ha (by omega)
    show IntKind.i64.wrap (((BitVec.ofInt 64 (a : Int) &&& ~~~(BitVec.ofInt 64 (b : Int)) : BitVec 64).toNat : Nat) : Int) = _
    have e2 : ∀ x y : BitVec 64, x &&& ~~~y = x ^^^ (x &&& y) := fun x y => by
      apply BitVec.eq_of_getLsbD_eq; intro i hi; simp [hi]; cases x[i] <;> cases y[i] <;> rfl
    rw [e2]
    simp only [BitVec.toNat_xor, BitVec.toNat_and, BitVec.toNat_ofInt]
    simp only [show ((2 ^ 64 : Nat) : Int) = 18446744073709551616 from rfl, emod2n]
    rw [Nat.mod_eq_of_lt (by omega), Nat.mod_eq_of_lt (by omega), w64n (by omega)]
  rw [e]
  constructor
  · intro h j hj
    have h : a ^^^ (a &&& b) = 0 := by omega
    have := congrArg (fun z => z.testBit j) h
    simp only [Nat.testBit_xor, Nat.testBit_and, Nat.zero_testBit, hj] at this
    cases hb : b.testBit j
    · rw [hb] at this; simp at this
    · rfl
  · intro h
    have : a ^^^ (a &&& b) = 0 := by
      apply Nat.eq_of_testBit_eq; intro j
      simp only [Nat.testBit_xor, Nat.testBit_and, Nat.zero_testBit]
      cases ha : a.testBit j
      · rfl
      · rw [h j ha]; rfl
    rw [this]; rfl
theorem value_l7 (ch : List Nat) (hc : ∀ t ∈ ch, t < 16) (hl : ch.length ≤ 4) (v2 : Int) (f : DF) (x7 : Int) (i : Nat) (hi : i < 16) (kx : List Int → Int → DF → Int → Int → Int → Option R) : ∀ (m j k : Nat), j + m = ch.length → m < k →
    s_l06Value_l7 K k (ch.map fun (a : Nat) => (a : Int)) v2 f x7 (i : Int) ((mkB (fun j => (ch.getD j 0).testBit i) j : Nat) : Int) (j : Int) kx = kx (ch.map fun (a : Nat) => (a : Int)) v2 f x7 (i : Int) ((rowV ch ch.length i : Nat) : Int)
  | 0, j, k + 1, e, _ => by
    simp only [s_l06Value_l7]; rw [ite_f (decide_eq_false (by simp; omega))]
    obtain rfl : j = ch.length := by omega
    rfl
  | m + 1, j, k + 1, e, hk => by
    have ih := value_l7 ch hc hl v2 f x7 i hi kx m (j + 1) k (by omega) (by omega)
    rw [mkB_succ] at ih
    have ht : ch.getD j 0 < 16 := hc _ (by simp [List.getD, List.getElem?_eq_getElem (show j < ch.length by omega)])
    simp only [s_l06Value_l7]
    rw [ite_t (decide_eq_true (by simp; omega)), ite_t (bnds_n (by simp; omega)), ite_t (u64_dec _), ite_t (u64_dec _), u64n (n := i) (by omega), u64n (n := j) (by omega), getD_map, bitI_bt i (by omega), shl_bt (by omega), or_dg (mkB_lt _ _) (by omega), w64s (by omega), ih]
theorem value_l3 (ch : List Nat) (hc : ∀ t ∈ ch, t < 16) (hl : ch.length ≤ 4) (fb n : Nat) (hn : n ≤ 4) (hf : fb < 65536) (fa : Int) (kx : Int → Option R) : ∀ (m i k : Nat), i + m = n → 100 + m < k →
    s_l06Value_l3 K k (ch.map fun (a : Nat) => (a : Int)) (n : Int) (fa, (fb : Int), ()) ((mkB (fun i => fb.testBit (rowV ch ch.length i)) i : Nat) : Int) (i : Int) kx = kx ((valV fb n ch : Nat) : Int)
  | 0, i, k + 1, e, _ => by
    simp only [s_l06Value_l3]; rw [ite_f (decide_eq_false (by omega))]
    obtain rfl : i = n := by omega
    rfl
  | m + 1, i, k + 1, e, hk => by
    have ih := value_l3 ch hc hl fb n hn hf fa kx m (i + 1) k (by omega) (by omega)
    rw [mkB_succ] at ih
    have h7 := fun kx => value_l7 (K := K) (R := R) ch hc hl (n : Int) (fa, (fb : Int), ()) ((mkB (fun i => fb.testBit (rowV ch ch.length i)) i : Nat) : Int) i (by omega) kx ch.length 0 k (by omega) (by omega)
    simp only [mkB] at h7
    rw [show ((0 : Nat) : Int) = 0 from rfl] at h7
    have hr : rowV ch ch.length i < 16 := Nat.lt_of_lt_of_le (mkB_lt _ _) (pw4 hl)
    simp only [s_l06Value_l3]
    rw [ite_t (decide_eq_true (by omega)), h7, s_l01At_eq (by omega) (by omega), some_bind', ite_t (u64_dec _), u64n (by omega), shl_bt (by omega), or_dg (mkB_lt _ _) (by omega), w64s (by omega), ih]
theorem s_l06Value_eq {ch : List Nat} (hc : ∀ t ∈ ch, t < 16) (hl : ch.length ≤ 4) {fb n : Nat} (hn : n ≤ 4) (hf : fb < 65536) (fa : Int) (hK : 4611686018427387904 ≤ K) : s_l06Value K ((fa, (fb : Int), ()), ch.map (fun (a : Nat) => (a : Int)), (n : Int), ()) = some ((valV fb n ch : Nat) : Int) := by
  simp only [s_l06Value]
  exact value_l3 (K := K) ch hc hl fb n hn hf fa (fun z => some z) n 0 K (by omega) (by omega)
def relL (B n : Nat) : List Nat := (List.range (2 ^ n)).filter B.testBit
theorem relL_lt {B n t : Nat} (h : t ∈ relL B n) : t < 2 ^ n := List.mem_range.1 (List.mem_filter.1 h).1
theorem relL_len (B n : Nat) : (relL B n).length ≤ 2 ^ n := Nat.le_trans (List.length_filter_le _ _) (by simp)
theorem made_l5 (B n fb a : Nat) (hn : n ≤ 4) (hf : fb < 65536) (hB : B < 9223372036854775808) (ch : List Nat) (hl : ch.length < 4) (mm : Nat) (r : DF × DF × List Int × List Int × Unit → Option Int) (hr : ∀ t ∈ relL B n, r (((a : Int), (fb : Int), ()), ((n : Int), (B : Int), ()), (relL B n).map (fun (a : Nat) => (a : Int)), (ch ++ [t]).map (fun (a : Nat) => (a : Int)), ()) = some ((madeV fb n (relL B n) mm (ch ++ [t]) : Nat) : Int)) (kx : Int → Option R) : ∀ (q p : List Nat) (k acc : Nat), relL B n = p ++ q → q.length < k → acc < 2 ^ 16 →
    s_l06Made_l5 K r k ((relL B n).map fun (a : Nat) => (a : Int)) (ch.map fun (a : Nat) => (a : Int)) ((a : Int), (fb : Int), ()) ((n : Int), (B : Int), ()) (acc : Int) (p.length : Int) kx = kx ((q.foldl (fun acc t => acc ||| madeV fb n (relL B n) mm (ch ++ [t])) acc : Nat) : Int)
  | [], p, k + 1, acc, e, _, _ => by
    simp only [s_l06Made_l5]; rw [ite_f (decide_eq_false (by rw [e]; simp))]; rfl
  | t :: q, p, k + 1, acc, e, hk, ha => by
    have hm := madeV_lt (fb := fb) hn (relL B n) mm (ch ++ [t])
    have ih := made_l5 B n fb a hn hf hB ch hl mm r hr kx q (p ++ [t]) k (acc ||| madeV fb n (relL B n) mm (ch ++ [t])) (by rw [e, mid_app]) (by simp at hk; omega) (Nat.or_lt_two_pow ha hm)
    simp only [snoc_len] at ih
    have hp : p.length < (relL B n).length := by rw [e]; simp
    have h4 := relL_len B n
    have h5 := pw4 hn
    have ht : ((relL B n).map fun (a : Nat) => (a : Int)).getD ((p.length : Int)).toNat 0 = (t : Int) := by rw [getD_map, show (relL B n).getD p.length 0 = t from by rw [e]; exact getD_mid p q t 0]
    have e2 : ch.map (fun (a : Nat) => (a : Int)) ++ [(t : Int)] = (ch ++ [t]).map (fun (a : Nat) => (a : Int)) := by simp
    have hrt := hr t (by rw [e]; simp)
    simp only [s_l06Made_l5]
    rw [ite_t (decide_eq_true (by simp; omega)), s_l01Own_eq (by simp; omega), some_bind', ite_t (bnds_n (by simpa using hp)), ht, ite_t (lim_len (by simp; omega)), e2, hrt, some_bind', bitI_or (by omega) (by omega), w64s (by omega), ih]; rfl
theorem s_made_eq {B n fb a : Nat} (hn : n ≤ 4) (ha : a ≤ 4) (hf : fb < 65536) (hB : B < 9223372036854775808) (hK : 4611686018427387904 ≤ K) : ∀ (m k : Nat) (ch : List Nat), ch.length + m = a → m < k → (∀ t ∈ ch, t < 16) →
    s_l06Made K k (((a : Int), (fb : Int), ()), ((n : Int), (B : Int), ()), (relL B n).map (fun (a : Nat) => (a : Int)), ch.map (fun (a : Nat) => (a : Int)), ()) = some ((madeV fb n (relL B n) m ch : Nat) : Int)
  | 0, k + 1, ch, e, _, hc => by
    have hp := pw4 hn
    have hv := valV_lt fb n ch
    rw [s_l06Made]
    simp only [s_l06Made_b]
    rw [ite_t (decide_eq_true (by simp; omega)), s_l06Value_eq hc (by omega) hn hf _ hK, some_bind', ite_t (u64_dec _), u64n (by omega), shl1 (by omega)]; rfl
  | m + 1, k + 1, ch, e, hk, hc => by
    have hp := pw4 hn
    have h4 := relL_len B n
    rw [s_l06Made]
    simp only [s_l06Made_b]
    have := made_l5 (K := K) B n fb a hn hf hB ch (by omega) m (s_l06Made K k) (fun t ht => s_made_eq hn ha hf hB hK m k (ch ++ [t]) (by simp; omega) (by omega) (fun u hu => by
      rcases List.mem_append.1 hu with h | h
      · exact hc u h
      · have := relL_lt ht; simp at h; omega)) (fun z => some z) (relL B n) [] K 0 rfl (by omega) (by decide)
    simp only [List.length_nil] at this
    rw [show ((0 : Nat) : Int) = 0 from rfl] at this
    rw [ite_f (decide_eq_false (by simp; omega)), this]; rfl
theorem s_list_l (n B : Nat) (hn : n ≤ 4) (hB : B < 9223372036854775808) (kx : List Int → Option R) : ∀ (m i k : Nat), i + m = 2 ^ n → m < k →
    s_l06List_l3 K k ((n : Int), (B : Int), ()) (sel B.testBit i) (i : Int) kx = kx (sel B.testBit (2 ^ n))
  | 0, i, k + 1, e, _ => by
    obtain rfl : i = 2 ^ n := by omega
    simp only [s_l06List_l3, s_l01Rows_eq (show n < 63 by omega), some_bind']; rw [ite_f (by simp)]
  | m + 1, i, k + 1, e, hk => by
    have hp := pw4 hn
    have hl := sel_len B.testBit i
    simp only [s_l06List_l3, s_l01Rows_eq (show n < 63 by omega), some_bind']
    have ih := s_list_l n B hn hB kx m (i + 1) k (by omega) (by omega)
    rw [sel_succ] at ih
    rw [ite_t (decide_eq_true (by omega)), ite_t (u64_dec _), u64n (by omega), bitI_bt i hB, bt_dec, w64s (by omega), ite_t (lim_len (by omega))]
    cases hs : B.testBit i
    · rw [hs, if_neg (by decide)] at ih
      rw [if_neg (by decide)]; exact ih
    · rw [hs, if_pos rfl] at ih
      rw [if_pos rfl]; exact ih
theorem s_l06List_eq {n B : Nat} (hn : n ≤ 4) (hB : B < 9223372036854775808) (hK : 4611686018427387904 ≤ K) : s_l06List K (((n : Int), (B : Int), ()), ()) = some ((relL B n).map fun (a : Nat) => (a : Int)) := by
  have hp := pw4 hn
  simp only [s_l06List]
  exact s_list_l (K := K) n B hn hB (fun z => some z) (2 ^ n) 0 K (by omega) (by omega)
theorem s_l06Keeps_eq {n B fb a : Nat} (hn : n ≤ 4) (ha : a ≤ 4) (hf : fb < 65536) (hB : B < 9223372036854775808) (hK : 4611686018427387904 ≤ K) : s_l06Keeps K (((a : Int), (fb : Int), ()), ((n : Int), (B : Int), ()), ()) = some (keepV fb n B (relL B n) a []) := by
  have hm := madeV_lt (fb := fb) hn (relL B n) a []
  have := s_made_eq (K := K) (B := B) (fb := fb) hn ha hf hB hK a K [] (by simp) (by omega) (by simp)
  simp only [List.map_nil] at this
  simp only [s_l06Keeps, s_l06List_eq hn hB hK, some_bind', this]
  congr 1
  rw [Bool.eq_iff_iff, decide_eq_true_eq, keep_made, bitI_andNot0 (by omega) hB]
def nmAnd : ByteArray := ⟨#[97, 110, 100]⟩
def nmOr : ByteArray := ⟨#[111, 114]⟩
def nmMaj : ByteArray := ⟨#[109, 97, 106, 111, 114, 105, 116, 121]⟩
def nmMin : ByteArray := ⟨#[109, 105, 110, 111, 114, 105, 116, 121]⟩
def namedS (K : Nat) : Prop := s_NamedFunc K (nmAnd, ()) = some ((2, 8, ()), 0, ()) ∧ s_NamedFunc K (nmOr, ()) = some ((2, 14, ()), 0, ()) ∧ s_NamedFunc K (nmMaj, ()) = some ((3, 232, ()), 0, ()) ∧ s_NamedFunc K (nmMin, ()) = some ((3, 150, ()), 0, ())
theorem named_s : namedS 9223372036854775808 := ⟨by decide +kernel, by decide +kernel, by decide +kernel, by decide +kernel⟩
def b1 (b : Bool) : Int := if b = true then 1 else 0
def rowE (n B : Nat) : List Int := [b1 (B.testBit 0), b1 (B.testBit (2 ^ n - 1)), b1 (keepV 8 n B (relL B n) 2 []), b1 (keepV 14 n B (relL B n) 2 []), b1 (keepV 232 n B (relL B n) 3 []), b1 (keepV 150 n B (relL B n) 3 [])]
theorem s_l09Row_eq {n B : Nat} (hn : n ≤ 4) (hB : B < 9223372036854775808) (hK : 4611686018427387904 ≤ K) (hN : namedS K) : s_l09Row K (((n : Int), (B : Int), ()), ()) = some (rowE n B) := by
  obtain ⟨n1, n2, n3, n4⟩ := hN
  have hp := pw4 hn
  have hq := pw_pos n
  have k1 := s_l06Keeps_eq (K := K) (n := n) (B := B) (fb := 8) (a := 2) hn (by decide) (by decide) hB hK
  have k2 := s_l06Keeps_eq (K := K) (n := n) (B := B) (fb := 14) (a := 2) hn (by decide) (by decide) hB hK
  have k3 := s_l06Keeps_eq (K := K) (n := n) (B := B) (fb := 232) (a := 3) hn (by decide) (by decide) hB hK
  have k4 := s_l06Keeps_eq (K := K) (n := n) (B := B) (fb := 150) (a := 3) hn (by decide) (by decide) hB hK
  have h0 := s_l09Has_eq (K := K) (n := (n : Int)) (j := 0) hB (by decide)
  have h1 := s_l09Has_eq (K := K) (n := (n : Int)) (j := 2 ^ n - 1) hB (by omega)
  have e1 : IntKind.i64.wrap (((2 ^ n : Nat) : Int) - 1) = ((2 ^ n - 1 : Nat) : Int) := by rw [w64 (by omega) (by omega)]; omega
  rw [show ((0 : Nat) : Int) = 0 from rfl] at h0
  obtain ⟨k, hk⟩ : ∃ k, K = k + 6 := ⟨K - 6, by omega⟩
  have l8 : ∀ b c : Bool, s_l09Row_j6 K K ((n : Int), (B : Int), ()) [b1 b, b1 c, 0, 0, 0, 0] none (fun z => some z) = some [b1 b, b1 c, b1 (keepV 8 n B (relL B n) 2 []), b1 (keepV 14 n B (relL B n) 2 []), b1 (keepV 232 n B (relL B n) 3 []), b1 (keepV 150 n B (relL B n) 3 [])] := fun b c => by
    show s_l09Row_l8 K K ((n : Int), (B : Int), ()) [b1 b, b1 c, 0, 0, 0, 0] [nmAnd, nmOr, nmMaj, nmMin] (0 : Int) (fun z => some z) = _
    rw [show s_l09Row_l8 K K = s_l09Row_l8 (R := List Int) K (k + 6) from by rw [← hk]]
    have b4 : ∀ i : Int, 0 ≤ i → i < 4 → bnds i ((([nmAnd, nmOr, nmMaj, nmMin] : List ByteArray).length : Nat) : Int) = true := fun i h h2 => bnds_t h h2
    have w1 : IntKind.i64.wrap ((0 : Int) + 1) = 1 := by decide
    have w2 : IntKind.i64.wrap ((1 : Int) + 1) = 2 := by decide
    have w3 : IntKind.i64.wrap ((2 : Int) + 1) = 3 := by decide
    have w4 : IntKind.i64.wrap ((3 : Int) + 1) = 4 := by decide
    have v0 : IntKind.i64.wrap ((0 : Int) + 2) = 2 := by decide
    have v1 : IntKind.i64.wrap ((1 : Int) + 2) = 3 := by decide
    have v2 : IntKind.i64.wrap ((2 : Int) + 2) = 4 := by decide
    have v3 : IntKind.i64.wrap ((3 : Int) + 2) = 5 := by decide
    have g0 : ([nmAnd, nmOr, nmMaj, nmMin] : List ByteArray).getD (0 : Int).toNat ByteArray.empty = nmAnd := rfl
    have g1 : ([nmAnd, nmOr, nmMaj, nmMin] : List ByteArray).getD (1 : Int).toNat ByteArray.empty = nmOr := rfl
    have g2 : ([nmAnd, nmOr, nmMaj, nmMin] : List ByteArray).getD (2 : Int).toNat ByteArray.empty = nmMaj := rfl
    have g3 : ([nmAnd, nmOr, nmMaj, nmMin] : List ByteArray).getD (3 : Int).toNat ByteArray.empty = nmMin := rfl
    have st : ∀ (kb : Bool) (l : List Int) (i : Int) (j : Nat) (F : List Int → Option (List Int)), l.length = 6 → i = (j : Int) → j < 6 → l.getD j 0 = 0 → (if kb = true then (if bnds i (l.length : Int) = true then F (l.set i.toNat 1) else none) else F l) = F (l.set j (b1 kb)) := fun kb l i j F hl hi hj hg => by
      subst hi
      cases kb
      · rw [if_neg (by decide)]
        congr 1
        apply List.ext_getElem
        · simp
        · intro q h1 h2
          rw [List.getElem_set]
          split
          · rename_i e; subst e
            rw [List.getD_eq_getElem?_getD, List.getElem?_eq_getElem h1] at hg
            exact hg
          · rfl
      · rw [if_pos rfl, if_pos (bnds_n (by omega))]; rfl
    rw [s_l09Row_l8, ite_t (by decide), ite_t (b4 _ (by decide) (by decide)), g0, n1, some_bind']
    try simp only
    rw [show s_l06Keeps K ((2, 8, ()), ((n : Int), (B : Int), ()), ()) = _ from k1, some_bind', st _ _ _ 2 (fun l => s_l09Row_l8 K (k + 5) ((n : Int), (B : Int), ()) l [nmAnd, nmOr, nmMaj, nmMin] (IntKind.i64.wrap (0 + 1)) fun z => some z) rfl (by rw [v0]; rfl) (by decide) rfl, w1]
    try simp only
    rw [s_l09Row_l8, ite_t (by decide), ite_t (b4 _ (by decide) (by decide)), g1, n2, some_bind']
    try simp only
    rw [show s_l06Keeps K ((2, 14, ()), ((n : Int), (B : Int), ()), ()) = _ from k2, some_bind', st _ _ _ 3 (fun l => s_l09Row_l8 K (k + 4) ((n : Int), (B : Int), ()) l [nmAnd, nmOr, nmMaj, nmMin] (IntKind.i64.wrap (1 + 1)) fun z => some z) rfl (by rw [v1]; rfl) (by decide) rfl, w2]
    try simp only
    rw [s_l09Row_l8, ite_t (by decide), ite_t (b4 _ (by decide) (by decide)), g2, n3, some_bind']
    try simp only
    rw [show s_l06Keeps K ((3, 232, ()), ((n : Int), (B : Int), ()), ()) = _ from k3, some_bind', st _ _ _ 4 (fun l => s_l09Row_l8 K (k + 3) ((n : Int), (B : Int), ()) l [nmAnd, nmOr, nmMaj, nmMin] (IntKind.i64.wrap (2 + 1)) fun z => some z) rfl (by rw [v2]; rfl) (by decide) rfl, w3]
    try simp only
    rw [s_l09Row_l8, ite_t (by decide), ite_t (b4 _ (by decide) (by decide)), g3, n4, some_bind']
    try simp only
    rw [show s_l06Keeps K ((3, 150, ()), ((n : Int), (B : Int), ()), ()) = _ from k4, some_bind', st _ _ _ 5 (fun l => s_l09Row_l8 K (k + 2) ((n : Int), (B : Int), ()) l [nmAnd, nmOr, nmMaj, nmMin] (IntKind.i64.wrap (3 + 1)) fun z => some z) rfl (by rw [v3]; rfl) (by decide) rfl, w4]
    try simp only
    rw [s_l09Row_l8, ite_f (by decide)]
    rfl
  simp only [s_l09Row, h0, some_bind']
  rw [show lim = 1099511627776 from rfl, ite_t (by decide)]
  simp only [s_l09Row_j4, s_l01Rows_eq (show n < 63 by omega), some_bind', e1, h1]
  rw [rowE]
  have q := l8
  cases B.testBit 0 <;> cases B.testBit (2 ^ n - 1)
  · exact q false false
  · exact q false true
  · exact q true false
  · exact q true true
/-- Something is handed back, and it is so. -/
def Okf {α : Type} (o : Option α) (P : α → Prop) : Prop := ∃ y, o = some y ∧ P y
theorem Okf.ret {α : Type} {y : α} {P : α → Prop} (h : P y) : Okf (some y) P := ⟨y, rfl, h⟩
theorem Okf.bind {α β : Type} {o : Option α} {P : α → Prop} {g : α → Option β} {Q : β → Prop} (h : Okf o P) (hg : ∀ y, P y → Okf (g y) Q) : Okf (o.bind g) Q := by
  obtain ⟨y, e, hp⟩ := h
  rw [e]; exact hg y hp
theorem Okf.ite {α : Type} {c : Bool} {a b : Option α} {P : α → Prop} (h1 : c = true → Okf a P) (h2 : c = false → Okf b P) : Okf (if c = true then a else b) P := by
  cases c
  · exact h2 rfl
  · exact h1 rfl
abbrev DSrc := List Int × Int × Int × Unit
/-- A source that may be asked. -/
structure okS (s : DSrc) : Prop where
  bytes : ∀ b ∈ s.1, 0 ≤ b ∧ b < 256
  at0 : 0 ≤ s.2.1
  at1 : s.2.1 ≤ s.1.length
  len : s.1.length ≤ 4611686018427387904
theorem and_u64 (a : Int) : 0 ≤ bitI .and .u64 a 16777215 ∧ bitI .and .u64 a 16777215 ≤ 16777215 := by
  have e : bitI .and .u64 a 16777215 = IntKind.u64.wrap (((BitVec.ofInt 64 a &&& BitVec.ofInt 64 16777215 : BitVec 64).toNat : Nat) : Int) := rfl
  rw [e, BitVec.toNat_and]
  have h : (BitVec.ofInt 64 a).toNat &&& (BitVec.ofInt 64 16777215).toNat ≤ 16777215 := Nat.le_trans Nat.and_le_right (by decide)
  rw [u64n (by omega)]
  omega
theorem tmod_ok {a n : Int} (ha : 0 ≤ a) (hn : 1 ≤ n) : 0 ≤ Int.tmod a n ∧ Int.tmod a n < n := ⟨Int.tmod_nonneg _ ha, Int.tmod_lt_of_pos _ (by omega)⟩
def nextP (n : Int) (y : (Int × Unit) × (DSrc × Unit)) : Prop := okS y.2.1 ∧ (1 ≤ n → 0 ≤ y.1.1 ∧ y.1.1 < n) ∧ (n < 1 → y.1.1 = 0)
theorem next_ok {s : DSrc} (n : Int) (h : okS s) : Okf (s_l01Next K (s, n, ())) (nextP n) := by
  obtain ⟨code, at', hash, u⟩ := s
  simp only [s_l01Next]
  refine Okf.ite (fun hn => ?_) (fun hn => ?_)
  · have hn := of_decide_eq_true hn
    exact Okf.ret ⟨h, fun h1 => by omega, fun _ => rfl⟩
  · have hn := of_decide_eq_false hn
    have hn0 : (!decide (n = 0)) = true := by simp; omega
    obtain ⟨a1, a2⟩ := and_u64 (shrI .u64 (IntKind.u64.wrap ((IntKind.u64.wrap (hash * (6364136223846793005 : Int))) + (1442695040888963407 : Int))) (33 : Int))
    have h0 : 0 ≤ at' := h.at0
    have h1 : at' ≤ code.length := h.at1
    have hl : code.length ≤ 4611686018427387904 := h.len
    have hb : ∀ b ∈ code, 0 ≤ b ∧ b < 256 := h.bytes
    rw [w64 (x := bitI .and .u64 _ 16777215) (by omega) (by omega)]
    refine Okf.ite (fun hc => ?_) (fun hc => ?_)
    · have hc : at' < code.length := of_decide_eq_true hc
      have hm : code.getD at'.toNat 0 ∈ code := by
        simp only [List.getD, List.getElem?_eq_getElem (show at'.toNat < code.length by omega)]
        simp
      obtain ⟨b1, b2⟩ := hb _ hm
      rw [ite_t (bnds_t h0 hc), ite_t hn0]
      rw [w64 (x := code.getD at'.toNat 0) (by omega) (by omega), w64 (x := bitI .and .u64 _ 16777215 + _) (by omega) (by omega), w64 (x := at' + 1) (by omega) (by omega)]
      obtain ⟨t1, t2⟩ := tmod_ok (a := bitI .and .u64 (shrI .u64 (IntKind.u64.wrap ((IntKind.u64.wrap (hash * (6364136223846793005 : Int))) + (1442695040888963407 : Int))) (33 : Int)) 16777215 + code.getD at'.toNat 0) (n := n) (by omega) (by omega)
      exact Okf.ret ⟨⟨hb, show 0 ≤ at' + 1 by omega, show at' + 1 ≤ code.length by omega, hl⟩, fun _ => ⟨t1, t2⟩, fun h => by omega⟩
    · rw [ite_t hn0]
      obtain ⟨t1, t2⟩ := tmod_ok (a := bitI .and .u64 (shrI .u64 (IntKind.u64.wrap ((IntKind.u64.wrap (hash * (6364136223846793005 : Int))) + (1442695040888963407 : Int))) (33 : Int)) 16777215) (n := n) (by omega) (by omega)
      exact Okf.ret ⟨⟨hb, h0, h1, hl⟩, fun _ => ⟨t1, t2⟩, fun h => by omega⟩
theorem pick_ok {s : DSrc} {l : List Int} (h : okS s) (hl : l ≠ []) : Okf (s_l01Pick K (s, l, ())) (fun y => okS y.2.1 ∧ y.1.1 ∈ l) := by
  simp only [s_l01Pick]
  have hp : 0 < l.length := List.length_pos_iff.2 hl
  refine Okf.bind (next_ok (l.length : Int) h) fun y hy => ?_
  obtain ⟨y1, y2, _⟩ := hy
  obtain ⟨y3, y4⟩ := y2 (by omega)
  rw [ite_t (bnds_t y3 y4)]
  refine Okf.ret ⟨y1, ?_⟩
  simp only [List.getD, List.getElem?_eq_getElem (show y.1.1.toNat < l.length by omega)]
  simp
theorem from_l (code : List Int) (hc : code.length ≤ 4096) (hb : ∀ b ∈ code, 0 ≤ b ∧ b < 256) (Q : R → Prop) (kx : DSrc → Option R) (hk : ∀ s, okS s → s.1 = code → Okf (kx s) Q) : ∀ (m i k : Nat) (s : DSrc), i + m = code.length → m < k → okS s → s.1 = code → Okf (s_l01From_l3 K k code s (i : Int) kx) Q
  | 0, i, k + 1, s, e, _, h, hs => by
    simp only [s_l01From_l3]
    rw [ite_f (decide_eq_false (by omega))]
    exact hk s h hs
  | m + 1, i, k + 1, s, e, hm, h, hs => by
    simp only [s_l01From_l3, s_l01From_j5]
    rw [ite_t (decide_eq_true (by omega)), ite_t (decide_eq_true (by omega)), ite_t (bnds_n (by omega)), w64s (by omega)]
    exact from_l code hc hb Q kx hk m (i + 1) k _ (by omega) (by omega) ⟨h.bytes, h.at0, h.at1, h.len⟩ hs
theorem from_ok {code : List Int} (hc : code.length ≤ 4096) (hb : ∀ b ∈ code, 0 ≤ b ∧ b < 256) (hK : 4611686018427387904 ≤ K) : Okf (s_l01From K (code, ())) (fun y => okS y.1.1) := by
  simp only [s_l01From]
  exact from_l (K := K) code hc hb (fun y => okS y.1.1) (fun z7 => some ((z7, ()), ())) (fun s h _ => Okf.ret h) code.length 0 K (code, 0, IntKind.u64.wrap ((13231 : Int) + (IntKind.u64.wrap (code.length : Int))), ()) (by omega) (by omega) ⟨hb, Int.le_refl _, by show (0 : Int) ≤ (code.length : Int); omega, by show code.length ≤ _; omega⟩ rfl
theorem len1 {l : List Int} {y : Int} (h : l.length ≤ 100) : decide (l.length + [y].length ≤ lim) = true := by
  have : lim = 1099511627776 := rfl
  rw [this]; exact decide_eq_true (by simp; omega)
/-- Codes of the length that the statements ask about. -/
structure okCode (code : List Int) : Prop where
  len : code.length ≤ 4096
  bytes : ∀ b ∈ code, 0 ≤ b ∧ b < 256
abbrev BK : Nat := 9223372036854775808
theorem likeI_l (l : List Int) (hl : l.length < 4611686018427387904) (kx : Option R) (kr : Bool → Option R) : ∀ (r p : List Int) (k : Nat), l = p ++ r → r.length < k → w_likeInts_l4 K k l l (p.length : Int) kx kr = kx
  | [], p, k + 1, h, _ => by subst h; simp only [w_likeInts_l4]; rw [ite_f nlt_len]
  | y :: r, p, k + 1, h, hk => by
    subst h
    simp only [w_likeInts_l4]
    rw [ite_t lt_len, ite_t bnds_mid, ite_t bnds_mid, ite_f (by simp), next_i hl]
    exact likeI_l _ hl kx kr r (p ++ [y]) k (mid_app p r y) (by simp at hk; omega)
theorem w_likeInts_refl {l : List Int} (hl : l.length < 4611686018427387904) (hK : 4611686018427387904 ≤ K) : w_likeInts K (l, l, ()) = some true := by
  simp only [w_likeInts]
  rw [ite_f (by simp)]
  exact likeI_l l hl _ _ l [] K rfl (by omega)
theorem hBK : 4611686018427387904 ≤ BK := by decide
/-- A drawn relation. -/
def relP (r : DF) : Prop := ∃ n B : Nat, r = ((n : Int), (B : Int), ()) ∧ 1 ≤ n ∧ n ≤ 3 ∧ B < 2 ^ 2 ^ n
theorem ppw3 {n : Nat} (h : n ≤ 3) : 2 ^ 2 ^ n ≤ 256 := Nat.pow_le_pow_right (by decide) (Nat.pow_le_pow_right (by decide) h : 2 ^ n ≤ 8)
theorem nat_of {x : Int} {m : Nat} (h1 : 0 ≤ x) (h2 : x < (m : Int)) : ∃ b : Nat, x = b ∧ b < m := ⟨x.toNat, by omega, by omega⟩
theorem rel14 (hN : namedS K) (hK : 4611686018427387904 ≤ K) {n : Nat} (h1 : 1 ≤ n) (h3 : n ≤ 3) {cl : Nat} (hc : cl < 6) (v4 : DF) (kx : DSrc → Int → DF → DF → Int → Option R) (Q : R → Prop)
    (hk : ∀ (s : DSrc) (B : Nat), okS s → B < 2 ^ 2 ^ n → Okf (kx s (cl : Int) v4 ((n : Int), (B : Int), ()) ((2 ^ 2 ^ n - 1 : Nat) : Int)) Q) : ∀ (m i k : Nat) (s : DSrc) (B : Nat), i + m = 40 → m < k → okS s → B < 2 ^ 2 ^ n →
    Okf (s_l09DrawRelation_l14 K k s (cl : Int) v4 ((n : Int), (B : Int), ()) ((2 ^ 2 ^ n - 1 : Nat) : Int) (i : Int) kx) Q
  | 0, i, k + 1, s, B, e, _, hs, hB => by
    simp only [s_l09DrawRelation_l14]; rw [ite_f (decide_eq_false (by omega))]; exact hk s B hs hB
  | m + 1, i, k + 1, s, B, e, hm, hs, hB => by
    have hp := ppw3 h3
    have hpos : 0 < 2 ^ 2 ^ n := Nat.two_pow_pos _
    simp only [s_l09DrawRelation_l14, s_l09DrawRelation_j16]
    rw [ite_t (decide_eq_true (by omega)), s_l09Row_eq (by omega) (by omega) hK hN, some_bind', ite_t (bnds_n (by show cl < 6; exact hc))]
    refine Okf.ite (fun _ => ?_) fun _ => hk s B hs hB
    rw [w64s (show 2 ^ 2 ^ n - 1 + 1 < 9223372036854775808 by omega), w64s (by omega), show 2 ^ 2 ^ n - 1 + 1 = 2 ^ 2 ^ n from by omega]
    refine Okf.bind (next_ok _ hs) fun y hy => ?_
    obtain ⟨y1, y2, _⟩ := hy
    obtain ⟨y3, y4⟩ := y2 (by omega)
    obtain ⟨b, e1, hb⟩ := nat_of y3 y4
    rw [e1]
    exact rel14 hN hK h1 h3 hc v4 kx Q hk m (i + 1) k _ b (by omega) (by omega) y1 hb
theorem relation_ok {s : DSrc} {c : Int} (h : okS s) (hN : namedS K) (hK : 4611686018427387904 ≤ K) : Okf (s_l09DrawRelation K (s, c, ())) (fun y => okS y.2.1 ∧ relP y.1.1) := by
  simp only [s_l09DrawRelation]
  refine Okf.bind (pick_ok h (by simp)) fun y2 h2 => ?_
  obtain ⟨⟨v, u⟩, s2, u2⟩ := y2
  obtain ⟨h2, h3⟩ := h2
  have hv : ∃ n : Nat, v = n ∧ 1 ≤ n ∧ n ≤ 3 := by
    simp only [List.mem_cons, List.not_mem_nil, or_false] at h3
    exact ⟨v.toNat, by omega, by omega, by omega⟩
  obtain ⟨n, rfl, n1, n3⟩ := hv
  have hp := ppw3 n3
  have hp8 : 2 ^ n ≤ 8 := Nat.pow_le_pow_right (by decide) n3
  have hpos : 0 < 2 ^ 2 ^ n := Nat.two_pow_pos _
  have hpos2 : 0 < 2 ^ n := Nat.two_pow_pos _
  simp only [s_l01Rows_eq (K := K) (show n < 63 by omega), some_bind', s_l01Rows_eq (K := K) (show 2 ^ n < 63 by omega)]
  have e1 : IntKind.i64.wrap (((2 ^ 2 ^ n : Nat) : Int) - 1) = ((2 ^ 2 ^ n - 1 : Nat) : Int) := by rw [w64 (by omega) (by omega)]; omega
  rw [e1, w64s (show 2 ^ 2 ^ n - 1 + 1 < 9223372036854775808 by omega), show 2 ^ 2 ^ n - 1 + 1 = 2 ^ 2 ^ n from by omega]
  refine Okf.bind (next_ok _ h2) fun y6 h6 => ?_
  obtain ⟨⟨b6, u6⟩, s6, u7⟩ := y6
  obtain ⟨q1, q2, _⟩ := h6
  obtain ⟨q3, q4⟩ := q2 (by omega)
  obtain ⟨B, rfl, hB⟩ := nat_of q3 q4
  have one : ∀ (s' : DSrc) (B' : Nat), okS s' → B' < 2 ^ 2 ^ n → (fun (y : (DF × Unit) × (DSrc × Unit)) => okS y.2.1 ∧ relP y.1.1) (((((n : Int), (B' : Int), ()), ()), (s', ()))) := fun s' B' h1 h2 => ⟨h1, n, B', rfl, n1, n3, h2⟩
  have loop : ∀ cl : Nat, cl < 6 → Okf (s_l09DrawRelation_l14 K K s6 (cl : Int) ((0 : Int), (0 : Int), ()) ((n : Int), (B : Int), ()) ((2 ^ 2 ^ n - 1 : Nat) : Int) (0 : Int) (fun z24 z25 z26 z27 z28 =>
      (s_l09Row K (z27, ())).bind fun y29 =>
      (if (bnds z25 (y29.length : Int)) = true then
      (if (decide ((y29.getD z25.toNat (0 : Int)) = (0 : Int))) = true then
      s_l09DrawRelation_j19 K K z24 z26 (z27.1, z28, ()) none (fun z30 z31 =>
      some ((z31, ()), (z30, ())))
      else
      s_l09DrawRelation_j19 K K z24 z26 z27 none (fun z32 z33 =>
      some ((z33, ()), (z32, ()))))
      else
      none))) (fun y => okS y.2.1 ∧ relP y.1.1) := fun cl hc => by
    refine rel14 (K := K) hN hK n1 n3 hc _ _ _ (fun s' B' hs hB' => ?_) 40 0 K s6 B (by omega) (by omega) q1 hB
    simp only
    rw [s_l09Row_eq (by omega) (by omega) hK hN, some_bind', ite_t (bnds_n (by show cl < 6; exact hc))]
    exact Okf.ite (fun _ => Okf.ret (one s' (2 ^ 2 ^ n - 1) hs (by omega))) fun _ => Okf.ret (one s' B' hs hB')
  refine Okf.ite (fun _ => ?_) fun _ => Okf.ite (fun _ => ?_) fun _ => Okf.ite (fun hc => ?_) fun _ => Okf.ite (fun hc => ?_) fun _ => Okf.ite (fun hc => ?_) fun _ => Okf.ite (fun hc => ?_) fun _ => ?_
  · rw [show bitI .or .i64 (B : Int) (1 : Int) = ((B ||| 1 : Nat) : Int) from bitI_or (b := 1) (by omega) (by decide)]
    exact Okf.ret (one s6 _ q1 (Nat.or_lt_two_pow hB (by have : 2 ^ 1 ≤ 2 ^ 2 ^ n := Nat.pow_le_pow_right (by decide) (by omega); omega)))
  · have e2 : IntKind.u64.wrap (IntKind.i64.wrap (((2 ^ n : Nat) : Int) - 1)) = ((2 ^ n - 1 : Nat) : Int) := by
      rw [w64 (by omega) (by omega), show ((2 ^ n : Nat) : Int) - 1 = ((2 ^ n - 1 : Nat) : Int) from by omega, u64n (by omega)]
    rw [e2, ite_t (decide_eq_true (by omega)), shl1 (by omega), bitI_or (by omega) (by have : 2 ^ (2 ^ n - 1) ≤ 2 ^ 7 := Nat.pow_le_pow_right (by decide) (by omega); omega)]
    exact Okf.ret (one s6 _ q1 (Nat.or_lt_two_pow hB (Nat.pow_lt_pow_right (by decide) (by omega))))
  · rw [of_decide_eq_true hc]; rw [ite_t (decide_eq_true rfl)]; exact loop 2 (by decide)
  · rw [of_decide_eq_true hc]; rw [ite_t (decide_eq_true rfl)]; exact loop 3 (by decide)
  · rw [of_decide_eq_true hc]; rw [ite_t (decide_eq_true rfl)]; exact loop 4 (by decide)
  · rw [of_decide_eq_true hc]; exact loop 5 (by decide)
  · exact Okf.ret (one s6 B q1 hB)
/-- A drawn clause. -/
def clP (nv : Nat) (c : DC) : Prop := relP c.1 ∧ (c.2.1.length : Int) = c.1.1 ∧ ∀ v ∈ c.2.1, 0 ≤ v ∧ v < (nv : Int)
theorem clP_ok {nv : Nat} {c : DC} (h : clP nv c) : okC (nv : Int) c = true := by
  obtain ⟨⟨n, B, e, h1, h3, hB⟩, hl, hv⟩ := h
  simp only [okC, Bool.and_eq_true, decide_eq_true_eq, List.all_eq_true]
  refine ⟨⟨by rw [e]; exact isF_mk (by omega) (by omega) hB, hl⟩, fun v hm => ?_⟩
  have := hv v hm
  simp only [inR, and_dec]; omega
theorem vars7 {nv n B : Nat} (hn : n ≤ 3) (a2 : Int) (b2 L : List DC) (c v5 : Int) (kx : DSrc → Int → List DC → Int → List DC → Int → Int → DF → List Int → Option R) (Q : R → Prop) (hnv : 1 ≤ nv)
    (hk : ∀ (s : DSrc) (l : List Int), okS s → l.length = n → (∀ v ∈ l, 0 ≤ v ∧ v < (nv : Int)) → Okf (kx s a2 b2 (nv : Int) L c v5 ((n : Int), (B : Int), ()) l) Q) : ∀ (m i k : Nat) (s : DSrc) (l : List Int), i + m = n → m < k → okS s → l.length = i → (∀ v ∈ l, 0 ≤ v ∧ v < (nv : Int)) →
    Okf (s_l09DrawOf_l7 K k s a2 b2 (nv : Int) L c v5 ((n : Int), (B : Int), ()) l (i : Int) kx) Q
  | 0, i, k + 1, s, l, e, _, hs, hl, hv => by
    simp only [s_l09DrawOf_l7]; rw [ite_f (decide_eq_false (by omega))]; exact hk s l hs (by omega) hv
  | m + 1, i, k + 1, s, l, e, hm, hs, hl, hv => by
    simp only [s_l09DrawOf_l7]
    rw [ite_t (decide_eq_true (by omega))]
    refine Okf.bind (next_ok _ hs) fun y hy => ?_
    obtain ⟨y1, y2, _⟩ := hy
    have y3 := y2 (by omega)
    rw [ite_t (len1 (by omega)), w64s (by omega)]
    exact vars7 hn a2 b2 L c v5 kx Q hnv hk m (i + 1) k _ _ (by omega) (by omega) y1 (by simp [hl]) fun v hvm => by
      rcases List.mem_append.1 hvm with h | h
      · exact hv v h
      · simp only [List.mem_singleton] at h; subst h; exact y3
theorem clauses3 (hN : namedS K) (hK : 4611686018427387904 ≤ K) {nv : Nat} (a2 : Int) (b2 : List DC) (c : Int) (kx : DSrc → Int → List DC → Int → List DC → Option R) (Q : R → Prop)
    (hk : ∀ (s : DSrc) (L : List DC), okS s → L.length ≤ 12 → (∀ c ∈ L, clP nv c) → Okf (kx s a2 b2 (nv : Int) L) Q) : ∀ (m k : Nat) (s : DSrc) (L : List DC), L.length + m ≤ 12 → m + 10 < k → okS s → (∀ c ∈ L, clP nv c) →
    Okf (s_l09DrawOf_l3 K k s a2 b2 (nv : Int) L c (m : Int) kx) Q
  | 0, k + 1, s, L, e, _, hs, hL => by
    simp only [s_l09DrawOf_l3]; rw [ite_f (decide_eq_false (by omega))]; exact hk s L hs (by omega) hL
  | m + 1, k + 1, s, L, e, hm, hs, hL => by
    simp only [s_l09DrawOf_l3, s_l09DrawOf_j5]
    rw [ite_t (decide_eq_true (by omega))]
    refine Okf.ite (fun hp => ?_) fun _ => hk s L hs (by omega) hL
    have hp := of_decide_eq_true hp
    refine Okf.bind (relation_ok hs hN hK) fun y hy => ?_
    obtain ⟨y1, n, B, e1, n1, n3, hB⟩ := hy
    rw [e1]
    refine vars7 (K := K) n3 a2 b2 L c _ _ Q (by omega) (fun s' l hs' hl hv => ?_) n 0 k _ [] (by omega) (by omega) y1 rfl (fun v h => by cases h)
    rw [ite_t (lim_app (by simp; omega)), w64 (by omega) (by omega), show ((m + 1 : Nat) : Int) - 1 = (m : Int) from by omega]
    exact clauses3 hN hK a2 b2 c kx Q hk m k s' _ (by simp; omega) (by omega) hs' fun c' hc => by
      rcases List.mem_append.1 hc with h | h
      · exact hL c' h
      · simp only [List.mem_singleton] at h; subst h
        exact ⟨⟨n, B, rfl, n1, n3, hB⟩, by show (l.length : Int) = (n : Int); omega, hv⟩
theorem drawX_ok {s : DSrc} (h : okS s) (hN : namedS K) (hK : 4611686018427387904 ≤ K) : Okf (s_l09DrawOf K (s, ())) (fun y => okS y.2.1 ∧ okX y.1.1 = true) := by
  simp only [s_l09DrawOf]
  refine Okf.bind (next_ok _ h) fun y1 h1 => ?_
  obtain ⟨q1, q2, _⟩ := h1
  obtain ⟨q3, q4⟩ := q2 (by decide)
  obtain ⟨nv, e1, hnv⟩ := nat_of (m := 9) q3 q4
  refine Okf.bind (next_ok _ q1) fun y3 h3 => ?_
  refine Okf.bind (pick_ok h3.1 (by simp)) fun y5 h5 => ?_
  obtain ⟨h5, h5m⟩ := h5
  simp only [List.mem_cons, List.not_mem_nil, or_false] at h5m
  refine Okf.bind (next_ok _ h5) fun y6 h6 => ?_
  obtain ⟨r1, r2, _⟩ := h6
  obtain ⟨r3, r4⟩ := r2 (by omega)
  obtain ⟨m, e6, hm⟩ := nat_of (m := 13) r3 (by omega)
  rw [e1, e6]
  refine clauses3 (K := K) hN hK (nv := nv) _ _ _ _ _ (fun s' L hs hl hL => Okf.ret ⟨hs, ?_⟩) m K _ [] (by simp; omega) (by omega) r1 (fun c h => by cases h)
  simp only [okX, Bool.and_eq_true, decide_eq_true_eq, List.all_eq_true]
  exact ⟨⟨⟨by omega, by omega⟩, hl⟩, fun c hc => clP_ok (hL c hc)⟩
/-- An instance that may be asked about: its lists are short. -/
def smallX (x : DX) : Prop := x.2.1.length ≤ 13 ∧ ∀ c ∈ x.2.1, c.2.1.length ≤ 5
theorem smallX_sh {x : DX} (h : smallX x) : shX x := ⟨by have := h.1; omega, fun c hc => by have := h.2 c hc; omega⟩
theorem okX_small {x : DX} (h : okX x = true) : x.2.1.length ≤ 12 ∧ ∀ c ∈ x.2.1, c.2.1.length ≤ 4 := by
  obtain ⟨_, h8, h12, h4⟩ := okX_h h
  exact ⟨h12, fun c hc => (okC_rel (h4 c hc) h8).2.2.2⟩
theorem bad14 (v0 : DSrc) (a b : Int) (c : List DC) (kx : DSrc → Int → List DC → Int → List DC → Option R) (Q : R → Prop) (hk : ∀ L : List DC, L.length ≤ 13 → (∀ c ∈ L, c.2.1.length ≤ 5) → Okf (kx v0 a L b c) Q) : ∀ (m k : Nat) (L : List DC), L.length + m = 13 → m < k → (∀ c ∈ L, c.2.1.length ≤ 5) →
    Okf (s_l09Bad_l14 K k v0 a L b c kx) Q
  | 0, k + 1, L, e, _, hL => by
    simp only [s_l09Bad_l14]; rw [ite_f (decide_eq_false (by omega))]; exact hk L (by omega) hL
  | m + 1, k + 1, L, e, hm, hL => by
    simp only [s_l09Bad_l14]
    rw [ite_t (decide_eq_true (by omega)), ite_t (lim_app (by simp; omega))]
    exact bad14 v0 a b c kx Q hk m k _ (by simp; omega) (by omega) fun c' hc => by
      rcases List.mem_append.1 hc with h | h
      · exact hL c' h
      · simp only [List.mem_singleton] at h; subst h; simp
theorem bad_ok {s : DSrc} {x : DX} (h : okS s) (hx : okX x = true) (hK : 4611686018427387904 ≤ K) : Okf (s_l09Bad K (s, x, ())) (fun y => okS y.2.1 ∧ smallX y.1.1) := by
  obtain ⟨h12, h4⟩ := okX_small hx
  have hsm : smallX x := ⟨by omega, fun c hc => by have := h4 c hc; omega⟩
  have hcp := s_l09Copy_eq (K := K) (x := x) (by omega) (fun c hc => by have := h4 c hc; omega) hK
  simp only [s_l09Bad, s_l09Bad_j16]
  refine Okf.bind (next_ok _ h) fun y1 h1 => ?_
  have h1 := h1.1
  refine Okf.ite (fun _ => ?_) fun _ => Okf.ite (fun _ => ?_) fun _ => Okf.ite (fun _ => ?_) fun _ => Okf.ite (fun _ => ?_) fun _ => Okf.ret ⟨h1, hsm⟩
  · exact Okf.bind (pick_ok h1 (by simp)) fun y3 h3 => Okf.ret ⟨h3.1, hsm⟩
  · refine Okf.ite (fun hp => ?_) fun _ => Okf.ret ⟨h1, hsm⟩
    have hp := of_decide_eq_true hp
    have hmem : x.2.1.getD 0 (((0 : Int), (0 : Int), ()), ([] : List Int), ()) ∈ x.2.1 := by
      rw [List.getD_eq_getElem?_getD, List.getElem?_eq_getElem (show 0 < x.2.1.length by omega)]
      simp
    have hg := h4 _ hmem
    rw [hcp, some_bind', ite_t (bnds_t (by decide) hp)]
    simp only [Int.toNat_zero]
    have l1 : ([0] : List Int).length = 1 := rfl
    rw [ite_t (lim_app (by rw [l1]; omega)), ite_t (bnds_t (by decide) hp)]
    refine Okf.ret ⟨h1, by simp; omega, fun c hc => ?_⟩
    rcases List.mem_or_eq_of_mem_set hc with h | h
    · have := h4 c h; omega
    · subst h
      show List.length (_ ++ [0]) ≤ 5
      rw [List.length_append, l1]; omega
  · refine Okf.ite (fun hp => ?_) fun _ => Okf.ret ⟨h1, hsm⟩
    have hp := of_decide_eq_true hp
    have hmem : x.2.1.getD 0 (((0 : Int), (0 : Int), ()), ([] : List Int), ()) ∈ x.2.1 := by
      rw [List.getD_eq_getElem?_getD, List.getElem?_eq_getElem (show 0 < x.2.1.length by omega)]
      simp
    have hg := h4 _ hmem
    rw [hcp, some_bind']
    refine Okf.bind (pick_ok h1 (by simp)) fun y17 h17 => ?_
    rw [ite_t (bnds_t (by decide) hp)]
    simp only [Int.toNat_zero]
    have l1 : ([0] : List Int).length = 1 := rfl
    refine Okf.ret ⟨h17.1, by simp; omega, fun c hc => ?_⟩
    rcases List.mem_or_eq_of_mem_set hc with h | h
    · have := h4 c h; omega
    · subst h; exact Nat.le_trans hg (by decide)
  · rw [hcp, some_bind']
    exact bad14 (K := K) _ _ _ _ _ _ (fun L hl hL => Okf.ret ⟨h1, hl, hL⟩) (13 - x.2.1.length) K x.2.1 (by omega) (by omega) fun c hc => by have := h4 c hc; omega
theorem near_ok {s : DSrc} {m : Int} (h : okS s) : Okf (s_l01Near K (s, m, ())) (fun y => okS y.2.1) := by
  simp only [s_l01Near]
  refine Okf.bind (next_ok _ h) fun y1 h1 => ?_
  refine Okf.ite (fun _ => ?_) fun _ => ?_
  · exact Okf.bind (pick_ok h1.1 (by simp)) fun y3 h3 => Okf.ret h3.1
  · exact Okf.bind (next_ok _ h1.1) fun y4 h4 => Okf.ret h4.1
theorem okX_tri {x : DX} (h : okX x = true) : ∃ (nv : Nat) (L : List DC), x = ((nv : Int), L, ()) ∧ nv ≤ 8 := by
  obtain ⟨h0, h8, _, _⟩ := okX_h h
  obtain ⟨a, L, u⟩ := x
  exact ⟨a.toNat, L, by show (a, L, u) = _; have : (a : Int) = (a.toNat : Int) := by have : (0 : Int) ≤ a := h0; omega
                        rw [← this], by have : (a : Int) ≤ 8 := h8; omega⟩
theorem nar4 {nv : Nat} (hn : nv ≤ 8) (a : Int) (b c : List DC) (kx : Int → List DC → DSrc → Int → List DC → List Int → Option R) (Q : R → Prop) (hk : ∀ (s : DSrc) (l : List Int), okS s → l.length ≤ 8 → Okf (kx a b s (nv : Int) c l) Q) : ∀ (m i k : Nat) (s : DSrc) (l : List Int), i + m = nv → m < k → okS s → l.length = i →
    Okf (s_DrawNarrowDomains_l4 K k a b s (nv : Int) c l (i : Int) kx) Q
  | 0, i, k + 1, s, l, e, _, hs, hl => by
    simp only [s_DrawNarrowDomains_l4]; rw [ite_f (decide_eq_false (by omega))]; exact hk s l hs (by omega)
  | m + 1, i, k + 1, s, l, e, hm, hs, hl => by
    simp only [s_DrawNarrowDomains_l4]
    rw [ite_t (decide_eq_true (by omega))]
    refine Okf.bind (pick_ok hs (by simp)) fun y hy => ?_
    rw [ite_t (len1 (by omega)), w64s (by omega)]
    exact nar4 hn a b c kx Q hk m (i + 1) k _ _ (by omega) (by omega) hy.1 (by simp [hl])
theorem DrawNarrow_ok {code : List Int} (h : okCode code) (hN : namedS K) (hK : 4611686018427387904 ≤ K) : Okf (s_DrawNarrowDomains K (code, ())) (fun y => smallX y.1.1 ∧ y.1.2.1.length ≤ 100) := by
  simp only [s_DrawNarrowDomains, s_DrawNarrowDomains_j13]
  refine Okf.bind (from_ok h.len h.bytes hK) fun y1 h1 => ?_
  refine Okf.bind (drawX_ok h1 hN hK) fun y2 h2 => ?_
  obtain ⟨⟨x, u1⟩, s2, u2⟩ := y2
  obtain ⟨h2, h3⟩ := h2
  obtain ⟨nv, L, rfl, hnv⟩ := okX_tri h3
  refine nar4 (K := K) hnv _ _ _ _ _ (fun s l hs hl => ?_) nv 0 K s2 [] (by omega) (by omega) h2 rfl
  refine Okf.bind (next_ok _ hs) fun y13 h13 => ?_
  have last : ∀ (s' : DSrc) (l' : List Int), okS s' → l'.length ≤ 9 → Okf ((s_l09Bad K (s', ((nv : Int), L, ()), ())).bind fun y16 => some ((y16.1.1, l', ()), ())) (fun (y : (DX × List Int × Unit) × Unit) => smallX y.1.1 ∧ y.1.2.1.length ≤ 100) := fun s' l' hs' hl' =>
    Okf.bind (bad_ok hs' h3 hK) fun y16 h16 => Okf.ret ⟨h16.2, by show l'.length ≤ 100; omega⟩
  refine Okf.ite (fun _ => ?_) fun _ => Okf.ite (fun _ => ?_) fun _ => last _ _ h13.1 (by omega)
  · rw [ite_t (lim_app (by simp; omega))]
    exact last _ _ h13.1 (by simp; omega)
  · refine Okf.ite (fun hp => ?_) fun _ => last _ _ h13.1 (by omega)
    have hp := of_decide_eq_true hp
    refine Okf.bind (pick_ok h13.1 (by simp)) fun y20 h20 => ?_
    rw [ite_t (bnds_t (by decide) hp)]
    exact last _ _ h20.1 (by simp; omega)
theorem okX_add {nv : Nat} {L : List DC} (h : okX ((nv : Int), L, ()) = true) (hp : 0 < nv) (hl : L.length < 12) : okX ((nv : Int), L ++ [(((1 : Int), (3 : Int), ()), [(0 : Int)], ())], ()) = true := by
  obtain ⟨h0, h8, h12, h4⟩ := okX_h h
  have h0 : (0 : Int) ≤ (nv : Int) := h0
  have h8 : (nv : Int) ≤ 8 := h8
  simp only [okX, Bool.and_eq_true, decide_eq_true_eq, List.all_eq_true]
  refine ⟨⟨⟨h0, h8⟩, by simp; omega⟩, fun c hc => ?_⟩
  rcases List.mem_append.1 hc with h | h
  · exact h4 c h
  · simp only [List.mem_singleton] at h; subst h
    simp only [okC, Bool.and_eq_true, decide_eq_true_eq, List.all_eq_true]
    refine ⟨⟨by decide, by decide⟩, fun v hv => ?_⟩
    simp only [List.mem_singleton] at hv; subst hv
    simp only [inR, and_dec]; omega
theorem fix6 {nv : Nat} (a : Int) (b : List DC) (v7 v8 : Int) (v5 : DSrc) (kx : Int → List DC → DSrc → Int → List DC → Int → Int → Option R) (Q : R → Prop) (hk : ∀ (L : List DC), okX ((nv : Int), L, ()) = true → Okf (kx a b v5 (nv : Int) L v7 v8) Q) : ∀ (m k : Nat) (L : List DC), L.length + m = 12 → m < k → okX ((nv : Int), L, ()) = true →
    Okf (s_DrawFixVar_l6 K k a b v5 (nv : Int) L v7 v8 kx) Q
  | 0, k + 1, L, e, _, hL => by
    simp only [s_DrawFixVar_l6]; rw [ite_f (decide_eq_false (by omega))]; exact hk L hL
  | m + 1, k + 1, L, e, hm, hL => by
    simp only [s_DrawFixVar_l6, s_DrawFixVar_j7]
    rw [ite_t (decide_eq_true (by omega))]
    refine Okf.ite (fun hp => ?_) fun _ => hk L hL
    have hp := of_decide_eq_true hp
    rw [ite_t (lim_app (by simp; omega))]
    exact fix6 a b v7 v8 v5 kx Q hk m k _ (by simp; omega) (by omega) (okX_add hL (by omega) (by omega))
theorem DrawFixVar_ok {code : List Int} (h : okCode code) (hN : namedS K) (hK : 4611686018427387904 ≤ K) : Okf (s_DrawFixVar K (code, ())) (fun y => smallX y.1.1) := by
  simp only [s_DrawFixVar, s_DrawFixVar_j8]
  refine Okf.bind (from_ok h.len h.bytes hK) fun y1 h1 => ?_
  refine Okf.bind (drawX_ok h1 hN hK) fun y2 h2 => ?_
  obtain ⟨⟨x, u1⟩, s2, u2⟩ := y2
  obtain ⟨h2, h3⟩ := h2
  obtain ⟨nv, L, rfl, hnv⟩ := okX_tri h3
  refine Okf.bind (near_ok h2) fun y3 h3' => ?_
  refine Okf.bind (near_ok h3') fun y4 h4 => ?_
  refine Okf.bind (next_ok _ h4) fun y5 h5 => ?_
  have last : ∀ (L' : List DC), okX ((nv : Int), L', ()) = true → Okf ((s_l09Bad K (y5.2.1, ((nv : Int), L', ()), ())).bind fun y24 => some ((y24.1.1, y3.1.1, y4.1.1, ()), ())) (fun (y : (DX × Int × Int × Unit) × Unit) => smallX y.1.1) := fun L' hL' =>
    Okf.bind (bad_ok h5.1 hL' hK) fun y h => Okf.ret h.2
  refine Okf.ite (fun _ => ?_) fun _ => last L h3
  obtain ⟨_, _, h12, _⟩ := okX_h h3
  have h12 : L.length ≤ 12 := h12
  exact fix6 (K := K) (nv := nv) _ _ _ _ _ _ _ (fun L' hL' => last L' hL') (12 - L.length) K L (by omega) (by omega) h3
theorem DrawForced_ok {code : List Int} (h : okCode code) (hN : namedS K) (hK : 4611686018427387904 ≤ K) : Okf (s_DrawForcedOf K (code, ())) (fun y => smallX y.1.1) := by
  simp only [s_DrawForcedOf, s_l09Draw]
  refine Okf.bind (from_ok h.len h.bytes hK) fun y1 h1 => ?_
  refine Okf.bind (P := fun (y : (DX × Unit) × (DSrc × Unit)) => smallX y.1.1) (Okf.bind (drawX_ok h1 hN hK) fun y2 h2 => ?_) fun y h => Okf.ret h
  obtain ⟨⟨⟨a, L, u⟩, u1⟩, s2, u2⟩ := y2
  exact Okf.bind (bad_ok h2.1 h2.2 hK) fun y h => Okf.ret h.2
theorem DrawSatisfied_ok {code : List Int} (h : okCode code) (hN : namedS K) (hK : 4611686018427387904 ≤ K) : Okf (s_DrawSatisfiedBy K (code, ())) (fun y => smallX y.1.1) := by
  simp only [s_DrawSatisfiedBy, s_DrawSatisfiedBy_j7]
  refine Okf.bind (from_ok h.len h.bytes hK) fun y1 h1 => ?_
  refine Okf.bind (drawX_ok h1 hN hK) fun y2 h2 => ?_
  obtain ⟨⟨x, u1⟩, s2, u2⟩ := y2
  obtain ⟨h2, h3⟩ := h2
  obtain ⟨nv, L, rfl, hnv⟩ := okX_tri h3
  simp only [s_l01Rows_eq (K := K) (show nv < 63 by omega), some_bind']
  refine Okf.bind (near_ok h2) fun y4 h4 => ?_
  rw [s_l09Solutions_eq h3 hK, some_bind']
  have last : ∀ (s' : DSrc) (v : Int), okS s' → Okf ((s_l09Bad K (s', ((nv : Int), L, ()), ())).bind fun y16 => some ((y16.1.1, v, ()), ())) (fun (y : (DX × Int × Unit) × Unit) => smallX y.1.1) := fun s' v hs' =>
    Okf.bind (bad_ok hs' h3 hK) fun y16 h16 => Okf.ret h16.2
  refine Okf.ite (fun hp => ?_) fun _ => last _ _ h4
  have hp := of_decide_eq_true hp
  refine Okf.bind (next_ok _ h4) fun y6 h6 => ?_
  refine Okf.ite (fun _ => ?_) fun _ => last _ _ h6.1
  refine Okf.bind (next_ok _ h6.1) fun y7 h7 => ?_
  obtain ⟨q1, q2, _⟩ := h7
  obtain ⟨q3, q4⟩ := q2 (by omega)
  rw [ite_t (bnds_t q3 q4)]
  exact last _ _ q1
/-- An assignment that the domains allow. -/
def agr (d : List Int) (a : Nat) : Prop := ∀ v, v < d.length → alw (d.getD v 0) a v = true
theorem alw_iff {dv : Int} {t i : Nat} : alw dv t i = true ↔ dv = 2 ∨ dv = bt t i := by simp [alw]
theorem agr_set {d : List Int} {a : Nat} (h : agr d a) {v : Nat} {b : Int} (hb : b = bt a v) : agr (d.set v b) a := fun u hu => by
  rw [List.length_set] at hu
  by_cases hv : v = u
  · subst hv
    rw [List.getD_eq_getElem?_getD, List.getElem?_set_self hu]
    exact alw_iff.2 (.inr hb)
  · rw [List.getD_eq_getElem?_getD, List.getElem?_set_ne hv, ← List.getD_eq_getElem?_getD]
    exact h u hu
theorem tup_bit (a : Nat) {vs : List Int} {i : Nat} (h : i < vs.length) : (tup a vs).testBit i = a.testBit (vs.getD i 0).toNat := by
  unfold tup; rw [mkB_bit, decide_eq_true h, Bool.true_and]
theorem supp_sat {c : DC} {d : List Int} {a n : Nat} (hn : n = c.2.1.length) (hv : ∀ v ∈ c.2.1, 0 ≤ v ∧ v < (d.length : Int)) (hs : satC c a = true) (ha : agr d a) {i : Nat} (hi : i < c.2.1.length) : supp c.2.1 d (bitsC c) n i (a.testBit (c.2.1.getD i 0).toNat) = true := by
  rw [supp, anyF_iff]
  refine ⟨tup a c.2.1, Nat.zero_le _, by rw [Nat.zero_add, hn]; exact mkB_lt _ _, ?_⟩
  have h1 : (bitsC c).testBit (tup a c.2.1) = true := hs
  have h2 : opn c.2.1 d (tup a c.2.1) = true := by
    rw [opn, allF_iff]
    intro j _ hj
    have hj : j < c.2.1.length := by omega
    obtain ⟨_, f2, f3⟩ := fstP_h hj
    have hm : c.2.1.getD j 0 ∈ c.2.1 := by simp [List.getD, List.getElem?_eq_getElem hj]
    obtain ⟨g1, g2⟩ := hv _ hm
    have := alw_iff.1 (ha (c.2.1.getD j 0).toNat (by omega))
    rw [opI, Bool.and_eq_true]
    refine ⟨alw_iff.2 ?_, ?_⟩
    · have e : bt (tup a c.2.1) j = bt a (c.2.1.getD j 0).toNat := by unfold bt; rw [tup_bit a hj]
      rw [e]; exact this
    · rw [tup_bit a hj, tup_bit a (show fstP c.2.1 j < c.2.1.length by omega), f3]; simp
  rw [h1, h2, tup_bit a hi]; simp
theorem nstep_agr {c : DC} {d : List Int} {a n : Nat} (hn : n = c.2.1.length) (hv : ∀ v ∈ c.2.1, 0 ≤ v ∧ v < (d.length : Int)) (hs : satC c a = true) (ha : agr d a) {i : Nat} (hi : i < c.2.1.length) : (nstep c (bitsC c) n d i).1 = true ∧ agr (nstep c (bitsC c) n d i).2 a := by
  have h := supp_sat hn hv hs ha hi
  unfold nstep
  cases hb : a.testBit (c.2.1.getD i 0).toNat
  · rw [hb] at h
    rw [if_pos h]
    split
    · exact ⟨rfl, ha⟩
    · exact ⟨rfl, agr_set ha (bt_0.2 hb).symm⟩
  · rw [hb] at h
    split
    · exact ⟨rfl, ha⟩
    · exact ⟨rfl, agr_set ha (bt_1.2 hb).symm⟩
theorem nfold_agr {c : DC} {a n : Nat} (hn : n = c.2.1.length) (hs : satC c a = true) : ∀ (m i : Nat) (d : List Int), i + m ≤ c.2.1.length → (∀ v ∈ c.2.1, 0 ≤ v ∧ v < (d.length : Int)) → agr d a → (nfold c (bitsC c) n d i m).1 = true ∧ agr (nfold c (bitsC c) n d i m).2 a ∧ (nfold c (bitsC c) n d i m).2.length = d.length
  | 0, i, d, _, _, ha => ⟨rfl, ha, rfl⟩
  | m + 1, i, d, e, hv, ha => by
    obtain ⟨h1, h2⟩ := nstep_agr hn hv hs ha (show i < c.2.1.length by omega)
    have hl := nstep_len c (bitsC c) n d i
    obtain ⟨j1, j2, j3⟩ := nfold_agr hn hs m (i + 1) (nstep c (bitsC c) n d i).2 (by omega) (fun v h => by rw [hl]; exact hv v h) h2
    rw [nfold, if_pos h1]
    exact ⟨j1, j2, j3.trans hl⟩
theorem pfold_agr {a N : Nat} : ∀ (cs : List DC) (d : List Int), (∀ c ∈ cs, arC c = c.2.1.length ∧ satC c a = true ∧ ∀ v ∈ c.2.1, 0 ≤ v ∧ v < (N : Int)) → d.length = N → agr d a → (pfold cs d).1 = true ∧ agr (pfold cs d).2 a ∧ (pfold cs d).2.length = N
  | [], d, _, hl, ha => ⟨rfl, ha, hl⟩
  | c :: r, d, h, hl, ha => by
    obtain ⟨h1, h2, h3⟩ := h c (by simp)
    obtain ⟨j1, j2, j3⟩ := nfold_agr h1 h2 c.2.1.length 0 d (by omega) (fun v hm => by rw [hl]; exact h3 v hm) ha
    rw [pfold, if_pos j1]
    exact pfold_agr r _ (fun c' hc => h c' (by simp [hc])) (j3.trans hl) j2
theorem narX_agr {a N : Nat} {cs : List DC} (h : ∀ c ∈ cs, arC c = c.2.1.length ∧ satC c a = true ∧ ∀ v ∈ c.2.1, 0 ≤ v ∧ v < (N : Int)) : ∀ (m : Nat) (d : List Int), d.length = N → agr d a → (narX cs m d).1 = true ∧ agr (narX cs m d).2 a
  | 0, d, _, ha => ⟨rfl, ha⟩
  | m + 1, d, hl, ha => by
    obtain ⟨h1, h2, h3⟩ := pfold_agr cs d h hl ha
    rw [narX, if_pos h1]
    split
    · exact ⟨rfl, ha⟩
    · exact narX_agr h m _ h3 h2
theorem narX_fix {N : Nat} {cs : List DC} (hv : ∀ c ∈ cs, ∀ v ∈ c.2.1, 0 ≤ v ∧ v < (N : Int)) : ∀ (m : Nat) (d : List Int), tw d < m → isDm d → d.length = N → (narX cs m d).1 = true →
    (pfold cs (narX cs m d).2).1 = true ∧ (pfold cs (narX cs m d).2).2 = (narX cs m d).2 ∧ isDm (narX cs m d).2 ∧ (narX cs m d).2.length = N
  | m + 1, d, ht, hd, hl, h => by
    obtain ⟨h1, h2, h3⟩ := pfold_h hv hl hd
    rw [narX] at h ⊢
    by_cases hs : (pfold cs d).1 = true
    · rw [if_pos hs] at h ⊢
      by_cases he : (pfold cs d).2 = d
      · rw [if_pos he] at h ⊢
        exact ⟨hs, he, hd, hl⟩
      · rw [if_neg he] at h ⊢
        have : tw (pfold cs d).2 < tw d := h2.resolve_left he
        exact narX_fix hv m _ (by omega) h1 h3 h
    · rw [if_neg hs] at h; cases h
theorem okC_ar {m : Int} {c : DC} (h : okC m c = true) : arC c = c.2.1.length := by
  simp only [okC, Bool.and_eq_true, decide_eq_true_eq] at h
  unfold arC; omega
theorem dmB_of {d : List Int} (h : isDm d) : dmB d = true := by
  rw [dmB, List.all_eq_true]
  intro a ha
  rw [and_dec]
  rcases h a ha with h | h | h <;> omega
/-- Narrowing again changes nothing. -/
theorem narD_again {x : DX} {d : List Int} (h : (narD x d).2.1 = 0) : narD x (narD x d).1 = ((narD x d).1, 0, ()) ∧ okX x = true ∧ (narD x d).1.length = d.length ∧ (d.length : Int) = x.1 := by
  by_cases hx : okX x = true
  · by_cases hd : (decide ((d.length : Int) = x.1) && dmB d) = true
    · have e0 : narD x d = ((narX x.2.1 9 d).2, if (narX x.2.1 9 d).1 = true then 0 else 4, ()) := by rw [narD, if_pos hx, if_pos hd]
      rw [e0] at h ⊢
      simp only at h ⊢
      have hok : (narX x.2.1 9 d).1 = true := by
        cases hc : (narX x.2.1 9 d).1
        · rw [hc] at h; simp at h
        · rfl
      simp only [Bool.and_eq_true, decide_eq_true_eq] at hd
      have hv := okX_vars hx hd.1
      obtain ⟨_, h8, _, _⟩ := okX_h hx
      have htl := tw_le d
      obtain ⟨k1, k2, k3, k4⟩ := narX_fix hv 9 d (by omega) (dmB_is hd.2) rfl hok
      refine ⟨?_, hx, k4, hd.1⟩
      have e1 : narX x.2.1 9 (narX x.2.1 9 d).2 = (true, (narX x.2.1 9 d).2) := by
        rw [narX, if_pos k1, if_pos k2]
      have hl2 : decide (((narX x.2.1 9 d).2.length : Int) = x.1) = true := decide_eq_true (by rw [k4]; exact hd.1)
      rw [narD, if_pos hx, if_pos (by rw [hl2, dmB_of k3]; rfl), e1]; rfl
    · rw [narD, if_pos hx, if_neg hd] at h; simp at h
  · rw [narD, if_neg hx] at h; simp at h
/-- Solutions that the domains allow stay allowed. -/
theorem narD_agr {x : DX} {d : List Int} (h : (narD x d).2.1 = 0 ∨ (narD x d).2.1 = 4) {a : Nat} (hs : satX x a = true) (ha : agr d a) : (narD x d).2.1 = 0 ∧ agr (narD x d).1 a := by
  by_cases hx : okX x = true
  · by_cases hd : (decide ((d.length : Int) = x.1) && dmB d) = true
    · have e0 : narD x d = ((narX x.2.1 9 d).2, if (narX x.2.1 9 d).1 = true then 0 else 4, ()) := by rw [narD, if_pos hx, if_pos hd]
      rw [e0]
      simp only [Bool.and_eq_true, decide_eq_true_eq] at hd
      obtain ⟨_, _, _, h4⟩ := okX_h hx
      have hv := okX_vars hx hd.1
      have hs := List.all_eq_true.1 hs
      obtain ⟨k1, k2⟩ := narX_agr (a := a) (N := d.length) (cs := x.2.1) (fun c hc => ⟨okC_ar (h4 c hc), hs c hc, hv c hc⟩) 9 d rfl ha
      exact ⟨by simp only [k1]; rfl, k2⟩
    · rw [narD, if_pos hx, if_neg hd] at h; simp at h
  · rw [narD, if_neg hx] at h; simp at h
theorem fixX_ok {x : DX} {v b : Int} (h : (fixX x v b).2.1 = 0) : okX x = true ∧ 0 ≤ v ∧ v ≤ x.1 - 1 ∧ (b = 0 ∨ b = 1) ∧ x.2.1.length < 12 ∧ (fixX x v b).1 = (x.1, x.2.1 ++ [((1, 1 + b, ()), [v], ())], ()) := by
  unfold fixX at h ⊢
  split at h
  case isFalse => simp at h
  rename_i hx
  split at h
  case isFalse => simp at h
  rename_i hv
  split at h
  case isFalse => simp at h
  rename_i hb
  split at h
  case isTrue => simp at h
  rename_i hl
  rw [if_pos hx, if_pos hv, if_pos hb, if_neg hl]
  obtain ⟨_, _, h12, _⟩ := okX_h hx
  rw [and_dec] at hv hb
  exact ⟨hx, hv.1, hv.2, by omega, by omega, rfl⟩
theorem fixX_mk {x : DX} {v b : Int} (hx : okX x = true) (h0 : 0 ≤ v) (h1 : v ≤ x.1 - 1) (hb : b = 0 ∨ b = 1) (hl : x.2.1.length < 12) : fixX x v b = ((x.1, x.2.1 ++ [((1, 1 + b, ()), [v], ())], ()), 0, ()) := by
  rw [fixX, if_pos hx, if_pos (by rw [and_dec]; exact ⟨h0, h1⟩), if_pos (by rw [and_dec]; omega), if_neg (by omega)]
theorem fix_okX {x : DX} {v b : Int} (hx : okX x = true) (h0 : 0 ≤ v) (h1 : v ≤ x.1 - 1) (hb : b = 0 ∨ b = 1) (hl : x.2.1.length < 12) : okX (x.1, x.2.1 ++ [((1, 1 + b, ()), [v], ())], ()) = true := by
  obtain ⟨g0, g8, g12, g4⟩ := okX_h hx
  simp only [okX, Bool.and_eq_true, decide_eq_true_eq, List.all_eq_true]
  refine ⟨⟨⟨g0, g8⟩, by simp; omega⟩, fun c hc => ?_⟩
  rcases List.mem_append.1 hc with h | h
  · exact g4 c h
  · simp only [List.mem_singleton] at h; subst h
    simp only [okC, Bool.and_eq_true, decide_eq_true_eq, List.all_eq_true]
    refine ⟨⟨by rcases hb with e | e <;> subst e <;> decide, by simp⟩, fun u hu => ?_⟩
    simp only [List.mem_singleton] at hu; subst hu
    simp only [inR, and_dec]; omega
theorem fix_sat {x : DX} {v b : Int} (hb : b = 0 ∨ b = 1) (a : Nat) : satX (x.1, x.2.1 ++ [((1, 1 + b, ()), [v], ())], ()) a = (satX x a && (a.testBit v.toNat == decide (b = 1))) := by
  have e : satC ((1, 1 + b, ()), [v], ()) a = (a.testBit v.toNat == decide (b = 1)) := by
    have e1 : tup a [v] = if a.testBit v.toNat = true then 1 else 0 := by
      simp only [tup, List.length_singleton, mkB]
      show _ = _
      cases h : a.testBit v.toNat <;> simp [h, List.getD]
    simp only [satC, e1]
    rcases hb with e | e <;> subst e <;> cases a.testBit v.toNat <;> decide
  simp only [satX, List.all_append, List.all_cons, List.all_nil, Bool.and_true, e]
theorem filter_part {α : Type} (P T : α → Bool) : ∀ l : List α, (l.filter fun a => P a && T a).length + (l.filter fun a => P a && !T a).length = (l.filter P).length
  | [] => rfl
  | a :: l => by
    have := filter_part P T l
    simp only [List.filter_cons]
    cases P a <;> cases T a <;> simp <;> omega
theorem fix_count {x : DX} {v b : Int} (hb : b = 0 ∨ b = 1) : (solX (x.1, x.2.1 ++ [((1, 1 + b, ()), [v], ())], ())).length + (solX (x.1, x.2.1 ++ [((1, 1 + (1 - b), ()), [v], ())], ())).length = (solX x).length := by
  simp only [solX, sel, List.length_map]
  rw [← filter_part (satX x) (fun a => a.testBit v.toNat == decide (b = 1)) (List.range (2 ^ x.1.toNat))]
  congr 2
  · exact List.filter_congr fun a _ => fix_sat hb a
  · refine List.filter_congr fun a _ => ?_
    rw [fix_sat (by omega) a]
    rcases hb with e | e <;> subst e <;> cases a.testBit v.toNat <;> simp
theorem inst5_l (x : DX) (h1 : x.2.1.length < 4611686018427387904) (h2 : ∀ c ∈ x.2.1, c.2.1.length < 4611686018427387904) (hK : 4611686018427387904 ≤ K) (kx : Option R) (kr : Bool → Option R) : ∀ (r p : List DC) (k : Nat), x.2.1 = p ++ r → r.length < k → w_instances5_l4 K k x x (p.length : Int) kx kr = kx
  | [], p, k + 1, h, _ => by simp only [w_instances5_l4]; rw [h, ite_f nlt_len]
  | y :: r, p, k + 1, h, hk => by
    have hy := h2 y (by rw [h]; simp)
    simp only [w_instances5_l4]
    rw [h, ite_t lt_len, ite_t bnds_mid, ite_t bnds_mid, getD_midI, ite_f (by simp [eqD]), ite_t bnds_mid, ite_t bnds_mid, w_likeInts_refl hy hK, some_bind', ite_f (by rfl), next_i (by rw [← h]; omega)]
    exact inst5_l x h1 h2 hK kx kr r (p ++ [y]) k (by rw [h, mid_app]) (by simp at hk; omega)
theorem inst5_refl {x : DX} (h : smallX x) (hK : 4611686018427387904 ≤ K) : w_instances5 K (x, x, ()) = some true := by
  simp only [w_instances5, w_instances5_j3]
  rw [ite_f (by simp), ite_f (by simp)]
  have := inst5_l (K := K) x (by have := h.1; omega) (fun c hc => by have := h.2 c hc; omega) hK (some true) (fun z => some z) x.2.1 [] K rfl (by have := h.1; omega)
  simp only [List.length_nil] at this
  exact this
theorem sum_l3 {α : Type} (P : α → Bool) (L : List α) (hL : L.length < 1000) (kx : Int → Option R) : ∀ (r p : List α) (k : Nat), L = p ++ r → r.length < k →
    w_sum_l3 K k (L.map fun c => one01 (P c)) ((p.countP P : Nat) : Int) (p.length : Int) kx = kx ((L.countP P : Nat) : Int)
  | [], p, k + 1, h, _ => by
    subst h
    simp only [w_sum_l3]
    rw [ite_f (decide_eq_false (by simp))]; simp
  | y :: r, p, k + 1, h, hk => by
    have hc : p.countP P ≤ p.length := List.countP_le_length
    have hp : p.length < L.length := by rw [h]; simp
    have hg : (L.map fun c => one01 (P c)).getD p.length 0 = one01 (P y) := by
      rw [h, List.map_append, List.map_cons]
      have : p.length = (p.map fun c => one01 (P c)).length := by simp
      rw [this, List.getD_eq_getElem?_getD, List.getElem?_append_right (Nat.le_refl _)]; simp
    simp only [w_sum_l3]
    rw [ite_t (decide_eq_true (by simp; omega)), ite_t (bnds_n (by simpa using hp)), Int.toNat_natCast, hg, w64s (by omega)]
    have ih := sum_l3 P L hL kx r (p ++ [y]) k (by rw [h]; simp) (by simp at hk; omega)
    have e : IntKind.i64.wrap (((p.countP P : Nat) : Int) + one01 (P y)) = (((p ++ [y]).countP P : Nat) : Int) := by
      rw [List.countP_append, List.countP_singleton]
      cases P y
      · rw [show one01 false = 0 from rfl, w64 (by omega) (by omega)]; simp
      · rw [show one01 true = 1 from rfl, w64 (by omega) (by omega)]; simp
    rw [e]
    rw [List.length_append, List.length_singleton] at ih
    exact ih
theorem sum_eq {α : Type} (P : α → Bool) {L : List α} (hL : L.length < 1000) (hK : 4611686018427387904 ≤ K) : w_sum K (L.map (fun c => one01 (P c)), ()) = some ((L.countP P : Nat) : Int) := by
  simp only [w_sum]
  have := sum_l3 (K := K) P L hL (fun z => some z) L [] K rfl (by omega)
  simp only [List.length_nil, List.countP_nil] at this
  exact this
theorem found_l (a : Int) (v40 : List Int) (code : Int) (l : List Int) (hl : l.length < 4611686018427387904) (kx : List Int → Int → Bool → Option R) : ∀ (r p : List Int) (k : Nat) (f : Bool), l = p ++ r → r.length < k →
    w_FnDomains_l54 K k a v40 l code f (p.length : Int) kx = kx v40 code (f || r.any fun z => decide (z = a))
  | [], p, k + 1, f, h, _ => by simp only [w_FnDomains_l54]; rw [h, ite_f nlt_len]; simp
  | y :: r, p, k + 1, f, h, hk => by
    have hp : p.length < l.length := by rw [h]; simp
    have hg : l.getD ((p.length : Int)).toNat 0 = y := by rw [Int.toNat_natCast, h, List.getD_eq_getElem?_getD, List.getElem?_append_right (Nat.le_refl _)]; simp
    have ih := fun f => found_l a v40 code l hl kx r (p ++ [y]) k f (by rw [h, mid_app]) (by simp at hk; omega)
    simp only [snoc_len] at ih
    simp only [w_FnDomains_l54]
    rw [ite_t (decide_eq_true (by omega)), w64s (by omega), ih, ite_t (bnds_n hp), hg, ih]
    cases f
    · rw [if_neg (by decide)]; simp
    · rw [if_pos rfl]; simp
theorem sol_any {x : DX} (hx : okX x = true) {a : Int} (h0 : 0 ≤ a) (h1 : a ≤ ((2 ^ x.1.toNat : Nat) : Int) - 1) : ((solX x).any fun z => decide (z = a)) = satX x a.toNat := by
  rw [Bool.eq_iff_iff, List.any_eq_true]
  constructor
  · rintro ⟨z, hz, he⟩
    have he := of_decide_eq_true he
    subst he
    obtain ⟨b, hb, rfl⟩ := List.mem_map.1 hz
    rw [Int.toNat_natCast]; exact (List.mem_filter.1 hb).2
  · intro h
    exact ⟨a, List.mem_map.2 ⟨a.toNat, List.mem_filter.2 ⟨List.mem_range.2 (by omega), h⟩, by omega⟩, decide_eq_true rfl⟩
theorem dom_50 {x : DX} {a : Int} (hx : smallX x) (kn : Option R) (kr : Bool → Option R) : w_FnDomains_j50 BK BK x a (satBy x a).1 (satBy x a).2.1 kn kr = kr true := by
  simp only [w_FnDomains_j50]
  by_cases h : (satBy x a).2.1 = 0
  · have h1 : okX x = true := by
      cases hc : okX x
      · rw [satBy, if_neg (by rw [hc]; decide)] at h; simp at h
      · rfl
    have h2 : 0 ≤ a ∧ a ≤ ((2 ^ x.1.toNat : Nat) : Int) - 1 := by
      by_cases hc : 0 ≤ a ∧ a ≤ ((2 ^ x.1.toNat : Nat) : Int) - 1
      · exact hc
      · rw [satBy, if_pos h1, if_neg hc] at h; simp at h
    have e : satBy x a = (x.2.1.map fun c => one01 (satC c a.toNat), 0, ()) := by rw [satBy, if_pos h1, if_pos h2]
    have hl := (okX_h h1).2.2.1
    have hsl := solX_len x h1
    rw [ite_t (decide_eq_true h), i_SolutionsOf_eq (smallX_sh hx) (Nat.le_refl _), some_bind', if_pos h1, e]
    have := found_l (K := BK) (R := R) a (x.2.1.map fun c => one01 (satC c a.toNat)) 0 (solX x) (by omega) (fun z101 z102 z103 =>
      (if (!decide (z102 = (0 : Int))) = true then
      kr false
      else
      (w_sum BK (z101, ())).bind fun y104 =>
      (if (!(z103 == (decide (y104 = (z101.length : Int))))) = true then
      kr false
      else
      kr true))) (solX x) [] BK false rfl (by have : BK = 9223372036854775808 := rfl; omega)
    simp only [List.length_nil] at this
    rw [show ((0 : Nat) : Int) = 0 from rfl] at this
    simp only at this ⊢
    rw [this, sol_any h1 h2.1 h2.2, ite_f (by rfl), sum_eq (fun c => satC c a.toNat) (by omega) hBK, some_bind']
    have e3 : decide (((x.2.1.countP fun c => satC c a.toNat : Nat) : Int) = ((x.2.1.map fun c => one01 (satC c a.toNat)).length : Int)) = satX x a.toNat := by
      rw [List.length_map, Bool.eq_iff_iff, decide_eq_true_eq, satX, List.all_eq_true]
      constructor
      · intro h
        exact List.countP_eq_length.1 (by omega)
      · intro h
        rw [List.countP_eq_length.2 h]
    rw [e3, Bool.false_or, ite_f (by simp)]
  · rw [ite_f (decide_eq_false h)]
theorem dom_45 {code : List Int} (hc : okCode code) (kn : Option R) (kr : Bool → Option R) : w_FnDomains_j45 BK BK code kn kr = kr true := by
  simp only [w_FnDomains_j45]
  obtain ⟨⟨⟨x, a, u⟩, u2⟩, e, hx⟩ := DrawSatisfied_ok hc named_s hBK
  have hx : smallX x := hx
  have hl : (satBy x a).1.length < 4611686018427387904 := by
    have := hx.1
    unfold satBy
    split
    · split
      · simp; omega
      · decide
    · decide
  simp only [e, some_bind', i_SatisfiedBy_eq (smallX_sh hx) (Nat.le_refl _), s_SatisfiedBy_eq (smallX_sh hx) (Nat.le_refl _), w_likeInts_refl hl hBK, decide_true, Bool.not_true, Bool.false_eq_true, if_false, dom_50 hx]
theorem dom_40 {code : List Int} (hc : okCode code) (kn : Option R) (kr : Bool → Option R) : w_FnDomains_j40 BK BK code kn kr = kr true := by
  simp only [w_FnDomains_j40]
  obtain ⟨⟨⟨x, u⟩, u2⟩, e, hx⟩ := DrawForced_ok hc named_s hBK
  have hx : smallX x := hx
  have hl : (forcedX x).1.length < 4611686018427387904 := by have := forcedX_len (x := x); omega
  simp only [e, some_bind', i_Forced_eq (smallX_sh hx) (Nat.le_refl _), s_Forced_eq (smallX_sh hx) (Nat.le_refl _), w_likeInts_refl hl hBK, decide_true, Bool.not_true, Bool.false_eq_true, if_false, dom_45 hc]
theorem dom_33 {code : List Int} (hc : okCode code) {x : DX} {v b : Int} (hx : smallX x) (kn : Option R) (kr : Bool → Option R) : w_FnDomains_j33 BK BK code x v b (fixX x v b).1.1 (fixX x v b).1.2.1 (fixX x v b).2.1 kn kr = kr true := by
  simp only [w_FnDomains_j33, dom_40 hc]
  by_cases h : (fixX x v b).2.1 = 0
  · obtain ⟨h1, h2, h3, h4, h5, h6⟩ := fixX_ok h
    have hb' : (1 - b = 0 ∨ 1 - b = 1) := by omega
    have e1 := fixX_mk h1 h2 h3 hb' h5
    have o1 := fix_okX h1 h2 h3 h4 h5
    have o2 := fix_okX h1 h2 h3 hb' h5
    have s1 := okX_sh o1
    have s2 := okX_sh o2
    have l1 := solX_len _ o1
    have l2 := solX_len _ o2
    have hcnt := fix_count (x := x) (v := v) h4
    rw [ite_t (decide_eq_true h), w64 (x := 1 - b) (by omega) (by omega), i_FixVar_eq (smallX_sh hx) (Nat.le_refl _), some_bind', e1, h6]
    simp only
    rw [i_CountSolutions_eq s1 (Nat.le_refl _), some_bind', i_CountSolutions_eq s2 (Nat.le_refl _), some_bind', i_CountSolutions_eq (smallX_sh hx) (Nat.le_refl _), some_bind', if_pos o1, if_pos o2, if_pos h1]
    simp only [decide_true, Bool.not_true, Bool.false_eq_true, if_false]
    rw [w64 (by omega) (by omega), ite_f (by simp; omega)]
  · rw [ite_f (decide_eq_false h)]
theorem fixX_small {x : DX} {v b : Int} (hx : smallX x) : smallX (fixX x v b).1 := by
  by_cases h : (fixX x v b).2.1 = 0
  · obtain ⟨h1, h2, h3, h4, h5, h6⟩ := fixX_ok h
    rw [h6]
    refine ⟨by simp; omega, fun c hc => ?_⟩
    rcases List.mem_append.1 hc with h | h
    · exact hx.2 c h
    · simp only [List.mem_singleton] at h; subst h; simp
  · have : (fixX x v b).1 = (0, [], ()) := by
      unfold fixX at h ⊢
      split
      · split
        · split
          · split
            · rfl
            · simp_all
          · rfl
        · rfl
      · rfl
    rw [this]; exact ⟨by decide, fun c hc => by cases hc⟩
theorem dom_28 {code : List Int} (hc : okCode code) (kn : Option R) (kr : Bool → Option R) : w_FnDomains_j28 BK BK code kn kr = kr true := by
  simp only [w_FnDomains_j28]
  obtain ⟨⟨⟨x, v, b, u⟩, u2⟩, e, hx⟩ := DrawFixVar_ok hc named_s hBK
  have hx : smallX x := hx
  have h5 : w_instances5 BK (((fixX x v b).1.1, (fixX x v b).1.2.1, ()), ((fixX x v b).1.1, (fixX x v b).1.2.1, ()), ()) = some true := inst5_refl (x := (fixX x v b).1) (fixX_small hx) hBK
  simp only [e, some_bind', i_FixVar_eq (smallX_sh hx) (Nat.le_refl _), s_FixVar_eq (smallX_sh hx) (Nat.le_refl _), h5, decide_true, Bool.not_true, Bool.false_eq_true, if_false, dom_33 hc hx]
def keptB (nar : List Int) (one : Int) (a v : Nat) : Bool := decide (one = 0) && alw (nar.getD v 0) a v
theorem in_l {v0 : List Int} {v3 : DX} {d nar : List Int} {one : Int} {l : List Int} {j a : Nat} (hd : d.length ≤ 100) (hn : one = 0 → nar.length = d.length) (hj : j < l.length) (ha : l.getD j 0 = (a : Int)) (ha2 : a < 9223372036854775808) (kx : List Int → DX → List Int → List Int → Int → List Int → Int → Bool → Bool → Option R) :
    ∀ (m i k : Nat) (b1 b2 : Bool), i + m = d.length → m < k →
    w_FnDomains_l17 K k v0 v3 d nar one l (j : Int) b1 b2 (i : Int) kx = kx v0 v3 d nar one l (j : Int) (b1 && allF (fun v => alw (d.getD v 0) a v) i m) (b2 && allF (keptB nar one a) i m)
  | 0, i, k + 1, b1, b2, e, _ => by simp only [w_FnDomains_l17]; rw [ite_f (decide_eq_false (by omega))]; simp [allF]
  | m + 1, i, k + 1, b1, b2, e, hk => by
    have ih := fun b1 b2 => in_l (v0 := v0) (v3 := v3) hd hn hj ha ha2 kx m (i + 1) k b1 b2 (by omega) (by omega)
    have h21 : ∀ c1 c2 : Bool, w_FnDomains_j21 K k v0 v3 d nar one l (j : Int) c1 c2 (i : Int) (bt a i) (fun z8 z9 z10 z11 z12 z13 z14 z15 z16 z17 =>
        w_FnDomains_j18 K k z8 z9 z10 z11 z12 z13 z14 z15 z16 z17 (fun z18 z19 z20 z21 z22 z23 z24 z25 z26 z27 =>
        w_FnDomains_l17 K k z18 z19 z20 z21 z22 z23 z24 z25 z26 z27 kx)) = w_FnDomains_l17 K k v0 v3 d nar one l (j : Int) c1 (c2 && keptB nar one a i) ((i + 1 : Nat) : Int) kx := fun c1 c2 => by
      have hni : nar.getD ((i : Int)).toNat 0 = nar.getD i 0 := rfl
      simp only [w_FnDomains_j21, w_FnDomains_j18, w64s (show i + 1 < 9223372036854775808 by omega), keptB, alw]
      rw [hni]
      cases c2
      · rw [if_neg (by decide), Bool.false_and]
      · rw [if_pos rfl, Bool.true_and]
        by_cases ho : one = 0
        · have hb : bnds (i : Int) (nar.length : Int) = true := bnds_n (by rw [hn ho]; omega)
          rw [ite_t (decide_eq_true ho), ite_t hb, ite_t hb, decide_eq_true ho, Bool.true_and]
          by_cases h2 : nar.getD i 0 = 2
          · rw [ite_t (decide_eq_true h2), decide_eq_true h2, Bool.true_or]
          · rw [ite_f (decide_eq_false h2), decide_eq_false h2, Bool.false_or]
        · rw [ite_f (decide_eq_false ho), decide_eq_false ho, Bool.false_and]
    have hjn : l.getD ((j : Int)).toNat 0 = (a : Int) := ha
    have hdi : d.getD ((i : Int)).toNat 0 = d.getD i 0 := rfl
    simp only [w_FnDomains_l17]
    have hb : bnds (i : Int) (d.length : Int) = true := bnds_n (by omega)
    rw [ite_t (decide_eq_true (by omega)), ite_t (bnds_n hj), ite_t (u64_dec _), u64n (by omega), hjn, hdi, bitI_bt i ha2, h21, h21, h21, ite_t hb, ite_t hb, ih, ih, ih, allF, allF]
    generalize allF (fun v => alw (d.getD v 0) a v) (i + 1) m = A
    generalize allF (keptB nar one a) (i + 1) m = B
    simp only [alw]
    cases b1
    · rw [if_neg (by decide)]; simp [Bool.and_assoc]
    · rw [if_pos rfl]
      by_cases h2 : d.getD i 0 = 2
      · rw [ite_t (decide_eq_true h2), decide_eq_true h2]; simp [Bool.and_assoc]
      · rw [ite_f (decide_eq_false h2), decide_eq_false h2]; simp [Bool.and_assoc]
theorem domsols_l {v0 : List Int} {v3 : DX} {d nar : List Int} {one : Int} {L : List Nat} (hd : d.length ≤ 100) (hn : one = 0 → nar.length = d.length) (hL : L.length ≤ 256) (hL2 : ∀ a ∈ L, a < 256) (hk : ∀ a ∈ L, agr d a → one = 0 ∧ agr nar a) (kx : List Int → DX → List Int → Int → Option R) (kr : Bool → Option R) :
    ∀ (r p : List Nat) (k : Nat), L = p ++ r → 1000 + r.length < k →
    w_FnDomains_l13 K k v0 v3 d nar one (L.map fun (a : Nat) => (a : Int)) (p.length : Int) kx kr = kx v0 v3 nar one
  | [], p, k + 1, h, _ => by simp only [w_FnDomains_l13]; rw [ite_f (decide_eq_false (by rw [h]; simp))]
  | a :: r, p, k + 1, h, hkk => by
    have hp : p.length < L.length := by rw [h]; simp
    have ha := hL2 a (by rw [h]; simp)
    have hg : (L.map fun (a : Nat) => (a : Int)).getD p.length 0 = (a : Int) := by
      rw [List.getD_eq_getElem?_getD, List.getElem?_map, h, List.getElem?_append_right (Nat.le_refl _)]; simp
    have ih := domsols_l (v0 := v0) (v3 := v3) hd hn hL hL2 hk kx kr r (p ++ [a]) k (by rw [h, mid_app]) (by simp at hkk; omega)
    simp only [snoc_len] at ih
    have hin := in_l (K := K) (R := R) (v0 := v0) (v3 := v3) (nar := nar) (one := one) (l := L.map fun (a : Nat) => (a : Int)) (j := p.length) hd hn (by simpa using hp) hg (by omega) (fun z69 z70 z71 z72 z73 z74 z75 z76 z77 =>
      (if z76 = true then
      (if (!z77) = true then
      kr false
      else
      w_FnDomains_l13 K k z69 z70 z71 z72 z73 z74 (IntKind.i64.wrap (z75 + (1 : Int))) kx kr)
      else
      w_FnDomains_l13 K k z69 z70 z71 z72 z73 z74 (IntKind.i64.wrap (z75 + (1 : Int))) kx kr)) d.length 0 k true true (by omega) (by simp at hkk; omega)
    rw [show ((0 : Nat) : Int) = 0 from rfl] at hin
    simp only [w_FnDomains_l13]
    rw [ite_t (decide_eq_true (by simp; omega)), hin]
    simp only [Bool.true_and, w64s (show p.length + 1 < 9223372036854775808 by omega), ih]
    cases hi : allF (fun v => alw (d.getD v 0) a v) 0 d.length
    · rw [if_neg (by decide)]
    · rw [if_pos rfl]
      have hag : agr d a := fun v hv => allF_iff.1 hi v (by omega) (by omega)
      obtain ⟨h1, h2⟩ := hk a (by rw [h]; simp) hag
      have hkp : allF (keptB nar one a) 0 d.length = true := allF_iff.2 fun v _ hv => by
        rw [keptB, decide_eq_true h1, Bool.true_and]
        exact h2 v (by rw [hn h1]; omega)
      rw [hkp]; rfl
theorem dom_24 {code : List Int} (hc : okCode code) {x : DX} {d : List Int} (hx : smallX x) (hd : d.length ≤ 100) (kn : Option R) (kr : Bool → Option R) : w_FnDomains_j24 BK BK code x (narD x d).1 (narD x d).2.1 kn kr = kr true := by
  simp only [w_FnDomains_j24, dom_28 hc]
  by_cases h : (narD x d).2.1 = 0
  · obtain ⟨h1, h2, h3, h4⟩ := narD_again h
    rw [ite_t (decide_eq_true h), i_NarrowDomains_eq (smallX_sh hx) (by omega) (Nat.le_refl _), some_bind', h1]
    simp only
    rw [ite_f (by rfl), w_likeInts_refl (by omega) hBK, some_bind', ite_f (by rfl)]
  · rw [ite_f (decide_eq_false h)]
theorem dom_8 {code : List Int} (hc : okCode code) {x : DX} {d : List Int} (hx : smallX x) (hd : d.length ≤ 100) (kn : Option R) (kr : Bool → Option R) : w_FnDomains_j8 BK BK code x d (narD x d).1 (narD x d).2.1 kn kr = kr true := by
  simp only [w_FnDomains_j8]
  have go : ((narD x d).2.1 = 0 ∨ (narD x d).2.1 = 4) → (i_SolutionsOf BK (x, ())).bind (fun y6 =>
      (if (!decide (y6.2.1 = (0 : Int))) = true then
      kr false
      else
      w_FnDomains_l13 BK BK code x d (narD x d).1 (narD x d).2.1 y6.1 (0 : Int) (fun z78 z79 z80 z81 =>
      w_FnDomains_j24 BK BK z78 z79 z80 z81 none (fun z112 =>
      kr z112)) (fun z113 =>
      kr z113))) = kr true := fun h => by
    have hok : okX x = true := by
      cases hx : okX x
      · rw [narD, if_neg (by rw [hx]; decide)] at h; simp at h
      · rfl
    have hn : (narD x d).2.1 = 0 → (narD x d).1.length = d.length := fun h0 => (narD_again h0).2.2.1
    have hs := domsols_l (K := BK) (R := R) (v0 := code) (v3 := x) hd hn (solN_len hok) (solN_lt hok) (fun a ha hag => narD_agr h (List.mem_filter.1 ha).2 hag) (fun z78 z79 z80 z81 => w_FnDomains_j24 BK BK z78 z79 z80 z81 none (fun z112 => kr z112)) (fun z113 => kr z113) (solN x) [] BK rfl (by have : BK = 9223372036854775808 := rfl; have := solN_len hok; omega)
    simp only [List.length_nil] at hs
    rw [show ((0 : Nat) : Int) = 0 from rfl] at hs
    rw [i_SolutionsOf_eq (smallX_sh hx) (Nat.le_refl _), some_bind', if_pos hok, ite_f (by rfl), solX_map]
    simp only
    rw [hs]
    exact dom_24 hc hx hd none _
  by_cases h0 : (narD x d).2.1 = 0
  · rw [ite_t (decide_eq_true h0)]; exact go (.inl h0)
  · rw [ite_f (decide_eq_false h0)]
    by_cases h4 : (narD x d).2.1 = 4
    · rw [ite_t (decide_eq_true h4)]; exact go (.inr h4)
    · rw [ite_f (decide_eq_false h4)]; exact dom_24 hc hx hd none _
theorem domnarD_len {x : DX} {d : List Int} (hd : d.length ≤ 100) : (narD x d).1.length ≤ 100 := by
  unfold narD
  split
  · rename_i hx
    split
    · rename_i h
      simp only [Bool.and_eq_true, decide_eq_true_eq] at h
      exact Nat.le_trans (narX_len x.2.1 d.length (okX_vars hx h.1) 9 d (dmB_is h.2) rfl) hd
    · simp
  · simp
theorem law_FnDomains {code : List Int} (hb : ∀ b ∈ code, 0 ≤ b ∧ b < 256) : w_FnDomains BK (code, ()) = some true := by
  simp only [w_FnDomains, w_big, some_bind']
  by_cases hl : (code.length : Int) > 4096
  · rw [ite_t (decide_eq_true hl)]
  · rw [ite_f (decide_eq_false hl)]
    have hc : okCode code := ⟨by omega, hb⟩
    obtain ⟨⟨⟨x, d, u⟩, u2⟩, e, hx, hd⟩ := DrawNarrow_ok hc named_s hBK
    have hx : smallX x := hx
    have hd : d.length ≤ 100 := hd
    have hll := domnarD_len (x := x) hd
    simp only [e, some_bind', i_NarrowDomains_eq (smallX_sh hx) (show d.length ≤ 1099511627776 by omega) (Nat.le_refl _), s_NarrowDomains_eq (smallX_sh hx) (show d.length ≤ 1099511627776 by omega) (Nat.le_refl _)]
    rw [ite_f (by simp), w_likeInts_refl (by omega) hBK, some_bind', ite_f (by rfl)]
    exact dom_8 hc hx hd none _
end Go.Proofs.Ytjbpdhfoeomabaa.E
