/-
  Plain lemmas: tuples that a clause's domains leave open. Conditions: those of each theorem.
-/
import Derived.Test.YtieiajeggahipaaCFnExactNarrowDomains5
namespace Go.Proofs.Ytieiajeggahipaa.E
open Go Go.Proofs
set_option linter.unusedVariables false
set_option linter.unusedSimpArgs false
variable {K : Nat} {R : Type}
/-! all, or any, of some numbers from one on -/
def allF (P : Nat → Bool) : Nat → Nat → Bool
  | _, 0 => true
  | j, m + 1 => P j && allF P (j + 1) m
def anyF (P : Nat → Bool) : Nat → Nat → Bool
  | _, 0 => false
  | j, m + 1 => P j || anyF P (j + 1) m
theorem allF_iff {P : Nat → Bool} : ∀ {m j : Nat}, allF P j m = true ↔ ∀ i, j ≤ i → i < j + m → P i = true
  | 0, j => by simp only [allF, true_iff]; intro i h1 h2; omega
  | m + 1, j => by
    simp only [allF, Bool.and_eq_true, allF_iff (m := m) (j := j + 1)]
    constructor
    · rintro ⟨h1, h2⟩ i h3 h4
      by_cases e : i = j
      · rw [e]; exact h1
      · exact h2 i (by omega) (by omega)
    · intro h
      exact ⟨h j (by omega) (by omega), fun i h3 h4 => h i (by omega) (by omega)⟩
theorem anyF_iff {P : Nat → Bool} : ∀ {m j : Nat}, anyF P j m = true ↔ ∃ i, j ≤ i ∧ i < j + m ∧ P i = true
  | 0, j => by simp only [anyF]; constructor; (intro h; cases h); (rintro ⟨i, h1, h2, _⟩; omega)
  | m + 1, j => by
    simp only [anyF, Bool.or_eq_true, anyF_iff (m := m) (j := j + 1)]
    constructor
    · rintro (h | ⟨i, h1, h2, h3⟩)
      · exact ⟨j, by omega, by omega, h⟩
      · exact ⟨i, by omega, by omega, h3⟩
    · rintro ⟨i, h1, h2, h3⟩
      by_cases e : i = j
      · left; rw [← e]; exact h3
      · right; exact ⟨i, by omega, by omega, h3⟩
theorem allF_congr {P Q : Nat → Bool} {j m : Nat} (h : ∀ i, j ≤ i → i < j + m → P i = Q i) : allF P j m = allF Q j m := by
  rw [Bool.eq_iff_iff, allF_iff, allF_iff]
  exact ⟨fun g i h1 h2 => by rw [← h i h1 h2]; exact g i h1 h2, fun g i h1 h2 => by rw [h i h1 h2]; exact g i h1 h2⟩
theorem anyF_congr {P Q : Nat → Bool} {j m : Nat} (h : ∀ i, j ≤ i → i < j + m → P i = Q i) : anyF P j m = anyF Q j m := by
  rw [Bool.eq_iff_iff, anyF_iff, anyF_iff]
  exact ⟨fun ⟨i, h1, h2, h3⟩ => ⟨i, h1, h2, by rw [← h i h1 h2]; exact h3⟩, fun ⟨i, h1, h2, h3⟩ => ⟨i, h1, h2, by rw [h i h1 h2]; exact h3⟩⟩
theorem any_sel {P Q : Nat → Bool} {n : Nat} : ((sel P n).any fun z => Q z.toNat) = anyF (fun t => P t && Q t) 0 n := by
  rw [Bool.eq_iff_iff, anyF_iff, List.any_eq_true]
  simp only [sel, List.mem_map, List.mem_filter, List.mem_range]
  constructor
  · rintro ⟨z, ⟨a, ⟨h1, h2⟩, rfl⟩, h3⟩
    exact ⟨a, by omega, by omega, by rw [h2]; simpa using h3⟩
  · rintro ⟨a, h1, h2, h3⟩
    rw [Bool.and_eq_true] at h3
    exact ⟨(a : Int), ⟨a, ⟨by omega, h3.1⟩, rfl⟩, by simpa using h3.2⟩
/-! tuples -/
theorem tuples_l (n : Int) (b : Nat) (hb : b < 9223372036854775808) (N : Nat) (hN : N ≤ 65536) (kx : List Int → Option R) : ∀ (m i k : Nat), i + m = N → m < k →
    i_Relation_tuples_l3 K k (n, (b : Int), ()) (sel b.testBit i) (N : Int) (i : Int) kx = kx (sel b.testBit N)
  | 0, i, k + 1, e, _ => by
    obtain rfl : i = N := by omega
    simp only [i_Relation_tuples_l3]; rw [ite_f (by simp)]
  | m + 1, i, k + 1, e, hk => by
    have hl := sel_len b.testBit i
    simp only [i_Relation_tuples_l3]
    have ih := tuples_l n b hb N hN kx m (i + 1) k (by omega) (by omega)
    rw [sel_succ] at ih
    rw [ite_t (decide_eq_true (by omega)), i_Relation_has_eq i hb, some_bind', w64s (by omega), ite_t (lim_len (by omega))]
    cases hs : b.testBit i
    · rw [hs, if_neg (by decide)] at ih
      rw [if_neg (by decide)]; exact ih
    · rw [hs, if_pos rfl] at ih
      rw [if_pos rfl]; exact ih
theorem i_tuples_eq {n b : Nat} (hn : n ≤ 4) (hb : b < 9223372036854775808) (hK : 4611686018427387904 ≤ K) : i_Relation_tuples K (((n : Int), (b : Int), ()), ()) = some (sel b.testBit (2 ^ n)) := by
  have hp := pw4 hn
  simp only [i_Relation_tuples, i_rowsOf_eq (show n < 63 by omega), some_bind']
  exact tuples_l (K := K) (n : Int) b hb (2 ^ n) (by omega) (fun z => some z) (2 ^ n) 0 K (by omega) (by omega)
/-! first places -/
theorem index_l (v : Int) (l : List Int) (hl : l.length < 4611686018427387904) (kx : Option R) (kr : Int → Option R) : ∀ (r p : List Int) (k : Nat), l = p ++ r → r.length < k →
    slices_Index_int64_l2 K k l v (l.length : Int) (p.length : Int) kx kr = match r.findIdx? (fun z => decide (v = z)) with | some j => kr ((p.length + j : Nat) : Int) | none => kx
  | [], p, k + 1, h, _ => by subst h; simp only [slices_Index_int64_l2]; rw [ite_f nlt_len]; rfl
  | y :: r, p, k + 1, h, hk => by
    subst h
    simp only [slices_Index_int64_l2]
    rw [ite_t lt_len, ite_t bnds_mid, getD_midI, List.findIdx?_cons]
    cases hg : decide (v = y)
    · rw [if_neg (by decide), if_neg (by decide), next_i hl, index_l v _ hl kx kr r (p ++ [y]) k (mid_app p r y) (by simp at hk; omega)]
      cases hr : r.findIdx? (fun z => decide (v = z))
      · rfl
      · simp only [Option.map_some]; congr 1; simp; omega
    · rw [if_pos rfl, if_pos rfl]; rfl
theorem slices_Index_eq {v : Int} {l : List Int} {j : Nat} (hl : l.length < 4611686018427387904) (hK : 4611686018427387904 ≤ K) (h : l.findIdx? (fun z => decide (v = z)) = some j) : slices_Index_int64 K (l, v, ()) = some (j : Int) := by
  simp only [slices_Index_int64]
  have := index_l (K := K) v l hl (some (-1 : Int)) (fun z => some z) l [] K rfl (by omega)
  simp only [List.length_nil, Nat.zero_add] at this
  rw [show ((0 : Nat) : Int) = 0 from rfl] at this
  rw [this, h]
/-- The first place at which the number stands that stands at place i. -/
def fstP (vs : List Int) (i : Nat) : Nat := (vs.findIdx? fun z => decide (vs.getD i 0 = z)).getD 0
theorem fstP_h {vs : List Int} {i : Nat} (h : i < vs.length) : vs.findIdx? (fun z => decide (vs.getD i 0 = z)) = some (fstP vs i) ∧ fstP vs i ≤ i ∧ vs.getD (fstP vs i) 0 = vs.getD i 0 := by
  have hi : vs.getD i 0 = vs[i] := by simp [List.getD, List.getElem?_eq_getElem h]
  cases hf : vs.findIdx? (fun z => decide (vs.getD i 0 = z)) with
  | none =>
    rw [List.findIdx?_eq_none_iff] at hf
    have := hf vs[i] (List.getElem_mem h)
    rw [hi] at this; simp at this
  | some j =>
    have e : fstP vs i = j := by unfold fstP; rw [hf]; rfl
    rw [e]
    obtain ⟨h1, h2, h3⟩ := List.findIdx?_eq_some_iff_getElem.1 hf
    refine ⟨rfl, ?_, ?_⟩
    · apply Nat.le_of_not_lt
      intro hlt
      have := h3 i hlt
      rw [hi] at this; simp at this
    · simp only [List.getD, List.getElem?_eq_getElem h1, Option.getD_some]
      simpa [List.getD] using (of_decide_eq_true h2).symm
def alw (d : Int) (t i : Nat) : Bool := decide (d = 2) || decide (d = bt t i)
def opI (vs d : List Int) (t i : Nat) : Bool := alw (d.getD (vs.getD i 0).toNat 0) t i && (t.testBit (fstP vs i) == t.testBit i)
theorem bt_eqd (t i j : Nat) : (!decide (bt t i = bt t j)) = !(t.testBit i == t.testBit j) := by
  unfold bt; cases t.testBit i <;> cases t.testBit j <;> rfl
theorem open_l (t : Nat) (c : DC) (d : List Int) (ht : t < 9223372036854775808) (hK : 4611686018427387904 ≤ K) (hl : c.2.1.length ≤ 4) (hv : ∀ v ∈ c.2.1, 0 ≤ v ∧ v < d.length) (kx : Option R) (kr : Bool → Option R) : ∀ (m i k : Nat), i + m = c.2.1.length → m < k →
    i_Clause_isOpen_l2 K k (t : Int) d c c.2.1 (c.2.1.length : Int) (i : Int) kx kr = if allF (opI c.2.1 d t) i m = true then kx else kr false
  | 0, i, k + 1, e, _ => by
    simp only [i_Clause_isOpen_l2]; rw [ite_f (decide_eq_false (by omega))]; rfl
  | m + 1, i, k + 1, e, hk => by
    have hi : i < c.2.1.length := by omega
    have hm : c.2.1.getD i 0 ∈ c.2.1 := by simp [List.getD, List.getElem?_eq_getElem hi]
    obtain ⟨hv0, hv1⟩ := hv _ hm
    obtain ⟨f1, f2, f3⟩ := fstP_h hi
    simp only [i_Clause_isOpen_l2]
    have ih := open_l t c d ht hK hl hv kx kr m (i + 1) k (by omega) (by omega)
    rw [ite_t (decide_eq_true (by omega)), ite_t (bnds_n hi), Int.toNat_natCast, slices_Index_eq (by omega) hK f1, some_bind', ite_t (bnds_t hv0 hv1), ite_t (bnds_t hv0 hv1), i_bit_eq i ht, some_bind', i_bit_eq (fstP c.2.1 i) ht, some_bind', some_bind', bt_eqd, w64s (by omega), ih]
    rw [allF, opI, alw]
    generalize d.getD (c.2.1.getD i 0).toNat 0 = dv
    generalize allF (opI c.2.1 d t) (i + 1) m = A
    cases (t.testBit (fstP c.2.1 i) == t.testBit i) <;> by_cases h2 : dv = 2 <;> by_cases h3 : dv = bt t i <;> cases A <;> simp [h2, h3]
def opn (vs d : List Int) (t : Nat) : Bool := allF (opI vs d t) 0 vs.length
theorem i_isOpen_eq {t : Nat} {c : DC} {d : List Int} (ht : t < 9223372036854775808) (hK : 4611686018427387904 ≤ K) (hl : c.2.1.length ≤ 4) (hv : ∀ v ∈ c.2.1, 0 ≤ v ∧ v < d.length) : i_Clause_isOpen K (c, (t : Int), d, ()) = some (opn c.2.1 d t) := by
  simp only [i_Clause_isOpen]
  have := open_l (K := K) t c d ht hK hl hv (some true) (fun z => some z) c.2.1.length 0 K (by omega) (by omega)
  rw [show ((0 : Nat) : Int) = 0 from rfl] at this
  rw [this, opn]; cases allF (opI c.2.1 d t) 0 c.2.1.length <;> rfl
variable {K : Nat} {R : Type}
/-! the reference's way to ask for open tuples -/
def opK (vs d : List Int) (t k : Nat) : Bool := alw (d.getD (vs.getD k 0).toNat 0) t k && allF (fun j => !decide (vs.getD j 0 = vs.getD k 0) || (t.testBit j == t.testBit k)) 0 k
theorem fstP_same {vs : List Int} {i j : Nat} (h : vs.getD i 0 = vs.getD j 0) : fstP vs i = fstP vs j := by unfold fstP; rw [h]
theorem opn_eq (vs d : List Int) (t : Nat) : allF (opK vs d t) 0 vs.length = opn vs d t := by
  rw [opn, Bool.eq_iff_iff, allF_iff, allF_iff]
  constructor
  · intro h i _ hi
    have hi : i < vs.length := by omega
    have h1 := h i (by omega) (by omega)
    simp only [opK, Bool.and_eq_true] at h1
    simp only [opI, Bool.and_eq_true]
    refine ⟨h1.1, ?_⟩
    obtain ⟨_, f2, f3⟩ := fstP_h hi
    by_cases e : fstP vs i = i
    · rw [e]; simp
    · have := allF_iff.1 h1.2 (fstP vs i) (by omega) (by omega)
      rw [f3] at this
      simpa using this
  · intro h k _ hk
    have h1 := h k (by omega) (by omega)
    simp only [opI, Bool.and_eq_true] at h1
    simp only [opK, Bool.and_eq_true]
    refine ⟨h1.1, allF_iff.2 fun j _ hj => ?_⟩
    by_cases e : vs.getD j 0 = vs.getD k 0
    · have h2 := h j (by omega) (by omega)
      simp only [opI, Bool.and_eq_true, beq_iff_eq] at h1 h2
      rw [fstP_same e] at h2
      rw [← h1.2, ← h2.2]; simp
    · rw [decide_eq_false e]; rfl
theorem bt_beq (t j k : Nat) : (!decide (bt t j = bt t k)) = !(t.testBit j == t.testBit k) := bt_eqd t j k
theorem supp_l11 (d : List Int) (pl val : Int) (c : DC) (t kk : Nat) (ht : t < 9223372036854775808) (hl : c.2.1.length ≤ 4) (hkk : kk < c.2.1.length) (kx : List Int → Int → Int → DC → Int → Bool → Int → Option R) : ∀ (m j k : Nat) (good : Bool), j + m = kk → m < k →
    s_l09Supported_l11 K k d pl val c (t : Int) good (kk : Int) (bt t kk) (j : Int) kx = kx d pl val c (t : Int) (good && allF (fun j => !decide (c.2.1.getD j 0 = c.2.1.getD kk 0) || (t.testBit j == t.testBit kk)) j m) (kk : Int)
  | 0, j, k + 1, good, e, _ => by
    simp only [s_l09Supported_l11]; rw [ite_f (decide_eq_false (by omega))]; simp [allF]
  | m + 1, j, k + 1, good, e, hk => by
    simp only [s_l09Supported_l11, s_l09Supported_j12]
    have ih := fun g => supp_l11 d pl val c t kk ht hl hkk kx m (j + 1) k g (by omega) (by omega)
    rw [ite_t (decide_eq_true (by omega)), ite_t (bnds_n (by omega)), ite_t (bnds_n hkk), Int.toNat_natCast, Int.toNat_natCast, ite_t (u64_dec _), u64n (by omega), bitI_bt j ht, bt_beq, w64s (by omega), ih, ih, allF]
    by_cases h : c.2.1.getD j 0 = c.2.1.getD kk 0
    · rw [if_pos (decide_eq_true h), decide_eq_true h]
      cases (t.testBit j == t.testBit kk) <;> simp
    · rw [if_neg (by simpa using h), decide_eq_false h]; simp
theorem s_l09Allows_eq (a b : Int) : s_l09Allows K (a, b, ()) = some (decide (a = 2) || decide (a = b)) := by
  simp only [s_l09Allows]
  by_cases h : a = 2
  · rw [if_pos (decide_eq_true h), decide_eq_true h]; rfl
  · rw [if_neg (by simpa using h), decide_eq_false h]; rfl
theorem supp_l6 (d : List Int) (pl val : Int) (c : DC) (t : Nat) (ht : t < 9223372036854775808) (hl : c.2.1.length ≤ 4) (hv : ∀ v ∈ c.2.1, 0 ≤ v ∧ v < d.length) (kx : List Int → Int → Int → DC → Int → Bool → Option R) : ∀ (m kk k : Nat) (good : Bool), kk + m = c.2.1.length → 100 + m < k →
    s_l09Supported_l6 K k d pl val c (t : Int) good (kk : Int) kx = kx d pl val c (t : Int) (good && allF (opK c.2.1 d t) kk m)
  | 0, kk, k + 1, good, e, _ => by
    simp only [s_l09Supported_l6]; rw [ite_f (decide_eq_false (by omega))]; simp [allF]
  | m + 1, kk, k + 1, good, e, hk => by
    have hi : kk < c.2.1.length := by omega
    obtain ⟨hv0, hv1⟩ := hv _ (show c.2.1.getD kk 0 ∈ c.2.1 by simp [List.getD, List.getElem?_eq_getElem hi])
    simp only [s_l09Supported_l6, s_l09Supported_j8]
    rw [ite_t (decide_eq_true (by omega))]
    cases good
    · rw [if_neg (by decide)]; simp
    · rw [if_pos rfl, ite_t (u64_dec _), ite_t (bnds_n hi), Int.toNat_natCast, ite_t (bnds_t hv0 hv1), u64n (by omega), bitI_bt kk ht, s_l09Allows_eq, some_bind']
      have h11 := supp_l11 (K := K) (R := R) d pl val c t kk ht hl hi (fun z35 z36 z37 z38 z39 z40 z41 => s_l09Supported_l6 K k z35 z36 z37 z38 z39 z40 (IntKind.i64.wrap (z41 + 1)) kx) kk 0 k (decide (d.getD (c.2.1.getD kk 0).toNat 0 = 2) || decide (d.getD (c.2.1.getD kk 0).toNat 0 = bt t kk)) (by omega) (by omega)
      rw [show ((0 : Nat) : Int) = 0 from rfl] at h11
      rw [h11, w64s (by omega), supp_l6 d pl val c t ht hl hv kx m (kk + 1) k _ (by omega) (by omega), allF, Bool.true_and, opK, alw]
def supp (vs d : List Int) (bits n k : Nat) (val : Bool) : Bool := anyF (fun t => bits.testBit t && (opn vs d t && (t.testBit k == val))) 0 (2 ^ n)
theorem supp_l2 (d : List Int) (pl : Nat) (val : Bool) (c : DC) (n bits : Nat) (e1 : c.1 = ((n : Int), (bits : Int), ())) (hn : n ≤ 4) (hb : bits < 9223372036854775808) (hpl : pl < 9223372036854775808) (hl : c.2.1.length ≤ 4) (hv : ∀ v ∈ c.2.1, 0 ≤ v ∧ v < d.length) (kx : Option R) (kr : Bool → Option R) :
    ∀ (m t k : Nat), t + m = 2 ^ n → 1000 + m < k →
    s_l09Supported_l2 K k d (pl : Int) (if val = true then 1 else 0) c (t : Int) kx kr = if anyF (fun t => bits.testBit t && (opn c.2.1 d t && (t.testBit pl == val))) t m = true then kr true else kx
  | 0, t, k + 1, e, _ => by
    simp only [s_l09Supported_l2]
    rw [e1]
    simp only [s_l01Rows_eq (show n < 63 by omega), some_bind']
    rw [ite_f (decide_eq_false (by omega))]; rfl
  | m + 1, t, k + 1, e, hk => by
    have hp := pw4 hn
    simp only [s_l09Supported_l2, s_l09Supported_j5]
    have ih := supp_l2 d pl val c n bits e1 hn hb hpl hl hv kx kr m (t + 1) k (by omega) (by omega)
    have h6 := fun good => supp_l6 (K := K) (R := R) d (pl : Int) (if val = true then 1 else 0) c t (by omega) hl hv (fun z49 z50 z51 z52 z53 z54 => if z54 = true then kr true else s_l09Supported_l2 K k z49 z50 z51 z52 (IntKind.i64.wrap (z53 + 1)) kx kr) c.2.1.length 0 k good (by omega) (by omega)
    rw [show ((0 : Nat) : Int) = 0 from rfl] at h6
    rw [show c.1.1 = (n : Int) from by rw [e1], s_l01Rows_eq (show n < 63 by omega), some_bind', ite_t (decide_eq_true (by omega)), show s_l09Has K (c.1, (t : Int), ()) = some (bits.testBit t) from by rw [e1]; exact s_l09Has_eq hb (by omega), some_bind', h6, h6, w64s (by omega), ih, ite_t (u64_dec _), u64n (by omega), bitI_bt pl (by omega), opn_eq, anyF]
    have e2 : decide (bt t pl = if val = true then 1 else 0) = (t.testBit pl == val) := by unfold bt; cases t.testBit pl <;> cases val <;> rfl
    rw [e2]
    cases bits.testBit t <;> cases (t.testBit pl == val) <;> cases opn c.2.1 d t <;> rfl
theorem s_l09Supported_eq {d : List Int} {pl : Nat} {val : Bool} {c : DC} {n bits : Nat} (e1 : c.1 = ((n : Int), (bits : Int), ())) (hn : n ≤ 4) (hb : bits < 9223372036854775808) (hpl : pl < 9223372036854775808) (hl : c.2.1.length ≤ 4) (hv : ∀ v ∈ c.2.1, 0 ≤ v ∧ v < d.length) (hK : 4611686018427387904 ≤ K) :
    s_l09Supported K (c, d, (pl : Int), (if val = true then 1 else 0), ()) = some (supp c.2.1 d bits n pl val) := by
  have hp := pw4 hn
  simp only [s_l09Supported]
  have := supp_l2 (K := K) d pl val c n bits e1 hn hb hpl hl hv (some false) (fun z => some z) (2 ^ n) 0 K (by omega) (by omega)
  rw [show ((0 : Nat) : Int) = 0 from rfl] at this
  rw [this, supp]; cases anyF (fun t => bits.testBit t && (opn c.2.1 d t && (t.testBit pl == val))) 0 (2 ^ n) <;> rfl
/-! one clause's narrowing -/
theorem narrow_l6 (d : List Int) (c : DC) (i : Nat) (v : Int) (x11 : List Int) (x12 x13 : Int) (hK : 4611686018427387904 ≤ K) (hl : c.2.1.length ≤ 4) (hv : ∀ v ∈ c.2.1, 0 ≤ v ∧ v < d.length) (L : List Nat) (hL : L.length ≤ 16) (hLt : ∀ t ∈ L, t < 16) (kx : List Int → DC → Int → List Bool → List Int → Int → Int → Option R) :
    ∀ (r p : List Nat) (k : Nat) (s0 s1 : Bool), L = p ++ r → r.length < k →
    i_Clause_narrow_l6 K k d c (i : Int) v [s0, s1] x11 x12 x13 (L.map fun (a : Nat) => (a : Int)) ((L.map fun (a : Nat) => (a : Int)).length : Int) (p.length : Int) kx =
      kx d c v [s0 || r.any (fun t => opn c.2.1 d t && (t.testBit i == false)), s1 || r.any (fun t => opn c.2.1 d t && (t.testBit i == true))] x11 x12 x13
  | [], p, k + 1, s0, s1, e, _ => by
    simp only [i_Clause_narrow_l6]; rw [ite_f (decide_eq_false (by rw [e]; simp))]; simp
  | t :: r, p, k + 1, s0, s1, e, hk => by
    have ht := hLt t (by rw [e]; simp)
    have hlt : p.length < L.length := by rw [e]; simp
    simp only [i_Clause_narrow_l6]
    have ih := fun a b => narrow_l6 d c i v x11 x12 x13 hK hl hv L hL hLt kx r (p ++ [t]) k a b (by rw [e, mid_app]) (by simp at hk; omega)
    simp only [snoc_len] at ih
    have hb : bnds (bt t i) (2 : Int) = true := by unfold bt; cases t.testBit i <;> rfl
    rw [ite_t (decide_eq_true (by simp; omega)), ite_t (bnds_n (by simpa using hlt)), getD_map, show L.getD p.length 0 = t from by rw [e]; exact getD_mid p r t 0, i_isOpen_eq (by omega) hK hl hv, some_bind', i_bit_eq i (by omega), some_bind', ite_t hb, w64s (by omega)]
    cases ho : opn c.2.1 d t
    · rw [if_neg (by decide), ih]; simp [ho]
    · rw [if_pos rfl]
      cases hti : t.testBit i
      · rw [show bt t i = 0 from bt_0.2 hti, show ([s0, s1] : List Bool).set (0 : Int).toNat true = [true, s1] from rfl, ih]; simp [ho, hti]
      · rw [show bt t i = 1 from bt_1.2 hti, show ([s0, s1] : List Bool).set (1 : Int).toNat true = [s0, true] from rfl, ih]; simp [ho, hti]
def nstep (c : DC) (bits n : Nat) (d : List Int) (i : Nat) : Bool × List Int :=
  if supp c.2.1 d bits n i false = true then (if supp c.2.1 d bits n i true = true then (true, d) else (true, d.set (c.2.1.getD i 0).toNat 0))
  else (if supp c.2.1 d bits n i true = true then (true, d.set (c.2.1.getD i 0).toNat 1) else (false, d))
def nfold (c : DC) (bits n : Nat) : List Int → Nat → Nat → Bool × List Int
  | d, _, 0 => (true, d)
  | d, i, m + 1 => if (nstep c bits n d i).1 = true then nfold c bits n (nstep c bits n d i).2 (i + 1) m else (false, (nstep c bits n d i).2)
theorem nstep_len (c : DC) (bits n : Nat) (d : List Int) (i : Nat) : (nstep c bits n d i).2.length = d.length := by
  unfold nstep; split <;> split <;> simp
theorem sel_nat (P : Nat → Bool) (n : Nat) : sel P n = ((List.range n).filter P).map fun (a : Nat) => (a : Int) := rfl
theorem any_supp (vs d : List Int) (bits n i : Nat) (val : Bool) : (((List.range (2 ^ n)).filter bits.testBit).any fun t => opn vs d t && (t.testBit i == val)) = supp vs d bits n i val := by
  rw [supp, Bool.eq_iff_iff, anyF_iff, List.any_eq_true]
  constructor
  · rintro ⟨t, h1, h2⟩
    obtain ⟨h3, h4⟩ := List.mem_filter.1 h1
    exact ⟨t, by omega, by have := List.mem_range.1 h3; omega, by rw [h4, h2]; rfl⟩
  · rintro ⟨t, _, h2, h3⟩
    rw [Bool.and_eq_true] at h3
    exact ⟨t, List.mem_filter.2 ⟨List.mem_range.2 (by omega), h3.1⟩, h3.2⟩
theorem narrow_l2 (c : DC) (n bits : Nat) (e1 : c.1 = ((n : Int), (bits : Int), ())) (hn : n ≤ 4) (hb : bits < 9223372036854775808) (hK : 4611686018427387904 ≤ K) (hl : c.2.1.length ≤ 4) (kx : List Int → Option R) (kr : List Int → Bool → Option R) :
    ∀ (m i k : Nat) (d : List Int), i + m = c.2.1.length → 100 + m < k → (∀ v ∈ c.2.1, 0 ≤ v ∧ v < d.length) →
    i_Clause_narrow_l2 K k d c c.2.1 (c.2.1.length : Int) (i : Int) kx kr = if (nfold c bits n d i m).1 = true then kx (nfold c bits n d i m).2 else kr (nfold c bits n d i m).2 false
  | 0, i, k + 1, d, e, _, _ => by
    simp only [i_Clause_narrow_l2]; rw [ite_f (decide_eq_false (by omega))]; rfl
  | m + 1, i, k + 1, d, e, hk, hv => by
    have hp := pw4 hn
    have hi : i < c.2.1.length := by omega
    obtain ⟨hv0, hv1⟩ := hv _ (show c.2.1.getD i 0 ∈ c.2.1 by simp [List.getD, List.getElem?_eq_getElem hi])
    have hL := sel_len bits.testBit (2 ^ n)
    rw [sel_nat, List.length_map] at hL
    have h6 := fun kx => narrow_l6 (K := K) (R := R) d c i (c.2.1.getD i 0) c.2.1 (c.2.1.length : Int) (i : Int) hK hl hv ((List.range (2 ^ n)).filter bits.testBit) (by omega) (fun t ht => by have := List.mem_range.1 (List.mem_filter.1 ht).1; omega) kx ((List.range (2 ^ n)).filter bits.testBit) [] k false false rfl (by omega)
    simp only [List.length_nil, Bool.false_or, any_supp] at h6
    rw [show ((0 : Nat) : Int) = 0 from rfl] at h6
    simp only [i_Clause_narrow_l2, i_Clause_narrow_j17]
    rw [ite_t (decide_eq_true (by omega)), ite_t (bnds_n hi), show i_Relation_tuples K (c.1, ()) = some (sel bits.testBit (2 ^ n)) from by rw [e1]; exact i_tuples_eq hn hb hK, some_bind', Int.toNat_natCast, sel_nat, show List.replicate 2 false = [false, false] from rfl, h6, w64s (by omega)]
    have ih := fun d' (hd : d'.length = d.length) => narrow_l2 c n bits e1 hn hb hK hl kx kr m (i + 1) k d' (by omega) (by omega) (fun v h => by rw [hd]; exact hv v h)
    have b0 : bnds (0 : Int) (2 : Int) = true := rfl
    have b1 : bnds (1 : Int) (2 : Int) = true := rfl
    have bv := bnds_t hv0 hv1
    have g0 : ∀ a b : Bool, ([a, b] : List Bool).getD (0 : Int).toNat false = a := fun _ _ => rfl
    have g1 : ∀ a b : Bool, ([a, b] : List Bool).getD (1 : Int).toNat false = b := fun _ _ => rfl
    simp only [b0, b1, bv, g0, g1, if_true, ih d rfl, ih (d.set (c.2.1.getD i 0).toNat 0) (List.length_set ..), ih (d.set (c.2.1.getD i 0).toNat 1) (List.length_set ..)]
    rw [nfold, nstep]
    cases supp c.2.1 d bits n i false <;> cases supp c.2.1 d bits n i true <;> rfl
theorem i_narrow_eq {c : DC} {n bits : Nat} {d : List Int} (e1 : c.1 = ((n : Int), (bits : Int), ())) (hn : n ≤ 4) (hb : bits < 9223372036854775808) (hK : 4611686018427387904 ≤ K) (hl : c.2.1.length ≤ 4) (hv : ∀ v ∈ c.2.1, 0 ≤ v ∧ v < d.length) :
    i_Clause_narrow K (c, d, ()) = some ((nfold c bits n d 0 c.2.1.length).1, ((nfold c bits n d 0 c.2.1.length).2, ())) := by
  simp only [i_Clause_narrow]
  have := narrow_l2 (K := K) c n bits e1 hn hb hK hl (fun z => some (true, (z, ()))) (fun z47 z48 => some (z48, (z47, ()))) c.2.1.length 0 K d (by omega) (by omega) hv
  rw [show ((0 : Nat) : Int) = 0 from rfl] at this
  rw [this]
  cases h : (nfold c bits n d 0 c.2.1.length).1 <;> rfl
end Go.Proofs.Ytieiajeggahipaa.E
namespace Go.Proofs.Ytieiajeggahipaa.E
open Go Go.Proofs Go.Proofs.Ytieiajeggahipaa
set_option maxRecDepth 100000
set_option linter.unusedVariables false
noncomputable def as_w_FnExactNarrowDomains : Ty := (.pair (.st (.pair (.int .i64) (.pair (.sl (.st (.pair (.st (.pair (.int .i64) (.pair (.int .i64) .unit))) (.pair (.sl (.int .i64)) .unit)))) .unit))) (.pair (.sl (.int .i64)) .unit))
noncomputable def sp_w_FnExactNarrowDomains (F : ((Int × (List ((Int × Int × Unit) × (List Int) × Unit)) × Unit) × (List Int) × Unit) → Option Bool) : FnSpec := ⟨as_w_FnExactNarrowDomains, [false, false], .bool, F⟩
noncomputable def w_FnExactNarrowDomains_j33 {R : Type} (K : Nat) (k : Nat) (v10 : (List Int)) (v13 : Int) (kn : Option R) (kr : (Bool → Option R)) : Option R :=
    (w_heldInt64S K (v10, (1 : Int), ())).bind fun y22 =>
    (if (decide (y22 < (0 : Int))) = true then
    kr false
    else
    (if (!decide (y22 = v13)) = true then
    kr false
    else
    kr true))
noncomputable def w_FnExactNarrowDomains_j22 {R : Type} (K : Nat) (k : Nat) (v1 : (List Int)) (v2 : (Int × (List ((Int × Int × Unit) × (List Int) × Unit)) × Unit)) (v6 : (List Int)) (v7 : Int) (v10 : (List Int)) (kn : Option R) (kr : (Bool → Option R)) : Option R :=
    (w_markInt64S K (v10, (1 : Int), ())).bind fun y16 =>
    (w_heldInt64S K (y16.2.1, (1 : Int), ())).bind fun y17 =>
    (if (decide (y17 < (0 : Int))) = true then
    kr false
    else
    (if (!decide (y17 = y16.1)) = true then
    kr false
    else
    (w_toInstance K (v2, ())).bind fun y18 =>
    (w_toInt64S K (v1, ())).bind fun y19 =>
    (i_NarrowDomains K ((y18.1, y18.2.1, ()), y19, ())).bind fun y20 =>
    (w_eqInt64S K (y20.1, v6, ())).bind fun y21 =>
    (if (!y21) = true then
    kr false
    else
    (if (!decide (y20.2.1 = v7)) = true then
    kr false
    else
    w_FnExactNarrowDomains_j33 K k y16.2.1 y16.1 none (fun z23 =>
    kr z23)))))
noncomputable def w_FnExactNarrowDomains_j13 {R : Type} (K : Nat) (k : Nat) (v1 : (List Int)) (v2 : (Int × (List ((Int × Int × Unit) × (List Int) × Unit)) × Unit)) (v6 : (List Int)) (v7 : Int) (v8_0 : Int) (v8_1 : (List ((Int × Int × Unit) × (List Int) × Unit))) (v9 : (List Int)) (v10 : (List Int)) (v11 : Int) (kn : Option R) (kr : (Bool → Option R)) : Option R :=
    (w_toInstance K (v2, ())).bind fun y9 =>
    (w_eqInstance K ((v8_0, v8_1, ()), (y9.1, y9.2.1, ()), ())).bind fun y10 =>
    (if (!y10) = true then
    kr false
    else
    (w_toInt64S K (v1, ())).bind fun y11 =>
    (w_eqInt64S K (v9, y11, ())).bind fun y12 =>
    (if (!y12) = true then
    kr false
    else
    (w_markInstance K ((v8_0, v8_1, ()), (1 : Int), ())).bind fun y13 =>
    (w_markInt64S K (v9, y13.1, ())).bind fun y14 =>
    (if (decide (y14.1 < (0 : Int))) = true then
    kr false
    else
    (w_eqInt64S K (v10, v6, ())).bind fun y15 =>
    (if (!y15) = true then
    kr false
    else
    (if (!decide (v11 = v7)) = true then
    kr false
    else
    w_FnExactNarrowDomains_j22 K k v1 v2 v6 v7 v10 none (fun z24 =>
    kr z24))))))
noncomputable def w_FnExactNarrowDomains (K : Nat) (x : ((Int × (List ((Int × Int × Unit) × (List Int) × Unit)) × Unit) × (List Int) × Unit)) : Option Bool :=
    (if (decide ((x.2.1.length : Int) > (1048576 : Int))) = true then
    some true
    else
    (w_szInstance K (x.1, (1048576 : Int), ())).bind fun y1 =>
    (if (decide (y1 < (0 : Int))) = true then
    some true
    else
    (w_toInstance K (x.1, ())).bind fun y2 =>
    (w_toInt64S K (x.2.1, ())).bind fun y3 =>
    (s_NarrowDomains K ((y2.1, y2.2.1, ()), y3, ())).bind fun y4 =>
    (w_toInstance K (x.1, ())).bind fun y5 =>
    (w_toInt64S K (x.2.1, ())).bind fun y6 =>
    (i_NarrowDomains K ((y5.1, y5.2.1, ()), y6, ())).bind fun y7 =>
    (w_eqInt64S K (y7.1, y4.1, ())).bind fun y8 =>
    (if (!y8) = true then
    some false
    else
    (if (!decide (y7.2.1 = y4.2.1)) = true then
    some false
    else
    w_FnExactNarrowDomains_j13 K K x.2.1 x.1 y4.1 y4.2.1 y5.1 y5.2.1 y6 y7.1 y7.2.1 none (fun z25 =>
    some z25)))))
noncomputable def lv_w_FnExactNarrowDomains_J13 : Lv := [(1, (.v (.sl (.int .i64)))), (2, (.bx (.v (.st (.pair (.int .i64) (.pair (.sl (.st (.pair (.st (.pair (.int .i64) (.pair (.int .i64) .unit))) (.pair (.sl (.int .i64)) .unit)))) .unit)))))), (6, (.r (.int .i64))), (7, (.v (.int .i64))), (8, (.bx (.st (.pair (.v (.int .i64)) (.pair (.r (.st (.pair (.st (.pair (.int .i64) (.pair (.int .i64) .unit))) (.pair (.sl (.int .i64)) .unit)))) .unit))))), (9, (.r (.int .i64))), (10, (.r (.int .i64))), (11, (.v (.int .i64)))]
noncomputable def lv_w_FnExactNarrowDomains_J22 : Lv := [(1, (.v (.sl (.int .i64)))), (2, (.bx (.v (.st (.pair (.int .i64) (.pair (.sl (.st (.pair (.st (.pair (.int .i64) (.pair (.int .i64) .unit))) (.pair (.sl (.int .i64)) .unit)))) .unit)))))), (6, (.r (.int .i64))), (7, (.v (.int .i64))), (10, (.r (.int .i64)))]
noncomputable def lv_w_FnExactNarrowDomains_J33 : Lv := [(10, (.r (.int .i64))), (13, (.v (.int .i64)))]
noncomputable def lv_w_FnExactNarrowDomains_N13 : Lv := []
noncomputable def lv_w_FnExactNarrowDomains_N22 : Lv := []
noncomputable def lv_w_FnExactNarrowDomains_N33 : Lv := []
noncomputable def rv_w_FnExactNarrowDomains : Lv := [(4, (.v .bool))]
noncomputable def gw_FnExactNarrowDomains_j33 {R : Type} (K : Nat) (k : Nat) (x : den lv_w_FnExactNarrowDomains_J33.ty) (kn : den lv_w_FnExactNarrowDomains_N33.ty → Option R) (kx : Nat → St → Option R) (kr : St → Option R) : Option R := w_FnExactNarrowDomains_j33 K k x.1 x.2.1 (kn ()) (fun z0 => kr (mkSt rv_w_FnExactNarrowDomains (z0, ())))
noncomputable def gw_FnExactNarrowDomains_j22 {R : Type} (K : Nat) (k : Nat) (x : den lv_w_FnExactNarrowDomains_J22.ty) (kn : den lv_w_FnExactNarrowDomains_N22.ty → Option R) (kx : Nat → St → Option R) (kr : St → Option R) : Option R := w_FnExactNarrowDomains_j22 K k x.1 x.2.1 x.2.2.1 x.2.2.2.1 x.2.2.2.2.1 (kn ()) (fun z0 => kr (mkSt rv_w_FnExactNarrowDomains (z0, ())))
noncomputable def gw_FnExactNarrowDomains_j13 {R : Type} (K : Nat) (k : Nat) (x : den lv_w_FnExactNarrowDomains_J13.ty) (kn : den lv_w_FnExactNarrowDomains_N13.ty → Option R) (kx : Nat → St → Option R) (kr : St → Option R) : Option R := w_FnExactNarrowDomains_j13 K k x.1 x.2.1 x.2.2.1 x.2.2.2.1 x.2.2.2.2.1.1 x.2.2.2.2.1.2.1 x.2.2.2.2.2.1 x.2.2.2.2.2.2.1 x.2.2.2.2.2.2.2.1 (kn ()) (fun z0 => kr (mkSt rv_w_FnExactNarrowDomains (z0, ())))
noncomputable def sg_w_FnExactNarrowDomains {R : Type} (K : Nat) (k : Nat) : List (Nat × SegS R) := [(33, mkSeg lv_w_FnExactNarrowDomains_J33 lv_w_FnExactNarrowDomains_N33 (gw_FnExactNarrowDomains_j33 K k)), (22, mkSeg lv_w_FnExactNarrowDomains_J22 lv_w_FnExactNarrowDomains_N22 (gw_FnExactNarrowDomains_j22 K k)), (13, mkSeg lv_w_FnExactNarrowDomains_J13 lv_w_FnExactNarrowDomains_N13 (gw_FnExactNarrowDomains_j13 K k))]
noncomputable def su_w_FnExactNarrowDomains : List (Nat × Unit) := [(33, ()), (22, ()), (13, ())]
noncomputable def en_w_FnExactNarrowDomains {R : Type} (K : Nat) (k : Nat) : Env R := { L := lk [], X := lk [], S := lk (sg_w_FnExactNarrowDomains K k), rv := rv_w_FnExactNarrowDomains }
noncomputable def cf_w_FnExactNarrowDomains (K : Nat) : Cfg := { ty := lk tys, fn := lk [(17, sp_w_eqInt64S (w_eqInt64S K)), (18, sp_w_markInt64S (w_markInt64S K)), (19, sp_w_heldInt64S (w_heldInt64S K)), (20, sp_w_szInstance (w_szInstance K)), (22, sp_w_toInstance (w_toInstance K)), (24, sp_w_eqInstance (w_eqInstance K)), (32, sp_w_markInstance (w_markInstance K)), (46, sp_s_NarrowDomains (s_NarrowDomains K)), (47, sp_w_toInt64S (w_toInt64S K)), (48, sp_i_NarrowDomains (i_NarrowDomains K))], prot := 0, nt := Try.f13.ntmps }
noncomputable def c_w_FnExactNarrowDomains_J13 : Code := nthC (partsOf (hasK su_w_FnExactNarrowDomains) (bodyOf Try.f13)) 0
noncomputable def c_w_FnExactNarrowDomains_J22 : Code := nthC (partsOf (hasK su_w_FnExactNarrowDomains) c_w_FnExactNarrowDomains_J13) 0
noncomputable def c_w_FnExactNarrowDomains_J33 : Code := nthC (partsOf (hasK su_w_FnExactNarrowDomains) c_w_FnExactNarrowDomains_J22) 0
theorem ew_FnExactNarrowDomains_j33 {R : Type} (K : Nat) (k : Nat) (x : den lv_w_FnExactNarrowDomains_J33.ty) (kn : den lv_w_FnExactNarrowDomains_N33.ty → Option R) (kx : Nat → St → Option R) (kr : St → Option R) : gw_FnExactNarrowDomains_j33 K k x kn kx kr = evC (cf_w_FnExactNarrowDomains K) (en_w_FnExactNarrowDomains K k) c_w_FnExactNarrowDomains_J33 (mkSt lv_w_FnExactNarrowDomains_J33 x) (cutK lv_w_FnExactNarrowDomains_N33 kn) kx kr := by kernel_rfl
theorem sw_FnExactNarrowDomains_j33 {R : Type} (K : Nat) (C : Cx) (hP : C.P = Try.prog) (O : CfgOk C (cf_w_FnExactNarrowDomains K)) (k : Nat) : SgS C (R := R) (mkSeg lv_w_FnExactNarrowDomains_J33 lv_w_FnExactNarrowDomains_N33 (gw_FnExactNarrowDomains_j33 K k)) c_w_FnExactNarrowDomains_J33 :=
  seg_sound O (by rw [hP]; kernel_rfl) (ew_FnExactNarrowDomains_j33 K k) (lpOk_of (en := en_w_FnExactNarrowDomains K k) (S := hasK su_w_FnExactNarrowDomains) (fun i => hasK_lk (sg_w_FnExactNarrowDomains K k) i) _ (by rw [show partsOf (hasK su_w_FnExactNarrowDomains) c_w_FnExactNarrowDomains_J33 = [] from by kernel_rfl]; exact trivial))
theorem ew_FnExactNarrowDomains_j22 {R : Type} (K : Nat) (k : Nat) (x : den lv_w_FnExactNarrowDomains_J22.ty) (kn : den lv_w_FnExactNarrowDomains_N22.ty → Option R) (kx : Nat → St → Option R) (kr : St → Option R) : gw_FnExactNarrowDomains_j22 K k x kn kx kr = evC (cf_w_FnExactNarrowDomains K) (en_w_FnExactNarrowDomains K k) c_w_FnExactNarrowDomains_J22 (mkSt lv_w_FnExactNarrowDomains_J22 x) (cutK lv_w_FnExactNarrowDomains_N22 kn) kx kr := by kernel_rfl
theorem sw_FnExactNarrowDomains_j22 {R : Type} (K : Nat) (C : Cx) (hP : C.P = Try.prog) (O : CfgOk C (cf_w_FnExactNarrowDomains K)) (k : Nat) : SgS C (R := R) (mkSeg lv_w_FnExactNarrowDomains_J22 lv_w_FnExactNarrowDomains_N22 (gw_FnExactNarrowDomains_j22 K k)) c_w_FnExactNarrowDomains_J22 :=
  seg_sound O (by rw [hP]; kernel_rfl) (ew_FnExactNarrowDomains_j22 K k) (lpOk_of (en := en_w_FnExactNarrowDomains K k) (S := hasK su_w_FnExactNarrowDomains) (fun i => hasK_lk (sg_w_FnExactNarrowDomains K k) i) _ (by rw [show partsOf (hasK su_w_FnExactNarrowDomains) c_w_FnExactNarrowDomains_J22 = [(false, c_w_FnExactNarrowDomains_J33)] from by kernel_rfl]; exact (lpL_seg (f := mkSeg lv_w_FnExactNarrowDomains_J33 lv_w_FnExactNarrowDomains_N33 (gw_FnExactNarrowDomains_j33 K k)) (by kernel_rfl) (sw_FnExactNarrowDomains_j33 K C hP O k) trivial)))
theorem ew_FnExactNarrowDomains_j13 {R : Type} (K : Nat) (k : Nat) (x : den lv_w_FnExactNarrowDomains_J13.ty) (kn : den lv_w_FnExactNarrowDomains_N13.ty → Option R) (kx : Nat → St → Option R) (kr : St → Option R) : gw_FnExactNarrowDomains_j13 K k x kn kx kr = evC (cf_w_FnExactNarrowDomains K) (en_w_FnExactNarrowDomains K k) c_w_FnExactNarrowDomains_J13 (mkSt lv_w_FnExactNarrowDomains_J13 x) (cutK lv_w_FnExactNarrowDomains_N13 kn) kx kr := by kernel_rfl
theorem sw_FnExactNarrowDomains_j13 {R : Type} (K : Nat) (C : Cx) (hP : C.P = Try.prog) (O : CfgOk C (cf_w_FnExactNarrowDomains K)) (k : Nat) : SgS C (R := R) (mkSeg lv_w_FnExactNarrowDomains_J13 lv_w_FnExactNarrowDomains_N13 (gw_FnExactNarrowDomains_j13 K k)) c_w_FnExactNarrowDomains_J13 :=
  seg_sound O (by rw [hP]; kernel_rfl) (ew_FnExactNarrowDomains_j13 K k) (lpOk_of (en := en_w_FnExactNarrowDomains K k) (S := hasK su_w_FnExactNarrowDomains) (fun i => hasK_lk (sg_w_FnExactNarrowDomains K k) i) _ (by rw [show partsOf (hasK su_w_FnExactNarrowDomains) c_w_FnExactNarrowDomains_J13 = [(false, c_w_FnExactNarrowDomains_J22)] from by kernel_rfl]; exact (lpL_seg (f := mkSeg lv_w_FnExactNarrowDomains_J22 lv_w_FnExactNarrowDomains_N22 (gw_FnExactNarrowDomains_j22 K k)) (by kernel_rfl) (sw_FnExactNarrowDomains_j22 K C hP O k) trivial)))
theorem e_w_FnExactNarrowDomains (K : Nat) (x : den as_w_FnExactNarrowDomains) : w_FnExactNarrowDomains K x = evFn (cf_w_FnExactNarrowDomains K) as_w_FnExactNarrowDomains [false, false] .bool (en_w_FnExactNarrowDomains K K) Try.f13.results.toList (bodyOf Try.f13) x := by kernel_rfl
theorem ok_w_FnExactNarrowDomains (K : Nat) : FnOk Try.prog 13 (sp_w_FnExactNarrowDomains (w_FnExactNarrowDomains K)) :=
  fn_ok (cf := cf_w_FnExactNarrowDomains K) (en := en_w_FnExactNarrowDomains K K) (c := bodyOf Try.f13) Try.func13 (by kernel_rfl) (by kernel_rfl) tysOk (fns_ok (l := [(17, sp_w_eqInt64S (w_eqInt64S K)), (18, sp_w_markInt64S (w_markInt64S K)), (19, sp_w_heldInt64S (w_heldInt64S K)), (20, sp_w_szInstance (w_szInstance K)), (22, sp_w_toInstance (w_toInstance K)), (24, sp_w_eqInstance (w_eqInstance K)), (32, sp_w_markInstance (w_markInstance K)), (46, sp_s_NarrowDomains (s_NarrowDomains K)), (47, sp_w_toInt64S (w_toInt64S K)), (48, sp_i_NarrowDomains (i_NarrowDomains K))]) ⟨ok_w_eqInt64S K, ⟨ok_w_markInt64S K, ⟨ok_w_heldInt64S K, ⟨ok_w_szInstance K, ⟨ok_w_toInstance K, ⟨ok_w_eqInstance K, ⟨ok_w_markInstance K, ⟨ok_s_NarrowDomains K, ⟨ok_w_toInt64S K, ⟨ok_i_NarrowDomains K, trivial⟩⟩⟩⟩⟩⟩⟩⟩⟩⟩) (by kernel_rfl) rfl (Nat.le_of_ble_eq_true (by kernel_rfl)) (by kernel_rfl) (of_decide_eq_true (by kernel_rfl)) (by decide) (fun C hP O => lpOk_of (en := en_w_FnExactNarrowDomains K K) (S := hasK su_w_FnExactNarrowDomains) (fun i => hasK_lk (sg_w_FnExactNarrowDomains K K) i) _ (by rw [show partsOf (hasK su_w_FnExactNarrowDomains) (bodyOf Try.f13) = [(false, c_w_FnExactNarrowDomains_J13)] from by kernel_rfl]; exact (lpL_seg (f := mkSeg lv_w_FnExactNarrowDomains_J13 lv_w_FnExactNarrowDomains_N13 (gw_FnExactNarrowDomains_j13 K K)) (by kernel_rfl) (sw_FnExactNarrowDomains_j13 K C hP O K) trivial))) (fun x y h => by rw [← e_w_FnExactNarrowDomains]; exact h)
end Go.Proofs.Ytieiajeggahipaa.E
namespace Go.Proofs.Ytieiajeggahipaa.E
open Go Go.Proofs
set_option linter.unusedVariables false
set_option linter.unusedSimpArgs false
variable {K : Nat} {R : Type}
/-! domains -/
def tw : List Int → Nat
  | [] => 0
  | a :: l => (if a = 2 then 1 else 0) + tw l
def isDm (d : List Int) : Prop := ∀ a ∈ d, a = 0 ∨ a = 1 ∨ a = 2
theorem tw_le : ∀ d, tw d ≤ d.length
  | [] => Nat.le_refl _
  | a :: l => by have := tw_le l; simp only [tw, List.length_cons]; split <;> omega
theorem tw_set {b : Int} (hb : b ≠ 2) : ∀ (d : List Int) (i : Nat), d.getD i 0 = 2 → i < d.length → tw (d.set i b) < tw d
  | [], i, _, h => by simp at h
  | a :: l, 0, h, _ => by
    have h : a = 2 := h
    simp only [List.set_cons_zero, tw, if_neg hb, if_pos h]; omega
  | a :: l, i + 1, h, hi => by
    have := tw_set hb l i (by simpa [List.getD] using h) (by simpa using hi)
    simp only [List.set_cons_succ, tw]; omega
theorem set_same : ∀ (d : List Int) (i : Nat) (b : Int), d.getD i 0 = b → i < d.length → d.set i b = d
  | [], i, b, _, h => by simp at h
  | a :: l, 0, b, h, _ => by
    have h : a = b := h
    rw [h]; rfl
  | a :: l, i + 1, b, h, hi => by
    rw [List.set_cons_succ, set_same l i b (by simpa [List.getD] using h) (by simpa using hi)]
theorem isDm_set {d : List Int} (h : isDm d) {b : Int} (hb : b = 0 ∨ b = 1) (i : Nat) : isDm (d.set i b) := fun a ha => by
  rcases List.mem_or_eq_of_mem_set ha with h1 | h1
  · exact h a h1
  · rcases hb with e | e <;> rw [h1, e] <;> simp
theorem isDm_get {d : List Int} (h : isDm d) {i : Nat} (hi : i < d.length) : d.getD i 0 = 0 ∨ d.getD i 0 = 1 ∨ d.getD i 0 = 2 :=
  h _ (by simp [List.getD, List.getElem?_eq_getElem hi])
/-- Nothing has changed, or fewer domains have both values. -/
def lsD (d d' : List Int) : Prop := d' = d ∨ tw d' < tw d
theorem lsD_tw {d d' : List Int} (h : lsD d d') : tw d' ≤ tw d := by
  rcases h with h | h
  · rw [h]; exact Nat.le_refl _
  · omega
theorem lsD_trans {a b c : List Int} (h1 : lsD a b) (h2 : lsD b c) : lsD a c ∧ (decide (c ≠ a) = (decide (b ≠ a) || decide (c ≠ b))) := by
  rcases h1 with h1 | h1
  · subst h1; exact ⟨h2, by simp⟩
  · have := lsD_tw h2
    have hc : c ≠ a := fun e => by subst e; omega
    have hb : b ≠ a := fun e => by subst e; omega
    exact ⟨.inr (by omega), by rw [decide_eq_true hc, decide_eq_true hb]; rfl⟩
/-! a place -/
theorem opn_k {vs d : List Int} {t i : Nat} (h : opn vs d t = true) (hi : i < vs.length) : alw (d.getD (vs.getD i 0).toNat 0) t i = true ∧ t.testBit (fstP vs i) = t.testBit i := by
  have := allF_iff.1 h i (by omega) (by omega)
  simp only [opI, Bool.and_eq_true, beq_iff_eq] at this
  exact this
theorem supp_no {vs d : List Int} {bits n k : Nat} (hk : k < vs.length) {val : Bool} (h : d.getD (vs.getD k 0).toNat 0 = if val = true then 0 else 1) : supp vs d bits n k val = false := by
  cases hs : supp vs d bits n k val
  · rfl
  · obtain ⟨t, _, _, h3⟩ := anyF_iff.1 hs
    simp only [Bool.and_eq_true, beq_iff_eq] at h3
    have := (opn_k h3.2.1 hk).1
    rw [h, alw] at this
    unfold bt at this
    rw [h3.2.2] at this
    cases val <;> simp at this
theorem getD_set {d : List Int} {i j : Nat} {b : Int} (hi : i < d.length) : (d.set i b).getD j 0 = if i = j then b else d.getD j 0 := by
  simp only [List.getD, List.getElem?_set]
  by_cases h : i = j
  · subst h; simp [hi]
  · simp [h]
theorem supp_up {vs d : List Int} {bits n k : Nat} (hk : k < vs.length) (hv : ∀ v ∈ vs, 0 ≤ v ∧ v < d.length) (h2 : d.getD (vs.getD k 0).toNat 0 = 2) : supp vs (d.set (vs.getD k 0).toNat 1) bits n k true = supp vs d bits n k true := by
  have mem : ∀ i, i < vs.length → vs.getD i 0 ∈ vs := fun i hi => by simp [List.getD, List.getElem?_eq_getElem hi]
  obtain ⟨hk0, hk1⟩ := hv _ (mem k hk)
  refine anyF_congr fun t _ _ => ?_
  cases bits.testBit t
  · rfl
  · cases ht : t.testBit k
    · simp
    · simp only [Bool.true_and, beq_self_eq_true, Bool.and_true]
      rw [Bool.eq_iff_iff]
      constructor
      · intro h
        refine allF_iff.2 fun i _ hi => ?_
        have hi : i < vs.length := by omega
        obtain ⟨h3, h4⟩ := opn_k h hi
        rw [opI, h4, beq_self_eq_true, Bool.and_true]
        rw [getD_set (by omega)] at h3
        by_cases e : (vs.getD k 0).toNat = (vs.getD i 0).toNat
        · rw [← e, h2]; rfl
        · rw [if_neg e] at h3; exact h3
      · intro h
        refine allF_iff.2 fun i _ hi => ?_
        have hi : i < vs.length := by omega
        obtain ⟨hi0, hi1⟩ := hv _ (mem i hi)
        obtain ⟨h3, h4⟩ := opn_k h hi
        obtain ⟨_, h5⟩ := opn_k h hk
        rw [opI, h4, beq_self_eq_true, Bool.and_true, getD_set (by omega)]
        by_cases e : (vs.getD k 0).toNat = (vs.getD i 0).toNat
        · have e2 : vs.getD i 0 = vs.getD k 0 := by omega
          rw [if_pos e, alw, bt, ← h4, fstP_same e2, h5, ht]; rfl
        · rw [if_neg e]; exact h3
variable {K : Nat} {R : Type}
def bitsC (c : DC) : Nat := c.1.2.1.toNat
def arC (c : DC) : Nat := c.1.1.toNat
theorem okC_rel {m : Int} {c : DC} (h : okC m c = true) (hm : m ≤ 8) : c.1 = ((arC c : Int), (bitsC c : Int), ()) ∧ arC c ≤ 4 ∧ bitsC c < 9223372036854775808 ∧ c.2.1.length ≤ 4 := by
  obtain ⟨_, h2, h3⟩ := okC_v h hm
  obtain ⟨n, b, e, h4, h5, _⟩ := isF_nat h3 (by decide)
  have h6 := bits_lt h4 h5
  refine ⟨?_, ?_, ?_, h2⟩
  · rw [arC, bitsC, e]; rfl
  · rw [arC, e]; exact h4
  · rw [bitsC, e]; exact h6
theorem nstep_h {c : DC} {d : List Int} {i : Nat} (hi : i < c.2.1.length) (hv : ∀ v ∈ c.2.1, 0 ≤ v ∧ v < d.length) (hd : isDm d) (bits n : Nat) : isDm (nstep c bits n d i).2 ∧ lsD d (nstep c bits n d i).2 := by
  obtain ⟨h0, h1⟩ := hv _ (show c.2.1.getD i 0 ∈ c.2.1 by simp [List.getD, List.getElem?_eq_getElem hi])
  have hlt : (c.2.1.getD i 0).toNat < d.length := by omega
  have key : ∀ b : Int, (b = 0 ∨ b = 1) → supp c.2.1 d bits n i (decide (b = 0)) = false → supp c.2.1 d bits n i (decide (b = 1)) = true → lsD d (d.set (c.2.1.getD i 0).toNat b) := fun b hb hs ht => by
    rcases isDm_get hd hlt with e | e | e
    · rcases hb with rfl | rfl
      · left; exact set_same d _ _ e hlt
      · have := supp_no (bits := bits) (n := n) hi (val := true) (d := d) e
        rw [show decide ((1 : Int) = 1) = true from rfl, this] at ht; cases ht
    · rcases hb with rfl | rfl
      · have := supp_no (bits := bits) (n := n) hi (val := false) (d := d) e
        rw [show decide ((0 : Int) = 1) = false from rfl, this] at ht; cases ht
      · left; exact set_same d _ _ e hlt
    · right; exact tw_set (by rcases hb with rfl | rfl <;> decide) d _ e hlt
  unfold nstep
  cases hs0 : supp c.2.1 d bits n i false <;> cases hs1 : supp c.2.1 d bits n i true
  · exact ⟨hd, .inl rfl⟩
  · exact ⟨isDm_set hd (.inr rfl) _, key 1 (.inr rfl) hs0 hs1⟩
  · exact ⟨isDm_set hd (.inl rfl) _, key 0 (.inl rfl) hs1 hs0⟩
  · exact ⟨hd, .inl rfl⟩
theorem nfold_h {c : DC} (bits n : Nat) : ∀ (m i : Nat) {d : List Int}, i + m ≤ c.2.1.length → (∀ v ∈ c.2.1, 0 ≤ v ∧ v < d.length) → isDm d → isDm (nfold c bits n d i m).2 ∧ lsD d (nfold c bits n d i m).2 ∧ (nfold c bits n d i m).2.length = d.length
  | 0, i, d, _, _, hd => ⟨hd, .inl rfl, rfl⟩
  | m + 1, i, d, hi, hv, hd => by
    obtain ⟨h1, h2⟩ := nstep_h (c := c) (i := i) (by omega) hv hd bits n
    have hl := nstep_len c bits n d i
    rw [nfold]
    split
    · obtain ⟨g1, g2, g3⟩ := nfold_h (c := c) bits n m (i + 1) (d := (nstep c bits n d i).2) (show i + 1 + m ≤ c.2.1.length by omega) (fun v h => by rw [hl]; exact hv v h) h1
      exact ⟨g1, (lsD_trans h2 g2).1, g3.trans hl⟩
    · exact ⟨h1, h2, hl⟩
/-- One place, as the reference narrows it. -/
theorem place_l (x : DX) (c : DC) (ci : Int) (m8 : Int) (hm : m8 ≤ 8) (hc : okC m8 c = true) (kk : Nat) (hkk : kk < c.2.1.length) (d : List Int) (hd : isDm d) (hv : ∀ v ∈ c.2.1, 0 ≤ v ∧ v < d.length) (more : Bool) (hK : 4611686018427387904 ≤ K) (kx : DX → List Int → Bool → Int → DC → Int → Option R) (kr : List Int → Int → Option R) (k : Nat) (hk : 10 < k) :
    s_NarrowDomains_l22 K k x d more ci c (kk : Int) 0 kx kr = if (nstep c (bitsC c) (arC c) d kk).1 = true then kx x (nstep c (bitsC c) (arC c) d kk).2 (more || decide ((nstep c (bitsC c) (arC c) d kk).2 ≠ d)) ci c (kk : Int) else kr [] 4 := by
  obtain ⟨e1, hn, hb, hl⟩ := okC_rel hc hm
  obtain ⟨hv0, hv1⟩ := hv _ (show c.2.1.getD kk 0 ∈ c.2.1 by simp [List.getD, List.getElem?_eq_getElem hkk])
  have hlt : (c.2.1.getD kk 0).toNat < d.length := by omega
  obtain ⟨k, rfl⟩ : ∃ k', k = k' + 3 := ⟨k - 3, by omega⟩
  have S : ∀ (d' : List Int) (val : Bool), d'.length = d.length → s_l09Supported K (c, d', (kk : Int), (if val = true then 1 else 0), ()) = some (supp c.2.1 d' (bitsC c) (arC c) kk val) := fun d' val hd' =>
    s_l09Supported_eq e1 hn hb (by omega) hl (fun v h => by rw [hd']; exact hv v h) hK
  have S0 := fun d' h => S d' false h
  have S1 := fun d' h => S d' true h
  simp only [Bool.false_eq_true, if_false, if_true] at S0 S1
  have b0 : decide ((0 : Int) < 2) = true := rfl
  have b1 : decide ((1 : Int) < 2) = true := rfl
  have b2 : decide ((2 : Int) < 2) = false := rfl
  have w0 : IntKind.i64.wrap ((0 : Int) + 1) = 1 := by decide
  have w1 : IntKind.i64.wrap ((1 : Int) + 1) = 2 := by decide
  have v0 : IntKind.i64.wrap ((1 : Int) - 0) = 1 := by decide
  have v1 : IntKind.i64.wrap ((1 : Int) - 1) = 0 := by decide
  have hbv : ∀ d' : List Int, d'.length = d.length → bnds (c.2.1.getD kk 0) (d'.length : Int) = true := fun d' h => by rw [h]; exact bnds_t hv0 hv1
  simp only [s_NarrowDomains_l22, s_NarrowDomains_j26, Int.toNat_natCast, b0, b1, b2, w0, w1, v0, v1, bnds_n hkk, hbv d rfl, s_l09Allows_eq, some_bind', S0 d rfl, S1 d rfl, if_true, Bool.false_eq_true, if_false, hbv _ (List.length_set ..), S1 _ (List.length_set ..)]
  have ne0 : d.getD (c.2.1.getD kk 0).toNat 0 = 2 → d.set (c.2.1.getD kk 0).toNat 0 ≠ d := fun e h => by
    have := tw_set (b := 0) (by decide) d _ e hlt; rw [h] at this; omega
  have ne1 : d.getD (c.2.1.getD kk 0).toNat 0 = 2 → d.set (c.2.1.getD kk 0).toNat 1 ≠ d := fun e h => by
    have := tw_set (b := 1) (by decide) d _ e hlt; rw [h] at this; omega
  unfold nstep
  rcases isDm_get hd hlt with e | e | e
  · -- the domain has 0 alone
    have n1 := supp_no (bits := bitsC c) (n := arC c) hkk (val := true) (d := d) e
    have es := set_same d (c.2.1.getD kk 0).toNat 0 e hlt
    simp only [e, n1]
    cases hs0 : supp c.2.1 d (bitsC c) (arC c) kk false
    · simp
    · simp [-List.getD_eq_getElem?_getD, es, e]
  · have n0 := supp_no (bits := bitsC c) (n := arC c) hkk (val := false) (d := d) e
    have es := set_same d (c.2.1.getD kk 0).toNat 1 e hlt
    simp only [e, n0]
    cases hs1 : supp c.2.1 d (bitsC c) (arC c) kk true
    · simp [-List.getD_eq_getElem?_getD, e]
    · simp [-List.getD_eq_getElem?_getD, es, e]
  · have hu := supp_up (bits := bitsC c) (n := arC c) hkk hv e
    have hg : (d.set (c.2.1.getD kk 0).toNat 1).getD (c.2.1.getD kk 0).toNat 0 = 1 := by rw [getD_set hlt, if_pos rfl]
    simp only [e, hu, hg]
    cases hs0 : supp c.2.1 d (bitsC c) (arC c) kk false <;> cases hs1 : supp c.2.1 d (bitsC c) (arC c) kk true
    · simp
    · have := ne1 e; simp [-List.getD_eq_getElem?_getD, this]
    · have := ne0 e; simp [-List.getD_eq_getElem?_getD, this, e]
    · simp [-List.getD_eq_getElem?_getD, e]
variable {K : Nat} {R : Type}
/-- All places of one clause, as the reference narrows them. -/
theorem places_l (x : DX) (c : DC) (ci : Int) (m8 : Int) (hm : m8 ≤ 8) (hc : okC m8 c = true) (hK : 4611686018427387904 ≤ K) (kx : DX → List Int → Bool → Int → Option R) (kr : List Int → Int → Option R) : ∀ (m kk k : Nat) (d : List Int) (more : Bool), kk + m = c.2.1.length → 100 + m < k → isDm d → (∀ v ∈ c.2.1, 0 ≤ v ∧ v < d.length) →
    s_NarrowDomains_l19 K k x d more ci c (kk : Int) kx kr = if (nfold c (bitsC c) (arC c) d kk m).1 = true then kx x (nfold c (bitsC c) (arC c) d kk m).2 (more || decide ((nfold c (bitsC c) (arC c) d kk m).2 ≠ d)) ci else kr [] 4
  | 0, kk, k + 1, d, more, e, _, _, _ => by
    simp only [s_NarrowDomains_l19]; rw [ite_f (decide_eq_false (by omega))]; simp [nfold]
  | m + 1, kk, k + 1, d, more, e, hk, hd, hv => by
    obtain ⟨_, _, _, hl⟩ := okC_rel hc hm
    obtain ⟨h1, h2⟩ := nstep_h (c := c) (i := kk) (by omega) hv hd (bitsC c) (arC c)
    have hn := nstep_len c (bitsC c) (arC c) d kk
    have hv' : ∀ v ∈ c.2.1, 0 ≤ v ∧ v < (nstep c (bitsC c) (arC c) d kk).2.length := fun v h => by rw [hn]; exact hv v h
    simp only [s_NarrowDomains_l19]
    rw [ite_t (decide_eq_true (by omega)), place_l x c ci m8 hm hc kk (by omega) d hd hv more hK _ _ k (by omega), w64s (by omega), places_l x c ci m8 hm hc hK kx kr m (kk + 1) k _ _ (by omega) (by omega) h1 hv', nfold]
    by_cases hs : (nstep c (bitsC c) (arC c) d kk).1 = true
    · obtain ⟨_, g2, _⟩ := nfold_h (c := c) (bitsC c) (arC c) m (kk + 1) (d := (nstep c (bitsC c) (arC c) d kk).2) (by omega) hv' h1
      rw [if_pos hs, if_pos hs, (lsD_trans h2 g2).2, Bool.or_assoc]
    · rw [if_neg hs, if_neg hs]; rfl
def pfold : List DC → List Int → Bool × List Int
  | [], d => (true, d)
  | c :: r, d => if (nfold c (bitsC c) (arC c) d 0 c.2.1.length).1 = true then pfold r (nfold c (bitsC c) (arC c) d 0 c.2.1.length).2 else (false, d)
theorem pfold_h {n : Nat} : ∀ {cs : List DC} {d : List Int}, (∀ c ∈ cs, ∀ v ∈ c.2.1, 0 ≤ v ∧ v < (n : Int)) → d.length = n → isDm d → isDm (pfold cs d).2 ∧ lsD d (pfold cs d).2 ∧ (pfold cs d).2.length = n
  | [], d, _, hn, hd => ⟨hd, .inl rfl, hn⟩
  | c :: r, d, hv, hn, hd => by
    obtain ⟨h1, h2, h3⟩ := nfold_h (c := c) (bitsC c) (arC c) c.2.1.length 0 (d := d) (by omega) (fun v h => by rw [hn]; exact hv c (by simp) v h) hd
    rw [pfold]
    split
    · obtain ⟨g1, g2, g3⟩ := pfold_h (cs := r) (fun c' h => hv c' (by simp [h])) (h3.trans hn) h1
      exact ⟨g1, (lsD_trans h2 g2).1, g3⟩
    · exact ⟨hd, .inl rfl, hn⟩
theorem okX_vars {x : DX} (h : okX x = true) {d : List Int} (hd : (d.length : Int) = x.1) : ∀ c ∈ x.2.1, ∀ v ∈ c.2.1, 0 ≤ v ∧ v < (d.length : Int) := fun c hc v hv => by
  obtain ⟨_, _, _, h4⟩ := okX_h h
  have := h4 c hc
  simp only [okC, Bool.and_eq_true, decide_eq_true_eq, List.all_eq_true] at this
  have := this.2 v hv
  simp only [inR, and_dec] at this
  omega
/-- All clauses, once, as the reference goes through them. -/
theorem pass_s (x : DX) (h : okX x = true) (n : Nat) (hn : (n : Int) = x.1) (hK : 4611686018427387904 ≤ K) (kx : DX → List Int → Bool → Option R) (kr : List Int → Int → Option R) : ∀ (r p : List DC) (k : Nat) (d : List Int) (more : Bool), x.2.1 = p ++ r → 1000 + r.length < k → isDm d → d.length = n →
    s_NarrowDomains_l15 K k x d more (p.length : Int) kx kr = if (pfold r d).1 = true then kx x (pfold r d).2 (more || decide ((pfold r d).2 ≠ d)) else kr [] 4
  | [], p, k + 1, d, more, e, _, _, _ => by
    simp only [s_NarrowDomains_l15]; rw [ite_f (decide_eq_false (by rw [e]; simp))]; simp [pfold]
  | c :: r, p, k + 1, d, more, e, hk, hd, hl => by
    obtain ⟨_, hx8, hx12, hx4⟩ := okX_h h
    have hc := hx4 c (by rw [e]; simp)
    have hcl := (okC_rel hc hx8).2.2.2
    have hv := okX_vars h (d := d) (by rw [hl]; exact hn)
    have hvc := hv c (by rw [e]; simp)
    obtain ⟨h1, h2, h3⟩ := nfold_h (c := c) (bitsC c) (arC c) c.2.1.length 0 (d := d) (by omega) hvc hd
    simp only [s_NarrowDomains_l15]
    have hp := places_l (K := K) (R := R) x c (p.length : Int) x.1 hx8 hc hK (fun z27 z28 z29 z30 => s_NarrowDomains_l15 K k z27 z28 z29 (IntKind.i64.wrap (z30 + (1 : Int))) kx kr) kr c.2.1.length 0 k d more (by omega) (by simp at hk; omega) hd hvc
    rw [show ((0 : Nat) : Int) = 0 from rfl] at hp
    have hlt : p.length < x.2.1.length := by rw [e]; simp
    have ih := fun d' m' (q1 : isDm d') (q2 : d'.length = n) => pass_s x h n hn hK kx kr r (p ++ [c]) k d' m' (by rw [e, mid_app]) (by simp at hk; omega) q1 q2
    simp only [snoc_len] at ih
    rw [ite_t (decide_eq_true (by omega)), ite_t (bnds_n hlt), show x.2.1.getD ((p.length : Int)).toNat (((0 : Int), (0 : Int), ()), ([] : List Int), ()) = c from by rw [e]; exact getD_midI p r c _, hp, w64s (by omega), ih _ _ h1 (h3.trans hl), pfold]
    by_cases hs : (nfold c (bitsC c) (arC c) d 0 c.2.1.length).1 = true
    · obtain ⟨_, g2, _⟩ := pfold_h (n := n) (cs := r) (d := (nfold c (bitsC c) (arC c) d 0 c.2.1.length).2) (fun c' hc' => by have := hv c' (by rw [e]; simp [hc']); rwa [hl] at this) (h3.trans hl) h1
      rw [if_pos hs, if_pos hs, (lsD_trans h2 g2).2, Bool.or_assoc]
    · rw [if_neg hs, if_neg hs]; rfl
/-- All clauses, once, as the program goes through them. -/
theorem pass_i (x : DX) (h : okX x = true) (n : Nat) (hn : (n : Int) = x.1) (hK : 4611686018427387904 ≤ K) (v7 : List Int) (kx : DX → List Int → List Int → Option R) (kr : List Int → Int → Option R) : ∀ (r p : List DC) (k : Nat) (d : List Int), x.2.1 = p ++ r → r.length < k → isDm d → d.length = n →
    i_NarrowDomains_l8 K k x d v7 x.2.1 (x.2.1.length : Int) (p.length : Int) kx kr = if (pfold r d).1 = true then kx x (pfold r d).2 v7 else kr [] 4
  | [], p, k + 1, d, e, _, _, _ => by
    simp only [i_NarrowDomains_l8]; rw [ite_f (decide_eq_false (by rw [e]; simp))]; simp [pfold]
  | c :: r, p, k + 1, d, e, hk, hd, hl => by
    obtain ⟨_, hx8, hx12, hx4⟩ := okX_h h
    have hc := hx4 c (by rw [e]; simp)
    obtain ⟨e1, hn4, hb, hcl⟩ := okC_rel hc hx8
    have hv := okX_vars h (d := d) (by rw [hl]; exact hn)
    have hvc := hv c (by rw [e]; simp)
    obtain ⟨h1, h2, h3⟩ := nfold_h (c := c) (bitsC c) (arC c) c.2.1.length 0 (d := d) (by omega) hvc hd
    simp only [i_NarrowDomains_l8]
    have hlt : p.length < x.2.1.length := by rw [e]; simp
    have ih := fun d' (q1 : isDm d') (q2 : d'.length = n) => pass_i x h n hn hK v7 kx kr r (p ++ [c]) k d' (by rw [e, mid_app]) (by simp at hk; omega) q1 q2
    simp only [snoc_len] at ih
    rw [ite_t (decide_eq_true (by omega)), ite_t (bnds_n hlt), show x.2.1.getD ((p.length : Int)).toNat (((0 : Int), (0 : Int), ()), ([] : List Int), ()) = c from by rw [e]; exact getD_midI p r c _, i_narrow_eq e1 hn4 hb hK hcl hvc, some_bind', w64s (by omega), pfold]
    simp only
    rw [ih _ h1 (h3.trans hl)]
    cases hs : (nfold c (bitsC c) (arC c) d 0 c.2.1.length).1 <;> rfl
def narX (cs : List DC) : Nat → List Int → Bool × List Int
  | 0, d => (true, d)
  | m + 1, d => if (pfold cs d).1 = true then (if (pfold cs d).2 = d then (true, d) else narX cs m (pfold cs d).2) else (false, [])
theorem slices_Equal_int64_l (l g : List Int) (hl : l.length < 4611686018427387904) (kx : Option R) (kr : Bool → Option R) : ∀ (r s p q : List Int) (k : Nat), l = p ++ r → g = q ++ s → p.length = q.length → r.length = s.length → r.length < k →
    slices_Equal_int64_l4 K k l g (l.length : Int) (p.length : Int) kx kr = if r = s then kx else kr false
  | [], s, p, q, k + 1, e, e2, h1, h2, hk => by
    have : s = [] := List.length_eq_zero_iff.1 h2.symm
    subst this
    simp only [slices_Equal_int64_l4]; rw [ite_f (decide_eq_false (by rw [e]; simp))]; rfl
  | a :: r, [], p, q, k + 1, e, e2, h1, h2, hk => by cases h2
  | a :: r, b :: s, p, q, k + 1, e, e2, h1, h2, hk => by
    have hp : p.length < l.length := by rw [e]; simp
    have hq : p.length < g.length := by rw [e2, h1]; simp
    have ih := slices_Equal_int64_l l g hl kx kr r s (p ++ [a]) (q ++ [b]) k (by rw [e, mid_app]) (by rw [e2, mid_app]) (by simp [h1]) (by simpa using h2) (by simp at hk; omega)
    simp only [snoc_len] at ih
    simp only [slices_Equal_int64_l4]
    rw [ite_t (decide_eq_true (by omega)), ite_t (bnds_n hp), ite_t (bnds_n hq), show l.getD ((p.length : Int)).toNat 0 = a from by rw [e]; exact getD_midI p r a _, show g.getD ((p.length : Int)).toNat 0 = b from by rw [h1, e2]; exact getD_midI q s b _, w64s (by omega), ih]
    by_cases hab : a = b
    · subst hab; simp
    · rw [ite_t (by simp [hab]), if_neg (by simp [hab])]
theorem slices_Equal_int64_eq {l g : List Int} (hl : l.length < 4611686018427387904) (hK : 4611686018427387904 ≤ K) : slices_Equal_int64 K (l, g, ()) = some (decide (l = g)) := by
  simp only [slices_Equal_int64]
  by_cases h : l.length = g.length
  · have := slices_Equal_int64_l (K := K) l g hl (some true) (fun z => some z) l g [] [] K rfl rfl rfl h (by omega)
    simp only [List.length_nil] at this
    rw [show ((0 : Nat) : Int) = 0 from rfl] at this
    rw [ite_f (by simp [h]), this]
    by_cases e : l = g
    · rw [if_pos e, decide_eq_true e]
    · rw [if_neg e, decide_eq_false e]
  · rw [ite_t (by simp; omega), decide_eq_false (fun e => h (by rw [e]))]
theorem nar_i (x : DX) (h : okX x = true) (n : Nat) (hn : (n : Int) = x.1) (hK : 4611686018427387904 ≤ K) (kr : List Int → Int → Option R) : ∀ (m k : Nat) (d : List Int), tw d < m → 1000 + m < k → isDm d → d.length = n →
    i_NarrowDomains_l6 K k x d kr = kr (narX x.2.1 m d).2 (if (narX x.2.1 m d).1 = true then 0 else 4)
  | m + 1, k + 1, d, ht, hk, hd, hl => by
    obtain ⟨_, hx8, hx12, hx4⟩ := okX_h h
    have hv : ∀ c ∈ x.2.1, ∀ v ∈ c.2.1, 0 ≤ v ∧ v < (n : Int) := by have := okX_vars h (d := d) (by rw [hl]; exact hn); rwa [hl] at this
    obtain ⟨h1, h2, h3⟩ := pfold_h hv hl hd
    have hp := fun kx => pass_i (K := K) (R := R) x h n hn hK d kx kr x.2.1 [] k d rfl (by omega) hd hl
    simp only [List.length_nil] at hp
    rw [show ((0 : Nat) : Int) = 0 from rfl] at hp
    have hn8 : n ≤ 8 := by omega
    simp only [i_NarrowDomains_l6]
    rw [slices_Clone_int64_eq (by omega), some_bind', hp, slices_Equal_int64_eq (by omega) hK, some_bind', narX]
    by_cases hs : (pfold x.2.1 d).1 = true
    · rw [if_pos hs, if_pos hs]
      by_cases he : (pfold x.2.1 d).2 = d
      · rw [if_pos (decide_eq_true he), if_pos he, if_pos rfl, he]
      · have : tw (pfold x.2.1 d).2 < tw d := by
          rcases h2 with h2 | h2
          · exact absurd h2 he
          · exact h2
        rw [if_neg (by simpa using he), if_neg he, nar_i x h n hn hK kr m k _ (by omega) (by omega) h1 h3]
    · rw [if_neg hs, if_neg hs]; rfl
theorem nar_s (x : DX) (h : okX x = true) (n : Nat) (hn : (n : Int) = x.1) (hK : 4611686018427387904 ≤ K) (kx : List Int → Option R) (kr : List Int → Int → Option R) : ∀ (m k : Nat) (d : List Int), tw d < m → 2000 + m < k → isDm d → d.length = n →
    s_NarrowDomains_l12 K k x d true kx kr = if (narX x.2.1 m d).1 = true then kx (narX x.2.1 m d).2 else kr [] 4
  | m + 1, k + 2, d, ht, hk, hd, hl => by
    obtain ⟨_, hx8, hx12, hx4⟩ := okX_h h
    have hv : ∀ c ∈ x.2.1, ∀ v ∈ c.2.1, 0 ≤ v ∧ v < (n : Int) := by have := okX_vars h (d := d) (by rw [hl]; exact hn); rwa [hl] at this
    obtain ⟨h1, h2, h3⟩ := pfold_h hv hl hd
    have hp := fun kx => pass_s (K := K) (R := R) x h n hn hK kx kr x.2.1 [] (k + 1) d false rfl (by omega) hd hl
    simp only [List.length_nil] at hp
    rw [show ((0 : Nat) : Int) = 0 from rfl] at hp
    rw [s_NarrowDomains_l12, if_pos rfl, hp, narX]
    by_cases hs : (pfold x.2.1 d).1 = true
    · rw [if_pos hs, if_pos hs]
      by_cases he : (pfold x.2.1 d).2 = d
      · rw [if_pos he, if_pos rfl, decide_eq_false (by simpa using he), s_NarrowDomains_l12, if_neg (by decide), he]
      · have : tw (pfold x.2.1 d).2 < tw d := by
          rcases h2 with h2 | h2
          · exact absurd h2 he
          · exact h2
        rw [if_neg he, decide_eq_true he, Bool.false_or, nar_s x h n hn hK kx kr m (k + 1) _ (by omega) (by omega) h1 h3]
    · rw [if_neg hs, if_neg hs]; rfl
/-! the functions -/
theorem narX_len (cs : List DC) (n : Nat) (hv : ∀ c ∈ cs, ∀ v ∈ c.2.1, 0 ≤ v ∧ v < (n : Int)) : ∀ (m : Nat) (d : List Int), isDm d → d.length = n → (narX cs m d).2.length ≤ n
  | 0, d, _, hl => by rw [narX]; exact Nat.le_of_eq hl
  | m + 1, d, hd, hl => by
    obtain ⟨h1, h2, h3⟩ := pfold_h hv hl hd
    rw [narX]
    split
    · split
      · exact Nat.le_of_eq hl
      · exact narX_len cs n hv m _ h1 h3
    · exact Nat.zero_le _
def dmB (d : List Int) : Bool := d.all fun a => decide (0 ≤ a) && decide (a ≤ 2)
theorem dmB_is {d : List Int} (h : dmB d = true) : isDm d := fun a ha => by
  have := List.all_eq_true.1 h a ha
  simp only [and_dec] at this
  omega
def narD (x : DX) (d : List Int) : List Int × Int × Unit :=
  if okX x = true then (if (decide ((d.length : Int) = x.1) && dmB d) = true then ((narX x.2.1 9 d).2, if (narX x.2.1 9 d).1 = true then 0 else 4, ()) else ([], 2, ())) else ([], 1, ())
theorem i_NarrowDomains_eq {x : DX} {d : List Int} (hx : shX x) (hd : d.length ≤ 1099511627776) (hK : 9223372036854775808 ≤ K) : i_NarrowDomains K (x, d, ()) = some (narD x d) := by
  have hK2 : 4611686018427387904 ≤ K := by omega
  simp only [i_NarrowDomains, i_IsInstance_eq hx hK2, some_bind', narD]
  cases h : okX x
  · rfl
  · rw [if_neg (by decide), if_pos rfl]
    by_cases hl : (d.length : Int) = x.1
    · rw [ite_f (by simp [hl]), slices_ContainsFunc_int64_eq _ (fun a => !(decide (0 ≤ a) && decide (a ≤ 2))) (by omega) hK2 (fun a _ => by simp only [i_NarrowDomains_c1, i_within_eq, some_bind']), some_bind', any_not, decide_eq_true hl, Bool.true_and]
      cases hb : dmB d
      · rw [if_pos (by rw [dmB] at hb; rw [hb]; rfl), if_neg (by decide)]
      · have hd8 := (okX_h h).2.1
        have ht := tw_le d
        rw [if_neg (by rw [dmB] at hb; rw [hb]; decide), if_pos rfl]
        simp only [i_NarrowDomains_j5]
        rw [slices_Clone_int64_eq hd, some_bind', nar_i x h d.length hl hK2 _ 9 K d (by omega) (by omega) (dmB_is hb) rfl]
    · rw [ite_t (by simp [hl]), decide_eq_false hl, Bool.false_and, if_neg (by decide)]
theorem s_dom_l (x : DX) (d : List Int) (hl : d.length < 4611686018427387904) (kx : List Int → DX → Option R) (kr : List Int → Int → Option R) : ∀ (r p : List Int) (k : Nat), d = p ++ r → r.length < k →
    s_NarrowDomains_l4 K k d x (p.length : Int) kx kr = if dmB r = true then kx d x else kr [] 2
  | [], p, k + 1, e, _ => by
    simp only [s_NarrowDomains_l4]; rw [ite_f (decide_eq_false (by rw [e]; simp))]; rfl
  | a :: r, p, k + 1, e, hk => by
    have hp : p.length < d.length := by rw [e]; simp
    have ih := s_dom_l x d hl kx kr r (p ++ [a]) k (by rw [e, mid_app]) (by simp at hk; omega)
    simp only [snoc_len] at ih
    simp only [s_NarrowDomains_l4]
    rw [ite_t (decide_eq_true (by omega)), ite_t (bnds_n hp), show d.getD ((p.length : Int)).toNat 0 = a from by rw [e]; exact getD_midI p r a _, s_l01In_eq, some_bind', w64s (by omega), ih, show dmB (a :: r) = ((decide (0 ≤ a) && decide (a ≤ 2)) && dmB r) from rfl]
    cases (decide (0 ≤ a) && decide (a ≤ 2)) <;> rfl
theorem s_NarrowDomains_eq {x : DX} {d : List Int} (hx : shX x) (hd : d.length ≤ 1099511627776) (hK : 9223372036854775808 ≤ K) : s_NarrowDomains K (x, d, ()) = some (narD x d) := by
  have hK2 : 4611686018427387904 ≤ K := by omega
  simp only [s_NarrowDomains, s_l09Is_eq hx hK, some_bind', narD]
  cases h : okX x
  · rfl
  · rw [if_neg (by decide), if_pos rfl]
    have hdl := fun kx kr => s_dom_l (K := K) (R := List Int × Int × Unit) x d (by omega) kx kr d [] K rfl (by omega)
    simp only [List.length_nil] at hdl
    rw [show ((0 : Nat) : Int) = 0 from rfl] at hdl
    rw [hdl]
    cases hb : dmB d
    · rw [if_neg (by decide), Bool.and_false, if_neg (by decide)]
    · rw [if_pos rfl]
      by_cases hl : (d.length : Int) = x.1
      · have hd8 := (okX_h h).2.1
        have ht := tw_le d
        rw [ite_f (by simp [hl]), s_l01Own_eq hd, some_bind', nar_s x h d.length hl hK2 _ _ 9 K d (by omega) (by omega) (dmB_is hb) rfl, decide_eq_true hl]
        cases hn : (narX x.2.1 9 d).1
        · have : (narX x.2.1 9 d).2 = [] := by
            have key : ∀ (m : Nat) (d : List Int), (narX x.2.1 m d).1 = false → (narX x.2.1 m d).2 = [] := fun m => by
              induction m with
              | zero => intro d h; cases h
              | succ m ih =>
                intro d h
                rw [narX] at h ⊢
                split
                · rename_i h1; rw [if_pos h1] at h
                  split
                  · rename_i h2; rw [if_pos h2] at h; cases h
                  · rename_i h2; rw [if_neg h2] at h; exact ih _ h
                · rfl
            exact key 9 d hn
          rw [this]; rfl
        · rfl
      · rw [ite_t (by simp [hl]), decide_eq_false hl]; rfl
theorem narD_len {x : DX} {d : List Int} (hd : d.length ≤ 1099511627776) : (narD x d).1.length ≤ 1099511627776 := by
  unfold narD
  split
  · rename_i h
    split
    · rename_i h2
      rw [Bool.and_eq_true, decide_eq_true_eq] at h2
      exact Nat.le_trans (narX_len x.2.1 d.length (okX_vars h h2.1) 9 d (dmB_is h2.2) rfl) hd
    · exact Nat.zero_le _
  · exact Nat.zero_le _
theorem law_NarrowDomains (hK : 9223372036854775808 ≤ K) {x : DX} {d : List Int} (hx : okD TX x) : w_FnExactNarrowDomains K (x, d, ()) = some true := by
  have hK2 : 4611686018427387904 ≤ K := by omega
  simp only [w_FnExactNarrowDomains]
  by_cases hdl : (d.length : Int) > 1048576
  · rw [ite_t (decide_eq_true hdl)]
  · rw [ite_f (decide_eq_false hdl)]
    have hd : d.length ≤ 1048576 := by omega
    refine sz_guard hx hK2 _ (fun hs y hy => ?_) (fun y hy => by rw [ite_t (decide_eq_true hy)])
    have hsh := smX_sh hs
    rw [ite_f (decide_eq_false hy)]
    obtain ⟨q, hq, hi, hp⟩ : ∃ q : List Int × Int × Unit, q.1.length ≤ 1099511627776 ∧ i_NarrowDomains K (x, d, ()) = some q ∧ s_NarrowDomains K (x, d, ()) = some q := ⟨_, narD_len (x := x) (by omega), i_NarrowDomains_eq hsh (by omega) hK, s_NarrowDomains_eq hsh (by omega) hK⟩
    obtain ⟨h1, h2⟩ := mk_held hq hK2
    have h3 : w_eqInt64S K (q.1, q.1, ()) = some true := w_eqInt64S_refl (by omega) hK2
    have h4 : w_eqInt64S K (d, d, ()) = some true := w_eqInt64S_refl (by omega) hK2
    have h5 := w_toInt64S_eq (K := K) (l := d) (by omega) hK2
    have hsz : szC x.2.1 ≤ 3145728 := (smX_h hs).2.2
    have h6 : w_markInt64S K (d, (1 : Int) + szC x.2.1, ()) = some ((1 : Int) + szC x.2.1 + d.length, (seqI ((1 : Int) + szC x.2.1) d.length, ())) := w_markInt64S_eq (by omega) hK2 (by omega) (by omega)
    have h7 : decide ((1 : Int) + szC x.2.1 + d.length < 0) = false := decide_eq_false (by omega)
    simp only [smX_to hs hK2, hi, hp, h3, h4, h5, h6, h7, some_bind', w_FnExactNarrowDomains_j13, w_FnExactNarrowDomains_j22, w_FnExactNarrowDomains_j33, smX_eq hs hK2, smX_mark hs hK2, mark_pos, h1, h2, decide_true, Bool.not_true, Bool.false_eq_true, if_false]
end Go.Proofs.Ytieiajeggahipaa.E
namespace Go.Proofs.Ytieiajeggahipaa.E
open Go Go.Proofs
/-- FnExactNarrowDomains, in plain numbers and lists: no condition but what is known of all data. -/
theorem PuFnExactNarrowDomains (x : den as_w_FnExactNarrowDomains) (h : okD as_w_FnExactNarrowDomains x) : ∃ K, w_FnExactNarrowDomains K x = some true := by
  obtain ⟨x, d, u⟩ := x
  exact ⟨9223372036854775808, law_NarrowDomains (Nat.le_refl _) h.1⟩
end Go.Proofs.Ytieiajeggahipaa.E
