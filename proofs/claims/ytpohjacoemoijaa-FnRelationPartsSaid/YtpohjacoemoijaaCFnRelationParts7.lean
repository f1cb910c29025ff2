/-
  What the Go functions that FnRelationParts reaches hand back, each as a plain function with a proof that the call does so, and plain lemmas on them. Conditions: those of each theorem.
-/
import Derived.Test.YtpohjacoemoijaaCFnRelationParts6
namespace Go.Proofs.Ytpohjacoemoijaa.E
open Go Go.Proofs
set_option linter.unusedVariables false
set_option linter.unusedSimpArgs false
set_option maxRecDepth 100000
variable {K : Nat} {R : Type}
/-! identified places, graphs, numbers of tuples -/
def insV (i j x : Nat) : Nat := (((x - x % 2 ^ j) * 2 ||| dg (x.testBit i) j) ||| x % 2 ^ j)
def delV (j t : Nat) : Nat := t % 2 ^ j ||| t / 2 ^ (j + 1) * 2 ^ j
theorem ins_del_d : ((List.range 5).all fun n => (List.range 4).all fun j => (List.range 4).all fun i => !(decide (j < n) && decide (i < j)) ||
    (((List.range 16).all fun t => !(decide (t < 2 ^ n) && (t.testBit i == t.testBit j)) || (decide (delV j t < 2 ^ (n - 1)) && decide (insV i j (delV j t) = t))) &&
      ((List.range 8).all fun x => !decide (x < 2 ^ (n - 1)) || (decide (insV i j x < 2 ^ n) && ((insV i j x).testBit i == (insV i j x).testBit j) && decide (delV j (insV i j x) = x))))) = true := by decide +kernel
theorem imp_of {a b : Bool} (h : (!a || b) = true) (ha : a = true) : b = true := by rw [ha] at h; exact h
theorem ins_del (n : Nat) (hn : n < 5) (j : Nat) (hj : j < 4) (i : Nat) (hi : i < 4) (h1 : j < n) (h2 : i < j) : (∀ t, t < 16 → t < 2 ^ n → t.testBit i = t.testBit j → delV j t < 2 ^ (n - 1) ∧ insV i j (delV j t) = t) ∧
    ∀ x, x < 8 → x < 2 ^ (n - 1) → insV i j x < 2 ^ n ∧ (insV i j x).testBit i = (insV i j x).testBit j ∧ delV j (insV i j x) = x := by
  have h := List.all_eq_true.1 (List.all_eq_true.1 (List.all_eq_true.1 ins_del_d n (List.mem_range.2 hn)) j (List.mem_range.2 hj)) i (List.mem_range.2 hi)
  have h := imp_of h (by rw [decide_eq_true h1, decide_eq_true h2]; rfl)
  rw [Bool.and_eq_true] at h
  refine ⟨fun t ht ht2 hb => ?_, fun x hx hx2 => ?_⟩
  · have := imp_of (List.all_eq_true.1 h.1 t (List.mem_range.2 ht)) (by rw [decide_eq_true ht2, hb]; simp)
    rw [Bool.and_eq_true, decide_eq_true_eq, decide_eq_true_eq] at this
    exact this
  · have := imp_of (List.all_eq_true.1 h.2 x (List.mem_range.2 hx)) (decide_eq_true hx2)
    rw [Bool.and_eq_true, Bool.and_eq_true, decide_eq_true_eq, decide_eq_true_eq, beq_iff_eq] at this
    exact ⟨this.1.1, this.1.2, this.2⟩
def idV (r : DF) (i j : Int) : DF × Int × Unit :=
  if isF 1 r = true then (if 0 ≤ i ∧ i < j ∧ j < r.1 then ((r.1 - 1, ((mkB (fun x => r.2.1.toNat.testBit (insV i.toNat j.toNat x)) (2 ^ (r.1.toNat - 1)) : Nat) : Int), ()), 0, ()) else ((0, 0, ()), 2, ())) else ((0, 0, ()), 1, ())
theorem i_Identify_eq (r : DF) (i j : Int) (hK : 4611686018427387904 ≤ K) : i_IdentifyPlaces K (r, i, j, ()) = some (idV r i j) := by
  simp only [i_IdentifyPlaces, i_IdentifyPlaces_j5, i_IsRelation_eq, some_bind', idV]
  cases h1 : isF 1 r
  · rfl
  obtain ⟨n, B, rfl, hn, hB, h1n⟩ := isF_nat h1 (by decide)
  have hB4 := rel_lt hn hB
  rw [ite_f (c := !true) rfl, if_pos rfl, w64 (x := (n : Int) - 1) (by omega) (by omega), i_within_eq, some_bind']
  by_cases hi : 0 ≤ i ∧ i ≤ (n : Int) - 1
  · rw [decide_eq_true hi.1, decide_eq_true hi.2, ite_f (by rfl), w64 (x := i + 1) (by omega) (by omega), i_within_eq, some_bind']
    by_cases hj : i + 1 ≤ j ∧ j ≤ (n : Int) - 1
    · rw [decide_eq_true hj.1, decide_eq_true hj.2, ite_f (by rfl), if_pos ⟨by omega, by omega, by omega⟩]
      obtain ⟨a, rfl⟩ := Int.eq_ofNat_of_zero_le hi.1
      obtain ⟨c, rfl⟩ := Int.eq_ofNat_of_zero_le (show 0 ≤ j by omega)
      have hn1 : (n : Int) - 1 = ((n - 1 : Nat) : Int) := by omega
      have hp := pw4 (show n - 1 ≤ 4 by omega)
      rw [hn1, i_relationBy_eq (fun x => B.testBit (insV a c x)) (n := n - 1) (by omega) (fun x hx => ?_) hK, some_bind']
      · simp only [Int.toNat_natCast]
      · have hx16 : x < 16 := by omega
        have hc3 : c ≤ 3 := by omega
        have hpc : 2 ^ c ≤ 8 := Nat.le_trans (Nat.pow_le_pow_right (n := 2) (by decide) hc3) (by decide)
        have hp1 : 1 ≤ 2 ^ c := Nat.one_le_two_pow
        have hm : x % 2 ^ c ≤ x := Nat.mod_le _ _
        have hm2 : x % 2 ^ c < 2 ^ c := Nat.mod_lt _ (by omega)
        have hd : dg (x.testBit a) c ≤ 8 := by unfold dg; split <;> omega
        have o1 : (x - x % 2 ^ c) * 2 ||| dg (x.testBit a) c < 2 ^ 5 := Nat.or_lt_two_pow (by omega) (by omega)
        have o2 : insV a c x < 2 ^ 5 := Nat.or_lt_two_pow o1 (by omega)
        simp only [i_IdentifyPlaces_c1]
        rw [ite_t (nn _), shl1 (by omega), w64 (x := ((2 ^ c : Nat) : Int) - 1) (by omega) (by omega), show ((2 ^ c : Nat) : Int) - 1 = ((2 ^ c - 1 : Nat) : Int) by omega, bitI_and (by omega) (by omega), Nat.and_two_pow_sub_one_eq_mod, i_bit_eq _ (by omega), some_bind', ite_t (nn _),
          w64 (x := (x : Int) - ((x % 2 ^ c : Nat) : Int)) (by omega) (by omega), show (x : Int) - ((x % 2 ^ c : Nat) : Int) = ((x - x % 2 ^ c : Nat) : Int) by omega, show (1 : Int) = ((1 : Nat) : Int) from rfl, shlI_n _ _ (by omega), shl_bt (by omega), Nat.pow_one, bitI_or (by omega) (by omega), bitI_or (by omega) (by omega), i_Relation_has_eq _ (by omega), some_bind']
        rfl
    · have : (decide (i + 1 ≤ j) && decide (j ≤ (n : Int) - 1)) = false := by
        rw [Bool.and_eq_false_iff]
        by_cases h : i + 1 ≤ j
        · exact .inr (decide_eq_false fun h' => hj ⟨h, h'⟩)
        · exact .inl (decide_eq_false h)
      rw [this, ite_t (by rfl), if_neg (by show ¬ (0 ≤ i ∧ i < j ∧ j < (n : Int)); omega)]
  · have : (decide (0 ≤ i) && decide (i ≤ (n : Int) - 1)) = false := by
      rw [Bool.and_eq_false_iff]
      by_cases h : 0 ≤ i
      · exact .inr (decide_eq_false fun h' => hi ⟨h, h'⟩)
      · exact .inl (decide_eq_false h)
    rw [this, ite_t (by rfl), if_neg (by show ¬ (0 ≤ i ∧ i < j ∧ j < (n : Int)); omega)]
def idL (i j : Nat) (q : List Nat) (D : Nat) : Nat := imgV (delV j) (q.filter fun t => t.testBit i == t.testBit j) D
theorem bt_eqd' (t i j : Nat) : (!decide (bt t i = bt t j)) = !(t.testBit i == t.testBit j) := by
  unfold bt; cases t.testBit i <;> cases t.testBit j <;> rfl
theorem delV_lt {j t : Nat} (hj : j ≤ 3) (ht : t < 16) : delV j t < 16 := by
  have h8 : 2 ^ j ≤ 8 := Nat.le_trans (Nat.pow_le_pow_right (n := 2) (by decide) hj) (by decide)
  have hp1 : 0 < 2 ^ j := Nat.two_pow_pos j
  have hm2 : t % 2 ^ j < 2 ^ j := Nat.mod_lt _ hp1
  have hdv : t / 2 ^ (j + 1) * 2 ^ j ≤ t := by
    have h2 : t / 2 ^ (j + 1) * 2 ^ (j + 1) ≤ t := Nat.div_mul_le_self _ _
    rw [Nat.pow_succ] at h2 ⊢
    have : t / (2 ^ j * 2) * 2 ^ j ≤ t / (2 ^ j * 2) * (2 ^ j * 2) := Nat.mul_le_mul_left _ (by omega)
    omega
  exact Nat.or_lt_two_pow (n := 4) (by omega) (by omega)
theorem s_id_l7 (i j : Nat) (hj : j ≤ 3) (hi : i ≤ 3) (v6 : DF) (mp : Int) {L : List Nat} (hL : L.length ≤ 16) (ht : ∀ t ∈ L, t < 16) (kx : DF → DF → Option R) : ∀ (q p : List Nat) (k D : Nat), D < 65536 → L = p ++ q → q.length < k →
    s_IdentifyPlaces_l7 K k (i : Int) (j : Int) v6 (mp, (D : Int), ()) (L.map fun (a : Nat) => (a : Int)) (p.length : Int) kx = kx v6 (mp, ((idL i j q D : Nat) : Int), ())
  | [], p, k + 1, D, hD, e, _ => by
    simp only [s_IdentifyPlaces_l7]; rw [ite_f (decide_eq_false (by rw [e]; simp))]; rfl
  | t :: q, p, k + 1, D, hD, e, hk => by
    have h16 : t < 16 := ht t (by rw [e]; simp)
    have hdl := delV_lt hj h16
    have hb : 2 ^ delV j t < 2 ^ 16 := Nat.pow_lt_pow_right (show 1 < 2 by decide) hdl
    have ih := fun D' hD' => s_id_l7 i j hj hi v6 mp hL ht kx q (p ++ [t]) k D' hD' (by rw [e, mid_app]) (by simp at hk; omega)
    simp only [snoc_len] at ih
    have hpl : p.length < L.length := by rw [e]; simp
    have g1 : (L.map fun (a : Nat) => (a : Int)).getD ((p.length : Int)).toNat 0 = (t : Int) := by rw [getD_map, show L.getD p.length 0 = t from by rw [e]; exact getD_mid p q t 0]
    have h8 : 2 ^ j ≤ 8 := Nat.le_trans (Nat.pow_le_pow_right (n := 2) (by decide) hj) (by decide)
    have hp1 : 1 ≤ 2 ^ j := Nat.one_le_two_pow
    have hdv : t >>> (j + 1) ≤ t := by rw [Nat.shiftRight_eq_div_pow]; exact Nat.div_le_self _ _
    have hmul : t >>> (j + 1) * 2 ^ j ≤ 16 * 8 := Nat.mul_le_mul (by omega) h8
    have hand : t &&& (2 ^ j - 1) ≤ t := Nat.and_le_left
    simp only [s_IdentifyPlaces_l7]
    rw [ite_t (decide_eq_true (by simp; omega)), ite_t (bnds_n (by simp; omega)), u64n (n := i) (by omega), u64n (n := j) (by omega), ite_t (nn _), ite_t (nn _), g1, bitI_bt _ (by omega), bitI_bt _ (by omega), bt_eqd', w64s (n := p.length) (by omega)]
    cases hc : t.testBit i == t.testBit j
    · rw [ite_t (c := !false) rfl, ih D hD]
      rw [idL, idL, List.filter_cons_of_neg (by rw [hc]; decide)]
    · rw [ite_f (c := !true) rfl, ite_t (nn _), w64s (n := j) (by omega), u64n (n := j + 1) (by omega), ite_t (nn _), ite_t (nn _), shl1 (by omega), w64 (x := ((2 ^ j : Nat) : Int) - 1) (by omega) (by omega), show ((2 ^ j : Nat) : Int) - 1 = ((2 ^ j - 1 : Nat) : Int) by omega, bitI_and (by omega) (by omega), shrI_n _ _ (by omega), shlI_n _ _ (by omega), bitI_or (by omega) (by omega),
        Nat.and_two_pow_sub_one_eq_mod, Nat.shiftRight_eq_div_pow, show t % 2 ^ j ||| t / 2 ^ (j + 1) * 2 ^ j = delV j t from rfl, u64n (n := delV j t) (by omega), ite_t (nn _), shl1 (by omega), bitI_or (by omega) (by omega), ih _ (Nat.or_lt_two_pow (n := 16) hD hb)]
      rw [idL, idL, List.filter_cons_of_pos (by rw [hc])]
      rfl
theorem s_Identify_eq (r : DF) (i j : Int) (hi62 : -4611686018427387904 < i) (hj62 : -4611686018427387904 < j) (hK : 4611686018427387904 ≤ K) : s_IdentifyPlaces K (r, i, j, ()) = some (idV r i j) := by
  simp only [s_IdentifyPlaces, s_IdentifyPlaces_j5, s_l06Is_eq, some_bind', idV]
  cases h1 : isF 1 r
  · rfl
  obtain ⟨n, B, rfl, hn, hB, h1n⟩ := isF_nat h1 (by decide)
  have hB4 := rel_lt hn hB
  rw [ite_f (c := !true) rfl, if_pos rfl, w64 (x := (n : Int) - 1) (by omega) (by omega), s_l01In_eq, some_bind']
  by_cases hj : 0 ≤ j ∧ j ≤ (n : Int) - 1
  · rw [decide_eq_true hj.1, decide_eq_true hj.2, ite_f (by rfl), w64 (x := j - 1) (by omega) (by omega), s_l01In_eq, some_bind']
    by_cases hi : 0 ≤ i ∧ i ≤ j - 1
    · rw [decide_eq_true hi.1, decide_eq_true hi.2, ite_f (by rfl), if_pos ⟨by omega, by omega, by omega⟩]
      obtain ⟨a, rfl⟩ := Int.eq_ofNat_of_zero_le hi.1
      obtain ⟨c, rfl⟩ := Int.eq_ofNat_of_zero_le hj.1
      have hp4 := pw4 hn
      have hl16 := relL_len B n
      have := s_id_l7 (K := K) (R := DF × Int × Unit) a c (by omega) (by omega) ((0 : Int), (0 : Int), ()) ((n : Int) - 1) (L := relL B n) (by omega) (fun t ht => by have := relL_lt ht; omega) (fun z13 z14 => some (z14, (0 : Int), ())) (relL B n) [] K 0 (by decide) rfl (by omega)
      rw [List.length_nil, show ((0 : Nat) : Int) = 0 from rfl] at this
      rw [s_l06List_eq hn (by omega) hK, some_bind', this, Int.toNat_natCast, Int.toNat_natCast, Int.toNat_natCast, Int.toNat_natCast]
      obtain ⟨f1, f2⟩ := ins_del n (by omega) c (by omega) a (by omega) (by omega) (by omega)
      have e : idL a c (relL B n) 0 = mkB (fun x => B.testBit (insV a c x)) (2 ^ (n - 1)) := by
        apply Nat.eq_of_testBit_eq
        intro x
        rw [idL, imgV_bit, Nat.zero_testBit, Bool.false_or, mkB_bit, Bool.eq_iff_iff, List.any_eq_true, Bool.and_eq_true, decide_eq_true_eq]
        have hp3 : 2 ^ (n - 1) ≤ 8 := Nat.le_trans (Nat.pow_le_pow_right (n := 2) (by decide) (show n - 1 ≤ 3 by omega)) (by decide)
        constructor
        · rintro ⟨t, ht, h⟩
          rw [List.mem_filter, beq_iff_eq] at ht
          have h := of_decide_eq_true h
          have htl := relL_lt ht.1
          obtain ⟨g1, g2⟩ := f1 t (by omega) htl ht.2
          rw [h] at g1 g2
          exact ⟨g1, by rw [g2]; exact (mem_relL.1 ht.1).2⟩
        · rintro ⟨h1, h2⟩
          obtain ⟨g1, g2, g3⟩ := f2 x (by omega) h1
          exact ⟨insV a c x, List.mem_filter.2 ⟨mem_relL.2 ⟨g1, h2⟩, beq_iff_eq.2 g2⟩, decide_eq_true g3⟩
      rw [e]
    · have : (decide (0 ≤ i) && decide (i ≤ j - 1)) = false := by
        rw [Bool.and_eq_false_iff]
        by_cases h : 0 ≤ i
        · exact .inr (decide_eq_false fun h' => hi ⟨h, h'⟩)
        · exact .inl (decide_eq_false h)
      rw [this, ite_t (by rfl), if_neg (by show ¬ (0 ≤ i ∧ i < j ∧ j < (n : Int)); omega)]
  · have : (decide (0 ≤ j) && decide (j ≤ (n : Int) - 1)) = false := by
      rw [Bool.and_eq_false_iff]
      by_cases h : 0 ≤ j
      · exact .inr (decide_eq_false fun h' => hj ⟨h, h'⟩)
      · exact .inl (decide_eq_false h)
    rw [this, ite_t (by rfl), if_neg (by show ¬ (0 ≤ i ∧ i < j ∧ j < (n : Int)); omega)]
variable {K : Nat} {R : Type}
/-! graphs of functions -/
def grG (n b x : Nat) : Bool := decide ((b.testBit (x % 2 ^ n)).toNat = x / 2 ^ n)
def grV (f : DF) : DF × Int × Unit :=
  if isF 0 f = true then (if f.1 = 4 then ((0, 0, ()), 3, ()) else ((f.1 + 1, ((mkB (grG f.1.toNat f.2.1.toNat) (2 ^ (f.1.toNat + 1)) : Nat) : Int), ()), 0, ())) else ((0, 0, ()), 1, ())
theorem bt_toNat (b j : Nat) : bt b j = (((b.testBit j).toNat : Nat) : Int) := by unfold bt; cases b.testBit j <;> rfl
theorem i_Graph_eq (f : DF) (hK : 4611686018427387904 ≤ K) : i_GraphOf K (f, ()) = some (grV f) := by
  simp only [i_GraphOf, i_IsFunc_eq, some_bind', grV]
  cases h1 : isF 0 f
  · rfl
  obtain ⟨n, b, rfl, hn, hb, _⟩ := isF_nat h1 (by decide)
  have hb4 := rel_lt hn hb
  rw [ite_f (c := !true) rfl, if_pos rfl]
  by_cases h4 : (n : Int) = 4
  · rw [ite_t (decide_eq_true h4), if_pos h4]
  · have hp := pw4 hn
    have hp1 : 1 ≤ 2 ^ n := Nat.one_le_two_pow
    rw [ite_f (decide_eq_false h4), if_neg h4, w64s (by omega), i_relationBy_eq (grG n b) (n := n + 1) (by omega) (fun x hx => ?_) hK, some_bind']
    · simp only [Int.toNat_natCast]; rfl
    · have hx16 : x < 16 := Nat.lt_of_lt_of_le hx (pw4 (show n + 1 ≤ 4 by omega))
      simp only [i_GraphOf_c1]
      rw [i_Func_rows_eq _ (show n < 63 by omega), some_bind', w64 (x := ((2 ^ n : Nat) : Int) - 1) (by omega) (by omega), show ((2 ^ n : Nat) : Int) - 1 = ((2 ^ n - 1 : Nat) : Int) by omega, bitI_and (by omega) (by omega), Nat.and_two_pow_sub_one_eq_mod, i_Func_at_eq _ (by omega), some_bind', ite_t (nn _), shrI_n _ _ (by omega), Nat.shiftRight_eq_div_pow, bt_toNat, grG]
      congr 1
      rw [Bool.eq_iff_iff, decide_eq_true_eq, decide_eq_true_eq, Int.ofNat_inj]
theorem s_gr_l7 {n b : Nat} (hn : n ≤ 3) (hb : b < 65536) (v2 : DF) (mp : Int) (kx : DF → DF → Option R) : ∀ (m i k : Nat), i + m = 2 ^ n → m < k →
    s_GraphOf_l7 K k ((n : Int), (b : Int), ()) v2 (mp, ((imgV (fun v => v + dg (b.testBit v) n) (List.range i) 0 : Nat) : Int), ()) (i : Int) kx = kx v2 (mp, ((imgV (fun v => v + dg (b.testBit v) n) (List.range (2 ^ n)) 0 : Nat) : Int), ())
  | 0, i, k + 1, e, _ => by
    obtain rfl : i = 2 ^ n := by omega
    simp only [s_GraphOf_l7]; rw [s_l01Rows_eq (by omega), some_bind', ite_f (decide_eq_false (by omega))]
  | m + 1, i, k + 1, e, hk => by
    have ih := s_gr_l7 hn hb v2 mp kx m (i + 1) k (by omega) (by omega)
    have h8 : 2 ^ n ≤ 8 := Nat.le_trans (Nat.pow_le_pow_right (n := 2) (by decide) hn) (by decide)
    have hg : ∀ v, v < 2 ^ n → v + dg (b.testBit v) n < 16 := fun v hv => by unfold dg; split <;> omega
    have hI : imgV (fun v => v + dg (b.testBit v) n) (List.range i) 0 < 2 ^ 16 := imgV_lt _ (by decide) fun v hv => hg v (by have := List.mem_range.1 hv; omega)
    have hgi := hg i (by omega)
    have h16 : 2 ^ (i + dg (b.testBit i) n) < 2 ^ 16 := Nat.pow_lt_pow_right (show 1 < 2 by decide) hgi
    have es : imgV (fun v => v + dg (b.testBit v) n) (List.range (i + 1)) 0 = imgV (fun v => v + dg (b.testBit v) n) (List.range i) 0 ||| 2 ^ (i + dg (b.testBit i) n) := by
      rw [List.range_succ, imgV, List.foldl_append]; rfl
    rw [es] at ih
    simp only [s_GraphOf_l7]
    rw [s_l01Rows_eq (by omega), some_bind', ite_t (decide_eq_true (by omega)), s_l01At_eq (by omega) (by omega), some_bind', u64n (n := n) (by omega), ite_t (nn _), shl_bt (by omega), or_dg (by omega) (by omega), u64n (n := i + dg (b.testBit i) n) (by omega), ite_t (nn _), shl1 (by omega), bitI_or (by omega) (by omega), w64s (by omega), ih]
theorem gr_bits {n b : Nat} : imgV (fun v => v + dg (b.testBit v) n) (List.range (2 ^ n)) 0 = mkB (grG n b) (2 ^ (n + 1)) := by
  have hp1 : 0 < 2 ^ n := Nat.two_pow_pos n
  apply Nat.eq_of_testBit_eq
  intro x
  rw [imgV_bit, Nat.zero_testBit, Bool.false_or, mkB_bit, Bool.eq_iff_iff, List.any_eq_true, Bool.and_eq_true, decide_eq_true_eq, grG, decide_eq_true_eq, Nat.pow_succ]
  constructor
  · rintro ⟨v, hv, h⟩
    have hv := List.mem_range.1 hv
    have h := of_decide_eq_true h
    subst h
    have e : v + dg (b.testBit v) n = v + 2 ^ n * (b.testBit v).toNat := by unfold dg; cases b.testBit v <;> simp
    have hle : (b.testBit v).toNat ≤ 1 := by cases b.testBit v <;> decide
    rw [e, Nat.add_mul_mod_self_left, Nat.add_mul_div_left _ _ hp1, Nat.mod_eq_of_lt hv, Nat.div_eq_of_lt hv]
    have : 2 ^ n * (b.testBit v).toNat ≤ 2 ^ n * 1 := Nat.mul_le_mul_left _ hle
    exact ⟨by omega, by omega⟩
  · rintro ⟨h1, h2⟩
    refine ⟨x % 2 ^ n, List.mem_range.2 (Nat.mod_lt _ hp1), decide_eq_true ?_⟩
    have e : dg (b.testBit (x % 2 ^ n)) n = 2 ^ n * (b.testBit (x % 2 ^ n)).toNat := by unfold dg; cases b.testBit (x % 2 ^ n) <;> simp
    rw [e, h2]
    exact Nat.mod_add_div x (2 ^ n)
theorem s_Graph_eq (f : DF) (hK : 4611686018427387904 ≤ K) : s_GraphOf K (f, ()) = some (grV f) := by
  simp only [s_GraphOf, s_l01Is_eq, some_bind', grV]
  cases h1 : isF 0 f
  · rfl
  obtain ⟨n, b, rfl, hn, hb, _⟩ := isF_nat h1 (by decide)
  have hb4 := rel_lt hn hb
  rw [ite_f (c := !true) rfl, if_pos rfl]
  by_cases h4 : (n : Int) = 4
  · rw [ite_t (decide_eq_true (by omega)), if_pos h4]
  · have := s_gr_l7 (K := K) (R := DF × Int × Unit) (n := n) (b := b) (by omega) hb4 ((0 : Int), (0 : Int), ()) (((n + 1 : Nat) : Int)) (fun z6 z7 => some (z7, (0 : Int), ())) (2 ^ n) 0 K (by omega) (by have := pw4 hn; omega)
    rw [show imgV (fun v => v + dg (b.testBit v) n) (List.range 0) 0 = 0 from rfl, show ((0 : Nat) : Int) = 0 from rfl] at this
    rw [ite_f (decide_eq_false (by omega)), if_neg h4, w64s (by omega), this, gr_bits]
    simp only [Int.toNat_natCast]; rfl
/-! numbers of tuples -/
def cnt (g : Nat → Bool) : Nat → Nat
  | 0 => 0
  | n + 1 => cnt g n + (g n).toNat
theorem cnt_congr {g h : Nat → Bool} : ∀ (n : Nat), (∀ i, i < n → g i = h i) → cnt g n = cnt h n
  | 0, _ => rfl
  | n + 1, e => by rw [cnt, cnt, cnt_congr n fun i hi => e i (by omega), e n (by omega)]
theorem cnt_add (g : Nat → Bool) (n : Nat) : ∀ m, cnt g (n + m) = cnt g n + cnt (fun i => g (n + i)) m
  | 0 => rfl
  | m + 1 => by rw [← Nat.add_assoc, cnt, cnt_add g n m, cnt, Nat.add_assoc]
theorem cnt_false : ∀ n, cnt (fun _ => false) n = 0
  | 0 => rfl
  | n + 1 => by rw [cnt, cnt_false n]; rfl
/-- how many digits are 1, from below -/
def pcN : Nat → Nat → Nat
  | 0, _ => 0
  | n + 1, a => a % 2 + pcN n (a / 2)
theorem pcN_cnt : ∀ (n a : Nat), pcN n a = cnt a.testBit n
  | 0, a => rfl
  | n + 1, a => by
    rw [pcN, pcN_cnt n, Nat.add_comm n 1, cnt_add]
    have e0 : cnt a.testBit 1 = a % 2 := by
      show 0 + (a.testBit 0).toNat = _
      rw [Nat.testBit_zero, Nat.zero_add]
      rcases Nat.mod_two_eq_zero_or_one a with h | h <;> rw [h] <;> rfl
    rw [e0]
    congr 1
    exact cnt_congr n fun i _ => by rw [Nat.add_comm 1 i, Nat.testBit_succ]
def swarN (a : Nat) : Nat :=
  let x2 := ((a >>> 1) &&& 6148914691236517205) + (a &&& 6148914691236517205)
  let x4 := ((x2 >>> 2) &&& 3689348814741910323) + (x2 &&& 3689348814741910323)
  let x5 := ((x4 >>> 4) + x4) &&& 1085102592571150095
  let y := x5 + (x5 >>> 8)
  let x7 := y + (y >>> 16)
  (x7 + (x7 >>> 32)) &&& 127
theorem bitU_and {a b : Nat} (ha : a < 18446744073709551616) (hb : b < 18446744073709551616) : bitI .and .u64 (a : Int) (b : Int) = ((a &&& b : Nat) : Int) := by
  have e : bitI .and .u64 (a : Int) (b : Int) = IntKind.u64.wrap (((BitVec.ofInt 64 (a : Int) &&& BitVec.ofInt 64 (b : Int) : BitVec 64).toNat : Nat) : Int) := by unfold bitI; rw [gI_eq, gI_eq]; rfl
  have h : a &&& b ≤ a := Nat.and_le_left
  rw [e, BitVec.toNat_and, BitVec.toNat_ofInt, BitVec.toNat_ofInt, show ((2 ^ 64 : Nat) : Int) = 18446744073709551616 from rfl, show ((a : Int) % 18446744073709551616).toNat = a by omega, show ((b : Int) % 18446744073709551616).toNat = b by omega, u64n (by omega)]
theorem shrU_n (a j : Nat) (ha : a < 9223372036854775808) : shrI .u64 (a : Int) (j : Int) = ((a >>> j : Nat) : Int) := shrI_n a j ha
theorem swar_eq {a : Nat} (h : a < 65536) : math_bits_OnesCount64 K (IntKind.u64.wrap (a : Int), ()) = some ((swarN a : Nat) : Int) := by
  have s1 : a >>> 1 ≤ a := by rw [Nat.shiftRight_eq_div_pow]; exact Nat.div_le_self _ _
  have a1 : (a >>> 1) &&& 6148914691236517205 ≤ a >>> 1 := Nat.and_le_left
  have a2 : a &&& 6148914691236517205 ≤ a := Nat.and_le_left
  obtain ⟨x2, h2⟩ : ∃ x, x = ((a >>> 1) &&& 6148914691236517205) + (a &&& 6148914691236517205) := ⟨_, rfl⟩
  have s2 : x2 >>> 2 ≤ x2 := by rw [Nat.shiftRight_eq_div_pow]; exact Nat.div_le_self _ _
  have a3 : (x2 >>> 2) &&& 3689348814741910323 ≤ x2 >>> 2 := Nat.and_le_left
  have a4 : x2 &&& 3689348814741910323 ≤ x2 := Nat.and_le_left
  obtain ⟨x4, h4⟩ : ∃ x, x = ((x2 >>> 2) &&& 3689348814741910323) + (x2 &&& 3689348814741910323) := ⟨_, rfl⟩
  have s4 : x4 >>> 4 ≤ x4 := by rw [Nat.shiftRight_eq_div_pow]; exact Nat.div_le_self _ _
  obtain ⟨x5, h5⟩ : ∃ x, x = ((x4 >>> 4) + x4) &&& 1085102592571150095 := ⟨_, rfl⟩
  have a5 : x5 ≤ (x4 >>> 4) + x4 := h5 ▸ Nat.and_le_left
  have s5 : x5 >>> 8 ≤ x5 := by rw [Nat.shiftRight_eq_div_pow]; exact Nat.div_le_self _ _
  obtain ⟨y, hy⟩ : ∃ x, x = x5 + (x5 >>> 8) := ⟨_, rfl⟩
  have s6 : y >>> 16 ≤ y := by rw [Nat.shiftRight_eq_div_pow]; exact Nat.div_le_self _ _
  obtain ⟨x7, h7⟩ : ∃ x, x = y + (y >>> 16) := ⟨_, rfl⟩
  have s7 : x7 >>> 32 ≤ x7 := by rw [Nat.shiftRight_eq_div_pow]; exact Nat.div_le_self _ _
  have e : swarN a = (x7 + (x7 >>> 32)) &&& 127 := by rw [h7, hy, h5, h4, h2]; rfl
  have c1 : (6148914691236517205 : Int) = ((6148914691236517205 : Nat) : Int) := rfl
  have c2 : (3689348814741910323 : Int) = ((3689348814741910323 : Nat) : Int) := rfl
  have c3 : (1085102592571150095 : Int) = ((1085102592571150095 : Nat) : Int) := rfl
  have d1 : (1 : Int) = ((1 : Nat) : Int) := rfl
  have d2 : (2 : Int) = ((2 : Nat) : Int) := rfl
  have d4 : (4 : Int) = ((4 : Nat) : Int) := rfl
  have d8 : (8 : Int) = ((8 : Nat) : Int) := rfl
  have d16 : (16 : Int) = ((16 : Nat) : Int) := rfl
  have d32 : (32 : Int) = ((32 : Nat) : Int) := rfl
  have d127 : (127 : Int) = ((127 : Nat) : Int) := rfl
  simp only [math_bits_OnesCount64]
  rw [u64n (n := a) (by omega), c1, c2, c3, d1, d2, d4, d8, d16, d32, d127, shrU_n a _ (by omega), bitU_and (by omega) (by omega), bitU_and (by omega) (by omega), ← Int.natCast_add, ← h2, u64n (n := x2) (by omega),
    shrU_n x2 _ (by omega), bitU_and (by omega) (by omega), bitU_and (by omega) (by omega), ← Int.natCast_add, ← h4, u64n (n := x4) (by omega), shrU_n x4 _ (by omega), ← Int.natCast_add, u64n (n := (x4 >>> 4) + x4) (by omega), bitU_and (by omega) (by omega), ← h5,
    shrU_n x5 _ (by omega), ← Int.natCast_add, ← hy, u64n (n := y) (by omega), shrU_n y _ (by omega), ← Int.natCast_add, ← h7, u64n (n := x7) (by omega), shrU_n x7 _ (by omega), ← Int.natCast_add, u64n (n := x7 + (x7 >>> 32)) (by omega), w64n (n := x7 + (x7 >>> 32)) (by omega), bitI_and (by omega) (by omega), ← e]
theorem ones_d : ((List.range 256).all fun c => (List.range 256).all fun a => Nat.beq (swarN (c * 256 + a)) (pcN 16 (c * 256 + a))) = true := by decide +kernel
theorem i_ones_eq {a : Nat} (h : a < 65536) : i_ones K ((a : Int), ()) = some (cnt a.testBit 16 : Int) := by
  have := Nat.eq_of_beq_eq_true (List.all_eq_true.1 (List.all_eq_true.1 ones_d (a / 256) (List.mem_range.2 (by omega))) (a % 256) (List.mem_range.2 (by omega)))
  rw [show a / 256 * 256 + a % 256 = a by omega] at this
  simp only [i_ones]
  rw [swar_eq h, some_bind', this, pcN_cnt]
theorem cnt_mk (g : Nat → Bool) {N : Nat} (hN : N ≤ 16) : cnt (mkB g N).testBit 16 = cnt g N := by
  rw [show (16 : Nat) = N + (16 - N) by omega, cnt_add, cnt_congr (h := g) N fun i hi => by rw [mkB_bit, decide_eq_true hi, Bool.true_and], cnt_congr (h := fun _ => false) (16 - N) fun i hi => by rw [mkB_bit, decide_eq_false (by omega), Bool.false_and], cnt_false, Nat.add_zero]
theorem cnt_prod (r s : Nat → Bool) (A : Nat) (hA : 0 < A) : ∀ M, cnt (fun j => r (j % A) && s (j / A)) (A * M) = cnt r A * cnt s M
  | 0 => rfl
  | M + 1 => by
    rw [Nat.mul_succ, cnt_add, cnt_prod r s A hA M, cnt, Nat.mul_add]
    congr 1
    cases hs : s M
    · rw [cnt_congr (h := fun _ => false) A fun i hi => by rw [Nat.mul_add_div hA, Nat.div_eq_of_lt hi, Nat.add_zero, hs, Bool.and_false], cnt_false]; rfl
    · rw [cnt_congr (h := r) A fun i hi => by rw [Nat.mul_add_div hA, Nat.div_eq_of_lt hi, Nat.add_zero, hs, Bool.and_true, Nat.mul_add_mod, Nat.mod_eq_of_lt hi]]; exact (Nat.mul_one _).symm
theorem cnt_not (f : Nat → Bool) : ∀ n, cnt (fun i => !f i) n + cnt f n = n
  | 0 => rfl
  | n + 1 => by
    have := cnt_not f n
    rw [cnt, cnt]
    cases f n <;> simp <;> omega
theorem cnt_graph (n b : Nat) : cnt (grG n b) (2 ^ (n + 1)) = 2 ^ n := by
  have hp : 0 < 2 ^ n := Nat.two_pow_pos n
  rw [Nat.pow_succ, Nat.mul_two, cnt_add, cnt_congr (h := fun i => !b.testBit i) (2 ^ n) fun i hi => by
      rw [grG, Nat.mod_eq_of_lt hi, Nat.div_eq_of_lt hi]; cases b.testBit i <;> rfl,
    cnt_congr (g := fun i => grG n b (2 ^ n + i)) (h := b.testBit) (2 ^ n) fun i hi => by
      rw [grG, Nat.add_mod_left, Nat.add_div_left _ hp, Nat.mod_eq_of_lt hi, Nat.div_eq_of_lt hi]; cases b.testBit i <;> rfl]
  exact cnt_not _ _
theorem i_Count_eq {n B : Nat} (hn : n ≤ 4) (hn1 : 1 ≤ n) (hB : B < 2 ^ 2 ^ n) : i_CountTuples K (((n : Int), (B : Int), ()), ()) = some ((cnt B.testBit (2 ^ n) : Int), 0, ()) := by
  have hF : isF 1 ((n : Int), (B : Int), ()) = true := by
    simp only [isF, Bool.and_eq_true, decide_eq_true_eq, Int.toNat_natCast]
    refine ⟨⟨⟨by omega, by omega⟩, by omega⟩, ?_⟩
    exact Int.ofNat_lt.2 hB
  simp only [i_CountTuples]
  rw [i_IsRelation_eq, some_bind', hF, ite_f (c := !true) rfl, i_ones_eq (rel_lt hn hB), some_bind']
  have := cnt_mk B.testBit (pw4 hn)
  rw [mkB_self hB] at this
  rw [this]
end Go.Proofs.Ytpohjacoemoijaa.E
namespace Go.Proofs.Ytpohjacoemoijaa.E
open Go Go.Proofs Go.Proofs.Ytpohjacoemoijaa
set_option maxRecDepth 100000
set_option linter.unusedVariables false
noncomputable def as_i_commute : Ty := (.pair tq0 (.pair tq0 .unit))
noncomputable def sp_i_commute (F : (dq0 × dq0 × Unit) → Option Bool) : FnSpec := ⟨as_i_commute, [false, false], .bool, F⟩
noncomputable def i_commute_l7 {R : Type} (K : Nat) : Nat → dq0 → dq0 → Int → Int → Int → Int → Int → Int → Int → Int → Int → (dq0 → dq0 → Int → Int → Int → Int → Int → Int → Int → Option R) → Option R
  | 0, _, _, _, _, _, _, _, _, _, _, _, _ => none
  | k + 1, v2, v3, v5, v6, v7, v8, v9, v21, v22, v25, v26, kx2 =>
    (if (decide (v26 < v25)) = true then
    (if (decide ((0 : Int) ≤ (IntKind.i64.wrap (v26 * v6)))) = true then
    (if (decide ((0 : Int) ≤ v6)) = true then
    let x1 := (bitI .and .i64 (shrI .i64 v7 (IntKind.i64.wrap (v26 * v6))) (IntKind.i64.wrap ((shlI .i64 (1 : Int) v6) - (1 : Int))))
    (i_Func_at K (v3, x1, ())).bind fun y2 =>
    (if (decide ((0 : Int) ≤ v26)) = true then
    i_commute_l7 K k v2 v3 v5 v6 v7 (bitI .or .i64 v8 (shlI .i64 y2 v26)) v9 v21 v22 v25 (IntKind.i64.wrap (v26 + (1 : Int))) kx2
    else
    none)
    else
    none)
    else
    none)
    else
    kx2 v2 v3 v5 v6 v7 v8 v9 v21 v22)
noncomputable def i_commute_l16 {R : Type} (K : Nat) : Nat → dq0 → dq0 → Int → Int → Int → Int → Int → Int → Int → Int → Int → Int → Int → Int → Int → (dq0 → dq0 → Int → Int → Int → Int → Int → Int → Int → Int → Int → Int → Int → Option R) → Option R
  | 0, _, _, _, _, _, _, _, _, _, _, _, _, _, _, _, _ => none
  | k + 1, v2, v3, v5, v6, v7, v8, v9, v11, v12, v21, v22, v45, v46, v49, v50, kx6 =>
    (if (decide (v50 < v49)) = true then
    (i_bit K (v7, (IntKind.i64.wrap ((IntKind.i64.wrap (v50 * v6)) + v11)), ())).bind fun y12 =>
    (if (decide ((0 : Int) ≤ v50)) = true then
    i_commute_l16 K k v2 v3 v5 v6 v7 v8 v9 v11 (bitI .or .i64 v12 (shlI .i64 y12 v50)) v21 v22 v45 v46 v49 (IntKind.i64.wrap (v50 + (1 : Int))) kx6
    else
    none)
    else
    kx6 v2 v3 v5 v6 v7 v8 v9 v11 v12 v21 v22 v45 v46)
noncomputable def i_commute_l12 {R : Type} (K : Nat) : Nat → dq0 → dq0 → Int → Int → Int → Int → Int → Int → Int → Int → Int → (dq0 → dq0 → Int → Int → Int → Int → Int → Int → Option R) → Option R
  | 0, _, _, _, _, _, _, _, _, _, _, _, _ => none
  | k + 1, v2, v3, v5, v6, v7, v8, v9, v21, v22, v45, v46, kx4 =>
    (if (decide (v46 < v45)) = true then
    i_commute_l16 K k v2 v3 v5 v6 v7 v8 v9 v46 (0 : Int) v21 v22 v45 v46 v5 (0 : Int) (fun z13 z14 z15 z16 z17 z18 z19 z20 z21 z22 z23 z24 z25 =>
    (i_Func_at K (z13, z21, ())).bind fun y26 =>
    (if (decide ((0 : Int) ≤ z20)) = true then
    i_commute_l12 K k z13 z14 z15 z16 z17 z18 (bitI .or .i64 z19 (shlI .i64 y26 z20)) z22 z23 z24 (IntKind.i64.wrap (z25 + (1 : Int))) kx4
    else
    none))
    else
    kx4 v2 v3 v5 v6 v8 v9 v21 v22)
noncomputable def i_commute_l3 {R : Type} (K : Nat) : Nat → dq0 → dq0 → Int → Int → Int → Int → (Option R) → (Bool → Option R) → Option R
  | 0, _, _, _, _, _, _, _, _ => none
  | k + 1, v2, v3, v5, v6, v21, v22, kx0, kr =>
    (if (decide (v22 < v21)) = true then
    i_commute_l7 K k v2 v3 v5 v6 v22 (0 : Int) (0 : Int) v21 v22 v5 (0 : Int) (fun z3 z4 z5 z6 z7 z8 z9 z10 z11 =>
    i_commute_l12 K k z3 z4 z5 z6 z7 z8 z9 z10 z11 z6 (0 : Int) (fun z27 z28 z29 z30 z31 z32 z33 z34 =>
    (i_Func_at K (z27, z31, ())).bind fun y35 =>
    (i_Func_at K (z28, z32, ())).bind fun y36 =>
    (if (!decide (y35 = y36)) = true then
    kr false
    else
    i_commute_l3 K k z27 z28 z29 z30 z33 (IntKind.i64.wrap (z34 + (1 : Int))) kx0 kr)))
    else
    kx0)
noncomputable def i_commute (K : Nat) (x : (dq0 × dq0 × Unit)) : Option Bool :=
    (if (decide ((0 : Int) ≤ (IntKind.i64.wrap (x.1.1 * x.2.1.1)))) = true then
    i_commute_l3 K K x.1 x.2.1 x.1.1 x.2.1.1 (shlI .i64 (1 : Int) (IntKind.i64.wrap (x.1.1 * x.2.1.1))) (0 : Int) (some true) (fun z37 =>
    some z37)
    else
    none)
noncomputable def X0_i_commute : Lv := []
noncomputable def X2_i_commute : Lv := [(2, (.bx (.v tq0))), (3, (.bx (.v tq0))), (5, (.v (.int .i64))), (6, (.v (.int .i64))), (7, (.v (.int .i64))), (8, (.v (.int .i64))), (9, (.v (.int .i64))), (21, (.v (.int .i64))), (22, (.v (.int .i64)))]
noncomputable def X4_i_commute : Lv := [(2, (.bx (.v tq0))), (3, (.bx (.v tq0))), (5, (.v (.int .i64))), (6, (.v (.int .i64))), (8, (.v (.int .i64))), (9, (.v (.int .i64))), (21, (.v (.int .i64))), (22, (.v (.int .i64)))]
noncomputable def X6_i_commute : Lv := [(2, (.bx (.v tq0))), (3, (.bx (.v tq0))), (5, (.v (.int .i64))), (6, (.v (.int .i64))), (7, (.v (.int .i64))), (8, (.v (.int .i64))), (9, (.v (.int .i64))), (11, (.v (.int .i64))), (12, (.v (.int .i64))), (21, (.v (.int .i64))), (22, (.v (.int .i64))), (45, (.v (.int .i64))), (46, (.v (.int .i64)))]
noncomputable def rv_i_commute : Lv := [(4, (.v .bool))]
noncomputable def D_i_commute (K : Nat) : List (PD (den .bool)) := [.L 3 [(2, (.bx (.v tq0))), (3, (.bx (.v tq0))), (5, (.v (.int .i64))), (6, (.v (.int .i64))), (21, (.v (.int .i64))), (22, (.v (.int .i64)))] [] (fun k x kx kr => i_commute_l3 K k x.1 x.2.1 x.2.2.1 x.2.2.2.1 x.2.2.2.2.1 x.2.2.2.2.2.1 (kx 0 (mkSt X0_i_commute ())) (fun z0 => kr (mkSt rv_i_commute (z0, ())))),
  .L 7 [(2, (.bx (.v tq0))), (3, (.bx (.v tq0))), (5, (.v (.int .i64))), (6, (.v (.int .i64))), (7, (.v (.int .i64))), (8, (.v (.int .i64))), (9, (.v (.int .i64))), (21, (.v (.int .i64))), (22, (.v (.int .i64))), (25, (.v (.int .i64))), (26, (.v (.int .i64)))] [] (fun k x kx kr => i_commute_l7 K k x.1 x.2.1 x.2.2.1 x.2.2.2.1 x.2.2.2.2.1 x.2.2.2.2.2.1 x.2.2.2.2.2.2.1 x.2.2.2.2.2.2.2.1 x.2.2.2.2.2.2.2.2.1 x.2.2.2.2.2.2.2.2.2.1 x.2.2.2.2.2.2.2.2.2.2.1 (fun z0 z1 z2 z3 z4 z5 z6 z7 z8 => kx 2 (mkSt X2_i_commute (z0, z1, z2, z3, z4, z5, z6, z7, z8, ())))),
  .L 12 [(2, (.bx (.v tq0))), (3, (.bx (.v tq0))), (5, (.v (.int .i64))), (6, (.v (.int .i64))), (7, (.v (.int .i64))), (8, (.v (.int .i64))), (9, (.v (.int .i64))), (21, (.v (.int .i64))), (22, (.v (.int .i64))), (45, (.v (.int .i64))), (46, (.v (.int .i64)))] [] (fun k x kx kr => i_commute_l12 K k x.1 x.2.1 x.2.2.1 x.2.2.2.1 x.2.2.2.2.1 x.2.2.2.2.2.1 x.2.2.2.2.2.2.1 x.2.2.2.2.2.2.2.1 x.2.2.2.2.2.2.2.2.1 x.2.2.2.2.2.2.2.2.2.1 x.2.2.2.2.2.2.2.2.2.2.1 (fun z0 z1 z2 z3 z4 z5 z6 z7 => kx 4 (mkSt X4_i_commute (z0, z1, z2, z3, z4, z5, z6, z7, ())))),
  .L 16 [(2, (.bx (.v tq0))), (3, (.bx (.v tq0))), (5, (.v (.int .i64))), (6, (.v (.int .i64))), (7, (.v (.int .i64))), (8, (.v (.int .i64))), (9, (.v (.int .i64))), (11, (.v (.int .i64))), (12, (.v (.int .i64))), (21, (.v (.int .i64))), (22, (.v (.int .i64))), (45, (.v (.int .i64))), (46, (.v (.int .i64))), (49, (.v (.int .i64))), (50, (.v (.int .i64)))] [] (fun k x kx kr => i_commute_l16 K k x.1 x.2.1 x.2.2.1 x.2.2.2.1 x.2.2.2.2.1 x.2.2.2.2.2.1 x.2.2.2.2.2.2.1 x.2.2.2.2.2.2.2.1 x.2.2.2.2.2.2.2.2.1 x.2.2.2.2.2.2.2.2.2.1 x.2.2.2.2.2.2.2.2.2.2.1 x.2.2.2.2.2.2.2.2.2.2.2.1 x.2.2.2.2.2.2.2.2.2.2.2.2.1 x.2.2.2.2.2.2.2.2.2.2.2.2.2.1 x.2.2.2.2.2.2.2.2.2.2.2.2.2.2.1 (fun z0 z1 z2 z3 z4 z5 z6 z7 z8 z9 z10 z11 z12 => kx 6 (mkSt X6_i_commute (z0, z1, z2, z3, z4, z5, z6, z7, z8, z9, z10, z11, z12, ()))))]
theorem ok_i_commute (K : Nat) : FnOk Try.prog 94 (sp_i_commute (i_commute K)) :=
  fn_okD tysOk [C_i_bit K, C_i_Func_at K] 0 (D_i_commute K) [(0, X0_i_commute), (2, X2_i_commute), (4, X4_i_commute), (6, X6_i_commute)] rv_i_commute K Try.func94 (by kernel_rfl) ⟨⟨fun _ _ _ _ => by kernel_rfl, fun _ _ _ => rfl⟩, ⟨⟨fun _ _ _ _ => by kernel_rfl, fun _ _ _ => rfl⟩, ⟨⟨fun _ _ _ _ => by kernel_rfl, fun _ _ _ => rfl⟩, ⟨⟨fun _ _ _ _ => by kernel_rfl, fun _ _ _ => rfl⟩, trivial⟩⟩⟩⟩ (fun _ => by kernel_rfl)
noncomputable def C_i_commute (K : Nat) : CB Try.prog := .f _ _ (ok_i_commute K)
noncomputable def as_i_AreCommuting : Ty := (.pair tq0 (.pair tq0 .unit))
noncomputable def sp_i_AreCommuting (F : (dq0 × dq0 × Unit) → Option (Bool × Int × Unit)) : FnSpec := ⟨as_i_AreCommuting, [false, false], (.tup (.pair .bool (.pair (.int .i64) .unit))), F⟩
noncomputable def i_AreCommuting (K : Nat) (x : (dq0 × dq0 × Unit)) : Option (Bool × Int × Unit) :=
    let l1 := [x.1, x.2.1]
    (i_areFuncs K (l1, ())).bind fun y2 =>
    (if (!y2) = true then
    some (false, (1 : Int), ())
    else
    (i_commute K (x.1, x.2.1, ())).bind fun y3 =>
    some (y3, (0 : Int), ()))
noncomputable def rv_i_AreCommuting : Lv := [(4, (.v .bool)), (5, (.v (.int .i64)))]
theorem ok_i_AreCommuting (K : Nat) : FnOk Try.prog 33 (sp_i_AreCommuting (i_AreCommuting K)) :=
  fn_okD tysOk [C_i_areFuncs K, C_i_commute K] 0 [] [] rv_i_AreCommuting K Try.func33 (by kernel_rfl) trivial (fun _ => by kernel_rfl)
noncomputable def C_i_AreCommuting (K : Nat) : CB Try.prog := .f _ _ (ok_i_AreCommuting K)
noncomputable def as_i_KeepsRelation : Ty := (.pair tq0 (.pair tq0 .unit))
noncomputable def sp_i_KeepsRelation (F : (dq0 × dq0 × Unit) → Option (Bool × Int × Unit)) : FnSpec := ⟨as_i_KeepsRelation, [false, false], (.tup (.pair .bool (.pair (.int .i64) .unit))), F⟩
noncomputable def i_KeepsRelation (K : Nat) (x : (dq0 × dq0 × Unit)) : Option (Bool × Int × Unit) :=
    (i_IsFunc K (x.1, ())).bind fun y1 =>
    (if (!y1) = true then
    some (false, (1 : Int), ())
    else
    (i_IsRelation K (x.2.1, ())).bind fun y2 =>
    (if (!y2) = true then
    some (false, (1 : Int), ())
    else
    (i_Func_keeps K (x.1, x.2.1, ())).bind fun y3 =>
    some (y3, (0 : Int), ())))
noncomputable def rv_i_KeepsRelation : Lv := [(4, (.v .bool)), (5, (.v (.int .i64)))]
theorem ok_i_KeepsRelation (K : Nat) : FnOk Try.prog 32 (sp_i_KeepsRelation (i_KeepsRelation K)) :=
  fn_okD tysOk [C_i_IsFunc K, C_i_IsRelation K, C_i_Func_keeps K] 0 [] [] rv_i_KeepsRelation K Try.func32 (by kernel_rfl) trivial (fun _ => by kernel_rfl)
noncomputable def C_i_KeepsRelation (K : Nat) : CB Try.prog := .f _ _ (ok_i_KeepsRelation K)
end Go.Proofs.Ytpohjacoemoijaa.E
namespace Go.Proofs.Ytpohjacoemoijaa.E
open Go Go.Proofs
set_option linter.unusedVariables false
set_option linter.unusedSimpArgs false
set_option maxRecDepth 100000
variable {K : Nat} {R : Type}
/-! functions that commute, as the program finds out -/
def rowC (b x i : Nat) : Nat := x >>> (i * b) % 2 ^ b
def colC (a b x j : Nat) : Nat := mkB (fun i => x.testBit (i * b + j)) a
def rowsC (gb a b x : Nat) : Nat := mkB (fun i => gb.testBit (rowC b x i)) a
def colsC (fb a b x : Nat) : Nat := mkB (fun j => fb.testBit (colC a b x j)) b
theorem w64mul {i b : Nat} (h : i * b < 1000) : IntKind.i64.wrap ((i : Int) * (b : Int)) = ((i * b : Nat) : Int) := by rw [← Int.natCast_mul, w64n (by omega)]
theorem mul16 {i a b : Nat} (hi : i ≤ a) (ha : a ≤ 4) (hb : b ≤ 4) : i * b ≤ 16 := Nat.le_trans (Nat.mul_le_mul (Nat.le_trans hi ha) hb) (by decide)
theorem cm_l7 {a b gb x : Nat} (ha : a ≤ 4) (hb : b ≤ 4) (hg : gb < 65536) (hx : x < 65536) (v2 : DF) (v9 : Int) (v21 v22 : Int) (kx : DF → DF → Int → Int → Int → Int → Int → Int → Int → Option R) : ∀ (m i k : Nat), i + m = a → m < k →
    i_commute_l7 K k v2 ((b : Int), (gb : Int), ()) (a : Int) (b : Int) (x : Int) ((mkB (fun i => gb.testBit (rowC b x i)) i : Nat) : Int) v9 v21 v22 (a : Int) (i : Int) kx = kx v2 ((b : Int), (gb : Int), ()) (a : Int) (b : Int) (x : Int) ((rowsC gb a b x : Nat) : Int) v9 v21 v22
  | 0, i, k + 1, e, _ => by
    obtain rfl : i = a := by omega
    simp only [i_commute_l7]; rw [ite_f (decide_eq_false (by omega))]; rfl
  | m + 1, i, k + 1, e, hk => by
    have ih := cm_l7 ha hb hg hx v2 v9 v21 v22 kx m (i + 1) k (by omega) (by omega)
    rw [mkB_succ] at ih
    have hm := mul16 (show i ≤ a by omega) ha hb
    have h16 := pw4 hb
    have hp1 : 1 ≤ 2 ^ b := Nat.one_le_two_pow
    have hs : x >>> (i * b) ≤ x := by rw [Nat.shiftRight_eq_div_pow]; exact Nat.div_le_self _ _
    simp only [i_commute_l7]
    rw [ite_t (decide_eq_true (by omega)), w64mul (by omega), ite_t (nn _), ite_t (nn _), shrI_n _ _ (by omega), shl1 (by omega), w64 (x := ((2 ^ b : Nat) : Int) - 1) (by omega) (by omega), show ((2 ^ b : Nat) : Int) - 1 = ((2 ^ b - 1 : Nat) : Int) by omega, bitI_and (by omega) (by omega), Nat.and_two_pow_sub_one_eq_mod, show x >>> (i * b) % 2 ^ b = rowC b x i from rfl,
      i_Func_at_eq _ (by omega), some_bind', ite_t (nn _), shl_bt (by omega), or_dg (mkB_lt _ _) (by omega), w64s (by omega), ih]
theorem cm_l16 {a b x j : Nat} (ha : a ≤ 4) (hb : b ≤ 4) (hj : j < 4) (hx : x < 65536) (v2 v3 : DF) (v8 v9 v21 v22 v45 v46 : Int) (kx : DF → DF → Int → Int → Int → Int → Int → Int → Int → Int → Int → Int → Int → Option R) : ∀ (m i k : Nat), i + m = a → m < k →
    i_commute_l16 K k v2 v3 (a : Int) (b : Int) (x : Int) v8 v9 (j : Int) ((mkB (fun i => x.testBit (i * b + j)) i : Nat) : Int) v21 v22 v45 v46 (a : Int) (i : Int) kx = kx v2 v3 (a : Int) (b : Int) (x : Int) v8 v9 (j : Int) ((colC a b x j : Nat) : Int) v21 v22 v45 v46
  | 0, i, k + 1, e, _ => by
    obtain rfl : i = a := by omega
    simp only [i_commute_l16]; rw [ite_f (decide_eq_false (by omega))]; rfl
  | m + 1, i, k + 1, e, hk => by
    have ih := cm_l16 ha hb hj hx v2 v3 v8 v9 v21 v22 v45 v46 kx m (i + 1) k (by omega) (by omega)
    rw [mkB_succ] at ih
    have hm := mul16 (show i ≤ a by omega) ha hb
    simp only [i_commute_l16]
    rw [ite_t (decide_eq_true (by omega)), w64mul (by omega), ← Int.natCast_add, w64n (by omega), i_bit_eq _ (by omega), some_bind', ite_t (nn _), shl_bt (by omega), or_dg (mkB_lt _ _) (by omega), w64s (by omega), ih]
theorem cm_l12 {a b fb x : Nat} (ha : a ≤ 4) (hb : b ≤ 4) (hf : fb < 65536) (hx : x < 65536) (v3 : DF) (v8 v21 v22 : Int) (kx : DF → DF → Int → Int → Int → Int → Int → Int → Option R) : ∀ (m j k : Nat), j + m = b → 100 + m < k →
    i_commute_l12 K k ((a : Int), (fb : Int), ()) v3 (a : Int) (b : Int) (x : Int) v8 ((mkB (fun j => fb.testBit (colC a b x j)) j : Nat) : Int) v21 v22 (b : Int) (j : Int) kx = kx ((a : Int), (fb : Int), ()) v3 (a : Int) (b : Int) v8 ((colsC fb a b x : Nat) : Int) v21 v22
  | 0, j, k + 1, e, _ => by
    obtain rfl : j = b := by omega
    simp only [i_commute_l12]; rw [ite_f (decide_eq_false (by omega))]; rfl
  | m + 1, j, k + 1, e, hk => by
    have ih := cm_l12 ha hb hf hx v3 v8 v21 v22 kx m (j + 1) k (by omega) (by omega)
    rw [mkB_succ] at ih
    have h16 := fun kx => cm_l16 (K := K) (R := R) (a := a) (b := b) (x := x) (j := j) ha hb (by omega) hx ((a : Int), (fb : Int), ()) v3 v8 ((mkB (fun j => fb.testBit (colC a b x j)) j : Nat) : Int) v21 v22 (b : Int) (j : Int) kx a 0 k (by omega) (by omega)
    simp only [mkB] at h16
    rw [show ((0 : Nat) : Int) = 0 from rfl] at h16
    simp only [i_commute_l12]
    rw [ite_t (decide_eq_true (by omega)), h16, i_Func_at_eq _ (by omega), some_bind', ite_t (nn _), shl_bt (by omega), or_dg (mkB_lt _ _) (by omega), w64s (by omega), ih]
def allX (P : Nat → Bool) : Nat → Nat → Bool
  | _, 0 => true
  | x, m + 1 => P x && allX P (x + 1) m
theorem allX_iff {P : Nat → Bool} : ∀ (x m : Nat), allX P x m = true ↔ ∀ y, x ≤ y → y < x + m → P y = true
  | x, 0 => ⟨fun _ y h1 h2 => by omega, fun _ => rfl⟩
  | x, m + 1 => by
    rw [allX, Bool.and_eq_true, allX_iff (x + 1) m]
    constructor
    · rintro ⟨h1, h2⟩ y h3 h4
      rcases Nat.eq_or_lt_of_le h3 with h5 | h5
      · subst h5; exact h1
      · exact h2 y h5 (by omega)
    · intro h; exact ⟨h x (Nat.le_refl _) (by omega), fun y h1 h2 => h y (by omega) (by omega)⟩
def okX (fb gb a b x : Nat) : Bool := fb.testBit (rowsC gb a b x) == gb.testBit (colsC fb a b x)
theorem cm_l3 {a b fb gb : Nat} (ha : a ≤ 4) (hb : b ≤ 4) (hf : fb < 65536) (hg : gb < 65536) (kx : Option R) (kr : Bool → Option R) (N : Nat) (hN : N ≤ 65536) : ∀ (m x k : Nat), x + m = N → 1000 + m < k →
    i_commute_l3 K k ((a : Int), (fb : Int), ()) ((b : Int), (gb : Int), ()) (a : Int) (b : Int) (N : Int) (x : Int) kx kr = if allX (okX fb gb a b) x m = true then kx else kr false
  | 0, x, k + 1, e, _ => by
    simp only [i_commute_l3]; rw [ite_f (decide_eq_false (by omega))]; rfl
  | m + 1, x, k + 1, e, hk => by
    have ih := cm_l3 ha hb hf hg kx kr N hN m (x + 1) k (by omega) (by omega)
    have h7 := fun kx => cm_l7 (K := K) (R := R) (a := a) (b := b) (gb := gb) (x := x) ha hb hg (by omega) ((a : Int), (fb : Int), ()) 0 (N : Int) (x : Int) kx a 0 k (by omega) (by omega)
    have h12 := fun kx => cm_l12 (K := K) (R := R) (a := a) (b := b) (fb := fb) (x := x) ha hb hf (by omega) ((b : Int), (gb : Int), ()) ((rowsC gb a b x : Nat) : Int) (N : Int) (x : Int) kx b 0 k (by omega) (by omega)
    simp only [mkB] at h7 h12
    rw [show ((0 : Nat) : Int) = 0 from rfl] at h7 h12
    simp only [i_commute_l3]
    rw [ite_t (decide_eq_true (by omega)), h7, h12, i_Func_at_eq _ (by omega), some_bind', i_Func_at_eq _ (by omega), some_bind', w64s (by omega), ih]
    have e : (!decide (bt fb (rowsC gb a b x) = bt gb (colsC fb a b x))) = !(okX fb gb a b x) := by
      unfold okX bt; cases fb.testBit (rowsC gb a b x) <;> cases gb.testBit (colsC fb a b x) <;> rfl
    rw [e]
    rw [allX]
    cases h : okX fb gb a b x
    · rfl
    · rw [ite_f (c := !true) rfl, Bool.true_and]
/-- Do they commute? -/
def cmB (fb gb a b : Nat) : Bool := allX (okX fb gb a b) 0 (2 ^ (a * b))
theorem i_AreComm_eq {a b fb gb : Nat} (ha : a ≤ 4) (hb : b ≤ 4) (hf : fb < 2 ^ 2 ^ a) (hg : gb < 2 ^ 2 ^ b) (hK : 4611686018427387904 ≤ K) : i_AreCommuting K (((a : Int), (fb : Int), ()), ((b : Int), (gb : Int), ()), ()) = some (cmB fb gb a b, 0, ()) := by
  have hm := mul16 (Nat.le_refl a) ha hb
  have hN : 2 ^ (a * b) ≤ 65536 := Nat.le_trans (Nat.pow_le_pow_right (n := 2) (by decide) hm) (by decide)
  have F : ∀ n c : Nat, n ≤ 4 → c < 2 ^ 2 ^ n → isF 0 ((n : Int), (c : Int), ()) = true := fun n c hn hc => by
    simp only [isF, Bool.and_eq_true, decide_eq_true_eq, Int.toNat_natCast]
    refine ⟨⟨⟨by omega, by omega⟩, by omega⟩, ?_⟩
    exact Int.ofNat_lt.2 hc
  have h3 := cm_l3 (K := K) (R := Bool) ha hb (rel_lt ha hf) (rel_lt hb hg) (some true) (fun z => some z) (2 ^ (a * b)) hN (2 ^ (a * b)) 0 K (by omega) (by omega)
  rw [show ((0 : Nat) : Int) = 0 from rfl] at h3
  simp only [i_AreCommuting, i_commute]
  rw [i_areFuncs_eq (by simp) hK, some_bind', ite_f (by simp [F a fb ha hf, F b gb hb hg]), w64mul (by omega), ite_t (nn _), shl1 (by omega), h3, cmB]
  cases allX (okX fb gb a b) 0 (2 ^ (a * b)) <;> rfl
end Go.Proofs.Ytpohjacoemoijaa.E
namespace Go.Proofs.Ytpohjacoemoijaa.E
open Go Go.Proofs Go.Proofs.Ytpohjacoemoijaa
set_option maxRecDepth 100000
set_option linter.unusedVariables false
noncomputable def as_w_big : Ty := (.pair (.sl (.int .u8)) .unit)
noncomputable def sp_w_big (F : ((List Int) × Unit) → Option Bool) : FnSpec := ⟨as_w_big, [false], .bool, F⟩
noncomputable def w_big (K : Nat) (x : ((List Int) × Unit)) : Option Bool :=
    some (decide ((x.1.length : Int) > (4096 : Int)))
noncomputable def rv_w_big : Lv := [(2, (.v .bool))]
theorem ok_w_big (K : Nat) : FnOk Try.prog 15 (sp_w_big (w_big K)) :=
  fn_okD tysOk [] 0 [] [] rv_w_big K Try.func15 (by kernel_rfl) trivial (fun _ => by kernel_rfl)
noncomputable def C_w_big (K : Nat) : CB Try.prog := .f _ _ (ok_w_big K)
noncomputable def as_s_DrawProductOf : Ty := (.pair (.sl (.int .u8)) .unit)
noncomputable def sp_s_DrawProductOf (F : ((List Int) × Unit) → Option (dq0 × dq0 × Unit)) : FnSpec := ⟨as_s_DrawProductOf, [false], (.tup (.pair tq0 (.pair tq0 .unit))), F⟩
noncomputable def s_DrawProductOf (K : Nat) (x : ((List Int) × Unit)) : Option (dq0 × dq0 × Unit) :=
    (s_l01From K (x.1, ())).bind fun y1 =>
    (s_l06Draw K (y1.1.1, ())).bind fun y2 =>
    let l3 := [(1 : Int), (1 : Int), (2 : Int), (3 : Int)]
    (s_l01Pick K (y2.2.1, l3, ())).bind fun y4 =>
    (s_l06DrawOf K (y4.2.1, y4.1.1, ())).bind fun y5 =>
    some (y2.1.1, y5.1.1, ())
noncomputable def rv_s_DrawProductOf : Lv := [(2, (.bx (.v tq0))), (3, (.bx (.v tq0)))]
theorem ok_s_DrawProductOf (K : Nat) : FnOk Try.prog 16 (sp_s_DrawProductOf (s_DrawProductOf K)) :=
  fn_okD tysOk [C_s_l01From K, C_s_l06Draw K, C_s_l06DrawOf K, C_s_l01Pick K] 0 [] [] rv_s_DrawProductOf K Try.func16 (by kernel_rfl) trivial (fun _ => by kernel_rfl)
noncomputable def C_s_DrawProductOf (K : Nat) : CB Try.prog := .f _ _ (ok_s_DrawProductOf K)
noncomputable def as_s_l01Own : Ty := (.pair (.sl (.int .i64)) .unit)
noncomputable def sp_s_l01Own (F : ((List Int) × Unit) → Option (List Int)) : FnSpec := ⟨as_s_l01Own, [false], (.sl (.int .i64)), F⟩
noncomputable def s_l01Own (K : Nat) (x : ((List Int) × Unit)) : Option (List Int) :=
    let l1 := ([] : List Int)
    (if (decide (l1.length + x.1.length ≤ lim)) = true then
    let l2 := (l1 ++ x.1)
    some l2
    else
    none)
noncomputable def rv_s_l01Own : Lv := [(2, (.r (.int .i64)))]
theorem ok_s_l01Own (K : Nat) : FnOk Try.prog 79 (sp_s_l01Own (s_l01Own K)) :=
  fn_okD tysOk [] 0 [] [] rv_s_l01Own K Try.func79 (by kernel_rfl) trivial (fun _ => by kernel_rfl)
noncomputable def C_s_l01Own (K : Nat) : CB Try.prog := .f _ _ (ok_s_l01Own K)
noncomputable def as_s_DrawProjectRelation : Ty := (.pair (.sl (.int .u8)) .unit)
noncomputable def sp_s_DrawProjectRelation (F : ((List Int) × Unit) → Option (dq0 × (List Int) × Unit)) : FnSpec := ⟨as_s_DrawProjectRelation, [false], (.tup (.pair tq0 (.pair (.sl (.int .i64)) .unit))), F⟩
noncomputable def s_DrawProjectRelation_l4 {R : Type} (K : Nat) : Nat → dq0 → dq1 → dq0 → (List Int) → Int → (dq0 → dq1 → dq0 → (List Int) → Option R) → Option R
  | 0, _, _, _, _, _, _ => none
  | k + 1, v2, v4, v5, v6, v7, kx0 =>
    (if (decide (v7 < (minL (maxL v5.1 [(0 : Int)]) [(4 : Int)]))) = true then
    (s_l01Next K (v4, (3 : Int), ())).bind fun y4 =>
    (if (decide (y4.1.1 > (0 : Int))) = true then
    (s_l01Next K (y4.2.1, (IntKind.i64.wrap ((v6.length : Int) + (1 : Int))), ())).bind fun y5 =>
    (if (decide (0 ≤ y5.1.1) && decide (y5.1.1 ≤ (v6.length : Int)) && decide ((v6.length : Int) ≤ (v6.length : Int))) = true then
    (if (decide (([v7]).length + (sliceL v6 y5.1.1 (y5.1.1 + ((v6.length : Int) - y5.1.1))).length ≤ lim)) = true then
    let l6 := ([v7] ++ (sliceL v6 y5.1.1 (y5.1.1 + ((v6.length : Int) - y5.1.1))))
    (if (decide (0 ≤ (0 : Int)) && decide ((0 : Int) ≤ y5.1.1) && decide (y5.1.1 ≤ (v6.length : Int))) = true then
    (s_l01Own K ((sliceL v6 (0 : Int) ((0 : Int) + (y5.1.1 - (0 : Int)))), ())).bind fun y7 =>
    (if (decide (y7.length + l6.length ≤ lim)) = true then
    let l8 := (y7 ++ l6)
    s_DrawProjectRelation_l4 K k v2 y5.2.1 v5 l8 (IntKind.i64.wrap (v7 + (1 : Int))) kx0
    else
    none)
    else
    none)
    else
    none)
    else
    none)
    else
    s_DrawProjectRelation_l4 K k v2 y4.2.1 v5 v6 (IntKind.i64.wrap (v7 + (1 : Int))) kx0)
    else
    kx0 v2 v4 v5 v6)
noncomputable def s_DrawProjectRelation (K : Nat) (x : ((List Int) × Unit)) : Option (dq0 × (List Int) × Unit) :=
    (s_l01From K (x.1, ())).bind fun y1 =>
    (s_l06Draw K (y1.1.1, ())).bind fun y2 =>
    let l3 := ([] : List Int)
    s_DrawProjectRelation_l4 K K ((0 : Int), (0 : Int), ()) y2.2.1 y2.1.1 l3 (0 : Int) (fun z9 z10 z11 z12 =>
    (s_l01Next K (z10, (24 : Int), ())).bind fun y13 =>
    (if (decide (y13.1.1 = (0 : Int))) = true then
    let l14 := [(0 : Int), (4 : Int), (-1 : Int)]
    (s_l01Pick K (y13.2.1, l14, ())).bind fun y15 =>
    (if (decide (z12.length + ([y15.1.1]).length ≤ lim)) = true then
    let l16 := (z12 ++ [y15.1.1])
    some (z11, l16, ())
    else
    none)
    else
    some (z11, z12, ())))
noncomputable def X0_s_DrawProjectRelation : Lv := [(2, (.bx (.v tq0))), (4, (.bx (.v tq1))), (5, (.bx (.v tq0))), (6, (.r (.int .i64)))]
noncomputable def rv_s_DrawProjectRelation : Lv := [(2, (.bx (.v tq0))), (3, (.r (.int .i64)))]
noncomputable def D_s_DrawProjectRelation (K : Nat) : List (PD (den (.tup (.pair tq0 (.pair (.sl (.int .i64)) .unit))))) := [.L 4 [(2, (.bx (.v tq0))), (4, (.bx (.v tq1))), (5, (.bx (.v tq0))), (6, (.r (.int .i64))), (7, (.v (.int .i64)))] [] (fun k x kx kr => s_DrawProjectRelation_l4 K k x.1 x.2.1 x.2.2.1 x.2.2.2.1 x.2.2.2.2.1 (fun z0 z1 z2 z3 => kx 0 (mkSt X0_s_DrawProjectRelation (z0, z1, z2, z3, ()))))]
theorem ok_s_DrawProjectRelation (K : Nat) : FnOk Try.prog 19 (sp_s_DrawProjectRelation (s_DrawProjectRelation K)) :=
  fn_okD tysOk [C_s_l01From K, C_s_l06Draw K, C_s_l01Pick K, C_s_l01Next K, C_s_l01Own K] 0 (D_s_DrawProjectRelation K) [(0, X0_s_DrawProjectRelation)] rv_s_DrawProjectRelation K Try.func19 (by kernel_rfl) ⟨⟨fun _ _ _ _ => by kernel_rfl, fun _ _ _ => rfl⟩, trivial⟩ (fun _ => by kernel_rfl)
noncomputable def C_s_DrawProjectRelation (K : Nat) : CB Try.prog := .f _ _ (ok_s_DrawProjectRelation K)
noncomputable def as_s_DrawIdentifyPlaces : Ty := (.pair (.sl (.int .u8)) .unit)
noncomputable def sp_s_DrawIdentifyPlaces (F : ((List Int) × Unit) → Option (dq0 × Int × Int × Unit)) : FnSpec := ⟨as_s_DrawIdentifyPlaces, [false], (.tup (.pair tq0 (.pair (.int .i64) (.pair (.int .i64) .unit)))), F⟩
noncomputable def s_DrawIdentifyPlaces (K : Nat) (x : ((List Int) × Unit)) : Option (dq0 × Int × Int × Unit) :=
    (s_l01From K (x.1, ())).bind fun y1 =>
    (s_l06Draw K (y1.1.1, ())).bind fun y2 =>
    (s_l01Next K (y2.2.1, (12 : Int), ())).bind fun y3 =>
    let x4 := (IntKind.i64.wrap ((minL (maxL y2.1.1.1 [(1 : Int)]) [(5 : Int)]) + (IntKind.i64.wrap (Int.tdiv y3.1.1 (11 : Int)))))
    (s_l01Next K (y3.2.1, x4, ())).bind fun y5 =>
    (s_l01Next K (y5.2.1, (12 : Int), ())).bind fun y6 =>
    let x7 := (IntKind.i64.wrap ((maxL y5.1.1 [(1 : Int)]) + (IntKind.i64.wrap (Int.tdiv y6.1.1 (11 : Int)))))
    (s_l01Next K (y6.2.1, x7, ())).bind fun y8 =>
    some (y2.1.1, y8.1.1, y5.1.1, ())
noncomputable def rv_s_DrawIdentifyPlaces : Lv := [(2, (.bx (.v tq0))), (3, (.v (.int .i64))), (4, (.v (.int .i64)))]
theorem ok_s_DrawIdentifyPlaces (K : Nat) : FnOk Try.prog 22 (sp_s_DrawIdentifyPlaces (s_DrawIdentifyPlaces K)) :=
  fn_okD tysOk [C_s_l01From K, C_s_l06Draw K, C_s_l01Next K] 0 [] [] rv_s_DrawIdentifyPlaces K Try.func22 (by kernel_rfl) trivial (fun _ => by kernel_rfl)
noncomputable def C_s_DrawIdentifyPlaces (K : Nat) : CB Try.prog := .f _ _ (ok_s_DrawIdentifyPlaces K)
noncomputable def as_s_DrawMeetOf : Ty := (.pair (.sl (.int .u8)) .unit)
noncomputable def sp_s_DrawMeetOf (F : ((List Int) × Unit) → Option (dq0 × dq0 × Unit)) : FnSpec := ⟨as_s_DrawMeetOf, [false], (.tup (.pair tq0 (.pair tq0 .unit))), F⟩
noncomputable def s_DrawMeetOf_j4 {R : Type} (K : Nat) (k : Nat) (v2 : dq0) (v3 : dq0) (v4 : dq1) (v5 : dq0) (kn : Option R) (kr : (dq0 → dq0 → Option R)) : Option R :=
    gN K ((s_l06DrawOf K (v4, v5.1, ())).bind fun y5 =>
    kr v5 y5.1.1)
noncomputable def s_DrawMeetOf (K : Nat) (x : ((List Int) × Unit)) : Option (dq0 × dq0 × Unit) :=
    (s_l01From K (x.1, ())).bind fun y1 =>
    (s_l06Draw K (y1.1.1, ())).bind fun y2 =>
    (s_l01In K (y2.1.1.1, (1 : Int), (4 : Int), ())).bind fun y3 =>
    (if y3 = true then
    (s_l01Next K (y2.2.1, (12 : Int), ())).bind fun y4 =>
    (if (decide (y4.1.1 > (0 : Int))) = true then
    s_DrawMeetOf_j4 K K ((0 : Int), (0 : Int), ()) ((0 : Int), (0 : Int), ()) y4.2.1 y2.1.1 none (fun z6 z7 =>
    some (z6, z7, ()))
    else
    (s_l06Draw K (y4.2.1, ())).bind fun y8 =>
    some (y2.1.1, y8.1.1, ()))
    else
    (s_l06Draw K (y2.2.1, ())).bind fun y9 =>
    some (y2.1.1, y9.1.1, ()))
noncomputable def rv_s_DrawMeetOf : Lv := [(2, (.bx (.v tq0))), (3, (.bx (.v tq0)))]
noncomputable def D_s_DrawMeetOf (K : Nat) : List (PD (den (.tup (.pair tq0 (.pair tq0 .unit))))) := [.J 4 [(2, (.bx (.v tq0))), (3, (.bx (.v tq0))), (4, (.bx (.v tq1))), (5, (.bx (.v tq0)))] [] K (fun k x kn kx kr => s_DrawMeetOf_j4 K k x.1 x.2.1 x.2.2.1 x.2.2.2.1 (kn ()) (fun z0 z1 => kr (mkSt rv_s_DrawMeetOf (z0, z1, ()))))]
theorem ok_s_DrawMeetOf (K : Nat) : FnOk Try.prog 25 (sp_s_DrawMeetOf (s_DrawMeetOf K)) :=
  fn_okD tysOk [C_s_l01In K, C_s_l01From K, C_s_l06Draw K, C_s_l06DrawOf K, C_s_l01Next K] 0 (D_s_DrawMeetOf K) [] rv_s_DrawMeetOf K Try.func25 (by kernel_rfl) ⟨fun _ _ _ _ _ => by kernel_rfl, trivial⟩ (fun _ => by kernel_rfl)
noncomputable def C_s_DrawMeetOf (K : Nat) : CB Try.prog := .f _ _ (ok_s_DrawMeetOf K)
noncomputable def as_s_DrawGraphOf : Ty := (.pair (.sl (.int .u8)) .unit)
noncomputable def sp_s_DrawGraphOf (F : ((List Int) × Unit) → Option dq0) : FnSpec := ⟨as_s_DrawGraphOf, [false], tq0, F⟩
noncomputable def s_DrawGraphOf (K : Nat) (x : ((List Int) × Unit)) : Option dq0 :=
    (s_l01From K (x.1, ())).bind fun y1 =>
    (s_l02DrawIn K (y1.1.1, ())).bind fun y2 =>
    some y2.1.1
noncomputable def rv_s_DrawGraphOf : Lv := [(2, (.bx (.v tq0)))]
theorem ok_s_DrawGraphOf (K : Nat) : FnOk Try.prog 28 (sp_s_DrawGraphOf (s_DrawGraphOf K)) :=
  fn_okD tysOk [C_s_l01From K, C_s_l02DrawIn K] 0 [] [] rv_s_DrawGraphOf K Try.func28 (by kernel_rfl) trivial (fun _ => by kernel_rfl)
noncomputable def C_s_DrawGraphOf (K : Nat) : CB Try.prog := .f _ _ (ok_s_DrawGraphOf K)
noncomputable def as_w_FnRelationParts : Ty := (.pair (.sl (.int .u8)) .unit)
noncomputable def sp_w_FnRelationParts (F : ((List Int) × Unit) → Option Bool) : FnSpec := ⟨as_w_FnRelationParts, [false], .bool, F⟩
noncomputable def w_FnRelationParts_j32 {R : Type} (K : Nat) (k : Nat) (v3 : dq0) (v4 : dq0) (v5 : dq0) (v6 : Int) (v9 : dq0) (v10 : (List Int)) (v12 : Int) (v28 : dq0) (v29 : dq0) (kn : dq0 → dq0 → dq0 → Int → dq0 → (List Int) → Int → Option R) (kr : (Bool → Option R)) : Option R :=
    let x24 := (((2 : Int), ((0 : Int), (0 : Int), ()).2.1, ()).1, (8 : Int), ())
    (i_KeepsRelation K (x24, v29, ())).bind fun y25 =>
    (i_AreCommuting K (x24, v28, ())).bind fun y26 =>
    (if (!decide (y25.2.1 = (0 : Int))) = true then
    kr false
    else
    (if (!decide (y26.2.1 = (0 : Int))) = true then
    kr false
    else
    (if (!(y25.1 == y26.1)) = true then
    kr false
    else
    kn v3 v4 v5 v6 v9 v10 v12)))
noncomputable def w_FnRelationParts_j44 {R : Type} (K : Nat) (k : Nat) (v3 : dq0) (v4 : dq0) (v5 : dq0) (v6 : Int) (kn : Option R) (kr : (Bool → Option R)) : Option R :=
    (if (!decide (v6 = (0 : Int))) = true then
    let x39 := (eqD (.pair (.int .i64) (.pair (.int .i64) .unit)) v5 ((0 : Int), (0 : Int), ()))
    kr x39
    else
    (i_CountTuples K (v3, ())).bind fun y40 =>
    (i_CountTuples K (v4, ())).bind fun y41 =>
    (i_CountTuples K (v5, ())).bind fun y42 =>
    (if (decide (y40.2.1 = (0 : Int))) = true then
    (if (decide (y41.2.1 = (0 : Int))) = true then
    (if (decide (y42.2.1 = (0 : Int))) = true then
    kr (decide (y42.1 = (IntKind.i64.wrap (y40.1 * y41.1))))
    else
    kr false)
    else
    kr false)
    else
    kr false))
noncomputable def w_FnRelationParts_j37 {R : Type} (K : Nat) (k : Nat) (v3 : dq0) (v4 : dq0) (v5 : dq0) (v6 : Int) (v9 : dq0) (v10 : (List Int)) (v12 : Int) (kn : Option R) (kr : (Bool → Option R)) : Option R :=
    (if (decide (v12 = (0 : Int))) = true then
    let x34 := (((2 : Int), ((0 : Int), (0 : Int), ()).2.1, ()).1, (14 : Int), ())
    (i_ClosureOf K ([x34], v9, ())).bind fun y35 =>
    (i_ProjectRelation K (y35.1, v10, ())).bind fun y36 =>
    (i_ClosureOf K ([x34], y36.1, ())).bind fun y37 =>
    (if (!decide (y35.2.1 = (0 : Int))) = true then
    kr false
    else
    (if (!decide (y36.2.1 = (0 : Int))) = true then
    kr false
    else
    (if (!decide (y37.2.1 = (0 : Int))) = true then
    kr false
    else
    let x38 := (!(eqD (.pair (.int .i64) (.pair (.int .i64) .unit)) y37.1 y36.1))
    (if x38 = true then
    kr false
    else
    w_FnRelationParts_j44 K k v3 v4 v5 v6 none (fun z43 =>
    kr z43)))))
    else
    w_FnRelationParts_j44 K k v3 v4 v5 v6 none (fun z44 =>
    kr z44))
noncomputable def w_FnRelationParts_j28 {R : Type} (K : Nat) (k : Nat) (v3 : dq0) (v4 : dq0) (v5 : dq0) (v6 : Int) (v9 : dq0) (v10 : (List Int)) (v12 : Int) (v28 : dq0) (v29 : dq0) (v30 : Int) (kn : Option R) (kr : (Bool → Option R)) : Option R :=
    (if (decide (v30 = (0 : Int))) = true then
    (i_CountTuples K (v29, ())).bind fun y22 =>
    (if (!decide (y22.2.1 = (0 : Int))) = true then
    kr false
    else
    (if (decide ((0 : Int) ≤ (IntKind.u64.wrap v28.1))) = true then
    let x23 := (!decide (y22.1 = (shlI .i64 (1 : Int) (IntKind.u64.wrap v28.1))))
    (if x23 = true then
    kr false
    else
    w_FnRelationParts_j32 K k v3 v4 v5 v6 v9 v10 v12 v28 v29 (fun z27 z28 z29 z30 z31 z32 z33 =>
    w_FnRelationParts_j37 K k z27 z28 z29 z30 z31 z32 z33 none (fun z45 =>
    kr z45)) (fun z46 =>
    kr z46))
    else
    none))
    else
    w_FnRelationParts_j37 K k v3 v4 v5 v6 v9 v10 v12 none (fun z47 =>
    kr z47))
noncomputable def w_FnRelationParts_j23 {R : Type} (K : Nat) (k : Nat) (v0 : (List Int)) (v3 : dq0) (v4 : dq0) (v5 : dq0) (v6 : Int) (v9 : dq0) (v10 : (List Int)) (v12 : Int) (kn : Option R) (kr : (Bool → Option R)) : Option R :=
    (s_DrawGraphOf K (v0, ())).bind fun y18 =>
    (i_GraphOf K (y18, ())).bind fun y19 =>
    (s_GraphOf K (y18, ())).bind fun y20 =>
    (if (!decide (y19.2.1 = y20.2.1)) = true then
    kr false
    else
    let x21 := (!(eqD (.pair (.int .i64) (.pair (.int .i64) .unit)) y19.1 y20.1))
    (if x21 = true then
    kr false
    else
    w_FnRelationParts_j28 K k v3 v4 v5 v6 v9 v10 v12 y18 y19.1 y19.2.1 none (fun z48 =>
    kr z48)))
noncomputable def w_FnRelationParts_j18 {R : Type} (K : Nat) (k : Nat) (v0 : (List Int)) (v3 : dq0) (v4 : dq0) (v5 : dq0) (v6 : Int) (v9 : dq0) (v10 : (List Int)) (v12 : Int) (kn : Option R) (kr : (Bool → Option R)) : Option R :=
    (s_DrawMeetOf K (v0, ())).bind fun y14 =>
    (i_MeetOf K (y14.1, y14.2.1, ())).bind fun y15 =>
    (s_MeetOf K (y14.1, y14.2.1, ())).bind fun y16 =>
    (if (!decide (y15.2.1 = y16.2.1)) = true then
    kr false
    else
    let x17 := (!(eqD (.pair (.int .i64) (.pair (.int .i64) .unit)) y15.1 y16.1))
    (if x17 = true then
    kr false
    else
    w_FnRelationParts_j23 K k v0 v3 v4 v5 v6 v9 v10 v12 none (fun z49 =>
    kr z49)))
noncomputable def w_FnRelationParts_j13 {R : Type} (K : Nat) (k : Nat) (v0 : (List Int)) (v3 : dq0) (v4 : dq0) (v5 : dq0) (v6 : Int) (v9 : dq0) (v10 : (List Int)) (v12 : Int) (kn : Option R) (kr : (Bool → Option R)) : Option R :=
    (s_DrawIdentifyPlaces K (v0, ())).bind fun y10 =>
    (i_IdentifyPlaces K (y10.1, y10.2.1, y10.2.2.1, ())).bind fun y11 =>
    (s_IdentifyPlaces K (y10.1, y10.2.1, y10.2.2.1, ())).bind fun y12 =>
    (if (!decide (y11.2.1 = y12.2.1)) = true then
    kr false
    else
    let x13 := (!(eqD (.pair (.int .i64) (.pair (.int .i64) .unit)) y11.1 y12.1))
    (if x13 = true then
    kr false
    else
    w_FnRelationParts_j18 K k v0 v3 v4 v5 v6 v9 v10 v12 none (fun z50 =>
    kr z50)))
noncomputable def w_FnRelationParts_j8 {R : Type} (K : Nat) (k : Nat) (v0 : (List Int)) (v3 : dq0) (v4 : dq0) (v5 : dq0) (v6 : Int) (kn : Option R) (kr : (Bool → Option R)) : Option R :=
    (s_DrawProjectRelation K (v0, ())).bind fun y6 =>
    (i_ProjectRelation K (y6.1, y6.2.1, ())).bind fun y7 =>
    (s_ProjectRelation K (y6.1, y6.2.1, ())).bind fun y8 =>
    (if (!decide (y7.2.1 = y8.2.1)) = true then
    kr false
    else
    let x9 := (!(eqD (.pair (.int .i64) (.pair (.int .i64) .unit)) y7.1 y8.1))
    (if x9 = true then
    kr false
    else
    w_FnRelationParts_j13 K k v0 v3 v4 v5 v6 y6.1 y6.2.1 y7.2.1 none (fun z51 =>
    kr z51)))
noncomputable def w_FnRelationParts (K : Nat) (x : ((List Int) × Unit)) : Option Bool :=
    (w_big K (x.1, ())).bind fun y1 =>
    (if y1 = true then
    some true
    else
    (s_DrawProductOf K (x.1, ())).bind fun y2 =>
    (i_ProductOf K (y2.1, y2.2.1, ())).bind fun y3 =>
    (s_ProductOf K (y2.1, y2.2.1, ())).bind fun y4 =>
    (if (!decide (y3.2.1 = y4.2.1)) = true then
    some false
    else
    let x5 := (!(eqD (.pair (.int .i64) (.pair (.int .i64) .unit)) y3.1 y4.1))
    (if x5 = true then
    some false
    else
    w_FnRelationParts_j8 K K x.1 y2.1 y2.2.1 y3.1 y3.2.1 none (fun z52 =>
    some z52))))
noncomputable def rv_w_FnRelationParts : Lv := [(2, (.v .bool))]
noncomputable def D_w_FnRelationParts (K : Nat) : List (PD (den .bool)) := [.J 8 [(0, (.v (.sl (.int .u8)))), (3, (.bx (.v tq0))), (4, (.bx (.v tq0))), (5, (.bx (.v tq0))), (6, (.v (.int .i64)))] [] 0 (fun k x kn kx kr => w_FnRelationParts_j8 K k x.1 x.2.1 x.2.2.1 x.2.2.2.1 x.2.2.2.2.1 (kn ()) (fun z0 => kr (mkSt rv_w_FnRelationParts (z0, ())))),
  .J 13 [(0, (.v (.sl (.int .u8)))), (3, (.bx (.v tq0))), (4, (.bx (.v tq0))), (5, (.bx (.v tq0))), (6, (.v (.int .i64))), (9, (.bx (.v tq0))), (10, (.r (.int .i64))), (12, (.v (.int .i64)))] [] 0 (fun k x kn kx kr => w_FnRelationParts_j13 K k x.1 x.2.1 x.2.2.1 x.2.2.2.1 x.2.2.2.2.1 x.2.2.2.2.2.1 x.2.2.2.2.2.2.1 x.2.2.2.2.2.2.2.1 (kn ()) (fun z0 => kr (mkSt rv_w_FnRelationParts (z0, ())))),
  .J 18 [(0, (.v (.sl (.int .u8)))), (3, (.bx (.v tq0))), (4, (.bx (.v tq0))), (5, (.bx (.v tq0))), (6, (.v (.int .i64))), (9, (.bx (.v tq0))), (10, (.r (.int .i64))), (12, (.v (.int .i64)))] [] 0 (fun k x kn kx kr => w_FnRelationParts_j18 K k x.1 x.2.1 x.2.2.1 x.2.2.2.1 x.2.2.2.2.1 x.2.2.2.2.2.1 x.2.2.2.2.2.2.1 x.2.2.2.2.2.2.2.1 (kn ()) (fun z0 => kr (mkSt rv_w_FnRelationParts (z0, ())))),
  .J 23 [(0, (.v (.sl (.int .u8)))), (3, (.bx (.v tq0))), (4, (.bx (.v tq0))), (5, (.bx (.v tq0))), (6, (.v (.int .i64))), (9, (.bx (.v tq0))), (10, (.r (.int .i64))), (12, (.v (.int .i64)))] [] 0 (fun k x kn kx kr => w_FnRelationParts_j23 K k x.1 x.2.1 x.2.2.1 x.2.2.2.1 x.2.2.2.2.1 x.2.2.2.2.2.1 x.2.2.2.2.2.2.1 x.2.2.2.2.2.2.2.1 (kn ()) (fun z0 => kr (mkSt rv_w_FnRelationParts (z0, ())))),
  .J 28 [(3, (.bx (.v tq0))), (4, (.bx (.v tq0))), (5, (.bx (.v tq0))), (6, (.v (.int .i64))), (9, (.bx (.v tq0))), (10, (.r (.int .i64))), (12, (.v (.int .i64))), (28, (.bx (.v tq0))), (29, (.bx (.v tq0))), (30, (.v (.int .i64)))] [] 0 (fun k x kn kx kr => w_FnRelationParts_j28 K k x.1 x.2.1 x.2.2.1 x.2.2.2.1 x.2.2.2.2.1 x.2.2.2.2.2.1 x.2.2.2.2.2.2.1 x.2.2.2.2.2.2.2.1 x.2.2.2.2.2.2.2.2.1 x.2.2.2.2.2.2.2.2.2.1 (kn ()) (fun z0 => kr (mkSt rv_w_FnRelationParts (z0, ())))),
  .J 32 [(3, (.bx (.v tq0))), (4, (.bx (.v tq0))), (5, (.bx (.v tq0))), (6, (.v (.int .i64))), (9, (.bx (.v tq0))), (10, (.r (.int .i64))), (12, (.v (.int .i64))), (28, (.bx (.v tq0))), (29, (.bx (.v tq0)))] [(3, (.bx (.v tq0))), (4, (.bx (.v tq0))), (5, (.bx (.v tq0))), (6, (.v (.int .i64))), (9, (.bx (.v tq0))), (10, (.r (.int .i64))), (12, (.v (.int .i64)))] 0 (fun k x kn kx kr => w_FnRelationParts_j32 K k x.1 x.2.1 x.2.2.1 x.2.2.2.1 x.2.2.2.2.1 x.2.2.2.2.2.1 x.2.2.2.2.2.2.1 x.2.2.2.2.2.2.2.1 x.2.2.2.2.2.2.2.2.1 (fun z0 z1 z2 z3 z4 z5 z6 => kn (z0, z1, z2, z3, z4, z5, z6, ())) (fun z0 => kr (mkSt rv_w_FnRelationParts (z0, ())))),
  .J 37 [(3, (.bx (.v tq0))), (4, (.bx (.v tq0))), (5, (.bx (.v tq0))), (6, (.v (.int .i64))), (9, (.bx (.v tq0))), (10, (.r (.int .i64))), (12, (.v (.int .i64)))] [] 0 (fun k x kn kx kr => w_FnRelationParts_j37 K k x.1 x.2.1 x.2.2.1 x.2.2.2.1 x.2.2.2.2.1 x.2.2.2.2.2.1 x.2.2.2.2.2.2.1 (kn ()) (fun z0 => kr (mkSt rv_w_FnRelationParts (z0, ())))),
  .J 44 [(3, (.bx (.v tq0))), (4, (.bx (.v tq0))), (5, (.bx (.v tq0))), (6, (.v (.int .i64)))] [] 0 (fun k x kn kx kr => w_FnRelationParts_j44 K k x.1 x.2.1 x.2.2.1 x.2.2.2.1 (kn ()) (fun z0 => kr (mkSt rv_w_FnRelationParts (z0, ()))))]
theorem ok_w_FnRelationParts (K : Nat) : FnOk Try.prog 5 (sp_w_FnRelationParts (w_FnRelationParts K)) :=
  fn_okD tysOk [C_w_big K, C_s_DrawProductOf K, C_i_ProductOf K, C_s_ProductOf K, C_s_DrawProjectRelation K, C_i_ProjectRelation K, C_s_ProjectRelation K, C_s_DrawIdentifyPlaces K, C_i_IdentifyPlaces K, C_s_IdentifyPlaces K, C_s_DrawMeetOf K, C_i_MeetOf K, C_s_MeetOf K, C_s_DrawGraphOf K, C_i_GraphOf K, C_s_GraphOf K, C_i_CountTuples K, C_i_KeepsRelation K, C_i_AreCommuting K, C_i_ClosureOf K] 0 (D_w_FnRelationParts K) [] rv_w_FnRelationParts K Try.func5 (by kernel_rfl) ⟨fun _ _ _ _ _ => by kernel_rfl, ⟨fun _ _ _ _ _ => by kernel_rfl, ⟨fun _ _ _ _ _ => by kernel_rfl, ⟨fun _ _ _ _ _ => by kernel_rfl, ⟨fun _ _ _ _ _ => by kernel_rfl, ⟨fun _ _ _ _ _ => by kernel_rfl, ⟨fun _ _ _ _ _ => by kernel_rfl, ⟨fun _ _ _ _ _ => by kernel_rfl, trivial⟩⟩⟩⟩⟩⟩⟩⟩ (fun _ => by kernel_rfl)
noncomputable def C_w_FnRelationParts (K : Nat) : CB Try.prog := .f _ _ (ok_w_FnRelationParts K)
end Go.Proofs.Ytpohjacoemoijaa.E
namespace Go.Proofs.Ytpohjacoemoijaa.E
open Go Go.Proofs
set_option linter.unusedVariables false
set_option linter.unusedSimpArgs false
set_option maxRecDepth 100000
variable {K : Nat} {R : Type}
/-! the statement on relations -/
theorem and_graph_d : ((List.range 4).all fun n => (List.range (2 ^ 2 ^ n)).all fun b => keepV 8 (n + 1) (mkB (grG n b) (2 ^ (n + 1))) (relL (mkB (grG n b) (2 ^ (n + 1))) (n + 1)) 2 [] == cmB 8 b 2 n) = true := by decide +kernel
theorem l06Draw2_ok {s : DSrc} (h : okS s) (hK : 4611686018427387904 ≤ K) : Okf (s_l06Draw K (s, ())) (fun y => okS y.2.1) := by
  simp only [s_l06Draw]
  refine Okf.bind (pick_ok h (by simp)) fun y2 h2 => ?_
  have hm := h2.2
  simp only [List.mem_cons, List.not_mem_nil, or_false] at hm
  refine Okf.bind (relDraw_ok h2.1 (by omega) (by omega) hK) fun y3 h3 => ?_
  refine Okf.bind (next_ok _ h3) fun y4 h4 => ?_
  refine Okf.ite (fun _ => ?_) fun _ => Okf.ite (fun _ => ?_) fun _ => Okf.ret h4.1
  · exact Okf.bind (pick_ok h4.1 (by simp)) fun y h => Okf.ret h.1
  · exact Okf.bind (pick_ok h4.1 (by simp)) fun y h => Okf.ret h.1
theorem DrawPd_ok {code : List Int} (h : okCode code) (hK : 4611686018427387904 ≤ K) : Okf (s_DrawProductOf K (code, ())) (fun _ => True) := by
  simp only [s_DrawProductOf]
  refine (from_ok h.1 h.2 hK).bind fun y1 h1 => (l06Draw2_ok h1 hK).bind fun y2 h2 => (pick_ok h2 (by simp)).bind fun y4 h4 => ?_
  have hm := h4.2
  simp only [List.mem_cons, List.not_mem_nil, or_false] at hm
  exact (relDraw_ok h4.1 (by omega) (by omega) hK).bind fun y5 h5 => Okf.ret trivial
theorem next_nn {n : Int} {y : (Int × Unit) × (DSrc × Unit)} (h : nextP n y) : 0 ≤ y.1.1 := by
  rcases (by omega : n < 1 ∨ 1 ≤ n) with e | e
  · rw [h.2.2 e]; exact Int.le_refl _
  · exact (h.2.1 e).1
theorem DrawId_ok {code : List Int} (h : okCode code) (hK : 4611686018427387904 ≤ K) : Okf (s_DrawIdentifyPlaces K (code, ())) (fun y => 0 ≤ y.2.1 ∧ 0 ≤ y.2.2.1) := by
  simp only [s_DrawIdentifyPlaces]
  exact (from_ok h.1 h.2 hK).bind fun y1 h1 => (l06Draw2_ok h1 hK).bind fun y2 h2 => (next_ok _ h2).bind fun y3 h3 => (next_ok _ h3.1).bind fun y5 h5 => (next_ok _ h5.1).bind fun y6 h6 => (next_ok _ h6.1).bind fun y8 h8 => Okf.ret ⟨next_nn h8, next_nn h5⟩
theorem DrawMe_ok {code : List Int} (h : okCode code) (hK : 4611686018427387904 ≤ K) : Okf (s_DrawMeetOf K (code, ())) (fun _ => True) := by
  simp only [s_DrawMeetOf, s_DrawMeetOf_j4, gN_eq]
  refine (from_ok h.1 h.2 hK).bind fun y1 h1 => (l06Draw2_ok h1 hK).bind fun y2 h2 => ?_
  rw [s_l01In_eq, some_bind']
  refine Okf.ite (fun hp => ?_) fun _ => ?_
  · rw [Bool.and_eq_true, decide_eq_true_eq, decide_eq_true_eq] at hp
    refine (next_ok _ h2).bind fun y4 h4 => Okf.ite (fun _ => ?_) fun _ => ?_
    · exact (relDraw_ok h4.1 hp.1 hp.2 hK).bind fun y5 h5 => Okf.ret trivial
    · exact (l06Draw2_ok h4.1 hK).bind fun y8 h8 => Okf.ret trivial
  · exact (l06Draw2_ok h2 hK).bind fun y9 h9 => Okf.ret trivial
theorem DrawGr_ok {code : List Int} (h : okCode code) (hK : 4611686018427387904 ≤ K) : Okf (s_DrawGraphOf K (code, ())) (fun _ => True) := by
  simp only [s_DrawGraphOf]
  exact (from_ok h.1 h.2 hK).bind fun y1 h1 => (drawIn_ok h1 hK).bind fun y2 h2 => Okf.ret trivial
theorem minL_le4 (a b : Int) : minL a [b] ≤ b := by
  simp only [minL]; split <;> omega
theorem prd_l4 {Q : R → Prop} (v2 v5 : DF) (kx : DF → DSrc → DF → List Int → Option R) (hk : ∀ s l, okS s → l.length ≤ 4 → Okf (kx v2 s v5 l) Q) : ∀ (m i k : Nat) (s : DSrc) (l : List Int), i + m = 4 → m < k → okS s → l.length ≤ i →
    Okf (s_DrawProjectRelation_l4 K k v2 s v5 l (i : Int) kx) Q
  | m, i, 0, s, l, _, h, _, _ => by omega
  | 0, i, k + 1, s, l, e, _, hs, hl => by
    have := minL_le4 (maxL v5.1 [(0 : Int)]) 4
    simp only [s_DrawProjectRelation_l4]
    rw [ite_f (decide_eq_false (by omega))]; exact hk s l hs (by omega)
  | m + 1, i, k + 1, s, l, e, hkk, hs, hl => by
    have ih := fun s' l' => prd_l4 v2 v5 kx hk m (i + 1) k s' l' (by omega) (by omega)
    simp only [s_DrawProjectRelation_l4]
    refine Okf.ite (fun _ => ?_) fun _ => hk s l hs (by omega)
    refine (next_ok _ hs).bind fun y4 h4 => Okf.ite (fun _ => ?_) fun _ => ?_
    · refine (next_ok _ h4.1).bind fun y5 h5 => ?_
      rw [w64 (x := (l.length : Int) + 1) (by omega) (by omega)] at h5
      obtain ⟨r1, r2⟩ := h5.2.1 (by omega)
      obtain ⟨c, hc⟩ := Int.eq_ofNat_of_zero_le r1
      rw [hc] at r1 r2 ⊢
      have e1 : sliceL l ((c : Nat) : Int) (((c : Nat) : Int) + ((l.length : Int) - ((c : Nat) : Int))) = l.drop c := by
        rw [sliceL, show ((c : Nat) : Int) + ((l.length : Int) - ((c : Nat) : Int)) = (l.length : Int) by omega, Int.toNat_natCast, Int.toNat_natCast, List.take_length]
      have e2 : sliceL l (0 : Int) ((0 : Int) + (((c : Nat) : Int) - (0 : Int))) = l.take c := by
        rw [sliceL, show (0 : Int) + (((c : Nat) : Int) - (0 : Int)) = ((c : Nat) : Int) by omega, Int.toNat_natCast]; simp
      rw [ite_t (by simp; omega), e1, ite_t (decide_eq_true (by rw [show lim = 1099511627776 from rfl]; simp; omega)), ite_t (by simp; omega), e2]
      simp only [s_l01Own]
      rw [ite_t (decide_eq_true (by rw [show lim = 1099511627776 from rfl]; simp; omega)), some_bind', ite_t (decide_eq_true (by rw [show lim = 1099511627776 from rfl]; simp; omega)), w64s (by omega)]
      exact ih _ _ h5.1 (by simp; omega)
    · rw [w64s (by omega)]
      exact ih _ _ h4.1 (by omega)
theorem DrawPr_ok {code : List Int} (h : okCode code) (hK : 4611686018427387904 ≤ K) : Okf (s_DrawProjectRelation K (code, ())) (fun y => y.2.1.length ≤ 5) := by
  simp only [s_DrawProjectRelation]
  refine (from_ok h.1 h.2 hK).bind fun y1 h1 => (l06Draw2_ok h1 hK).bind fun y2 h2 => ?_
  refine prd_l4 (K := K) ((0 : Int), (0 : Int), ()) y2.1.1 _ (fun s l hs hl => ?_) 4 0 K y2.2.1 [] rfl (by omega) h2 (by simp)
  refine (next_ok _ hs).bind fun y13 h13 => Okf.ite (fun _ => ?_) fun _ => Okf.ret (by show l.length ≤ 5; omega)
  refine (pick_ok h13.1 (by simp)).bind fun y15 h15 => ?_
  rw [ite_t (decide_eq_true (by rw [show lim = 1099511627776 from rfl]; simp; omega))]
  exact Okf.ret (by show (l ++ [y15.1.1]).length ≤ 5; simp; omega)
theorem eqD_self (q : DF) : eqD (.pair (.int .i64) (.pair (.int .i64) .unit)) q q = true := by simp [eqD]
theorem cnt_le (g : Nat → Bool) : ∀ n, cnt g n ≤ n
  | 0 => Nat.le_refl _
  | n + 1 => by have := cnt_le g n; rw [cnt]; cases g n <;> simp <;> omega
theorem isF1_of {n B : Nat} (h : 1 ≤ n) (hn : n ≤ 4) (hB : B < 2 ^ 2 ^ n) : isF 1 ((n : Int), (B : Int), ()) = true := by
  simp only [isF, Bool.and_eq_true, decide_eq_true_eq, Int.toNat_natCast]
  refine ⟨⟨⟨by omega, by omega⟩, by omega⟩, ?_⟩
  exact Int.ofNat_lt.2 hB
theorem rp_j44 (r s : DF) (hK : 4611686018427387904 ≤ K) (k : Nat) (kn : Option R) (kr : Bool → Option R) : w_FnRelationParts_j44 K k r s (pdV r s).1 (pdV r s).2.1 kn kr = kr true := by
  rw [w_FnRelationParts_j44]
  have bad : ∀ c : Int, c ≠ 0 → pdV r s = ((0, 0, ()), c, ()) → (if (!decide ((pdV r s).2.1 = (0 : Int))) = true then
      let x39 := (eqD (.pair (.int .i64) (.pair (.int .i64) .unit)) (pdV r s).1 ((0 : Int), (0 : Int), ()))
      kr x39 else none) = kr true := fun c hc e => by
    rw [e, ite_t (by simp [hc])]
    exact congrArg kr (eqD_self _)
  have bad' : ∀ c : Int, c ≠ 0 → pdV r s = ((0, 0, ()), c, ()) → w_FnRelationParts_j44 K k r s (pdV r s).1 (pdV r s).2.1 kn kr = kr true := fun c hc e => by
    rw [w_FnRelationParts_j44, e, ite_t (by simp [hc])]
    exact congrArg kr (eqD_self _)
  rw [← w_FnRelationParts_j44]
  cases h1 : isF 1 r
  · exact bad' 1 (by decide) (by rw [pdV, h1]; rfl)
  cases h2 : isF 1 s
  · exact bad' 1 (by decide) (by rw [pdV, h1, h2]; rfl)
  obtain ⟨p, B, rfl, hp, hB, hp1⟩ := isF_nat h1 (by decide)
  obtain ⟨q, C, rfl, hq, hC, hq1⟩ := isF_nat h2 (by decide)
  by_cases h : (p : Int) + (q : Int) > 4
  · exact bad' 3 (by decide) (by rw [pdV, h1, h2, if_pos rfl, if_pos rfl, if_pos h])
  · have e : pdV ((p : Int), (B : Int), ()) ((q : Int), (C : Int), ()) = ((((p + q : Nat) : Int), ((mkB (pdG p B C) (2 ^ (p + q)) : Nat) : Int), ()), 0, ()) := by
      rw [pdV, h1, h2, if_pos rfl, if_pos rfl, if_neg h]; rfl
    have c1 := cnt_le B.testBit (2 ^ p)
    have c2 := cnt_le C.testBit (2 ^ q)
    have p1 := pw4 hp
    have p2 := pw4 hq
    have hc := cnt_prod B.testBit C.testBit (2 ^ p) (Nat.two_pow_pos p) (2 ^ q)
    rw [← Nat.pow_add] at hc
    have hm : cnt B.testBit (2 ^ p) * cnt C.testBit (2 ^ q) ≤ 16 * 16 := Nat.mul_le_mul (by omega) (by omega)
    have hg : cnt (mkB (pdG p B C) (2 ^ (p + q))).testBit (2 ^ (p + q)) = cnt B.testBit (2 ^ p) * cnt C.testBit (2 ^ q) := by
      rw [← hc]; exact cnt_congr _ fun i hi => by rw [mkB_bit, decide_eq_true hi, Bool.true_and, pdG]
    rw [w_FnRelationParts_j44, e, ite_f (by rfl), i_Count_eq hp (by omega) hB, some_bind', i_Count_eq hq (by omega) hC, some_bind', i_Count_eq (show p + q ≤ 4 by omega) (by omega) (mkB_lt _ _), some_bind', ite_t (by rfl), ite_t (by rfl), ite_t (by rfl), hg, ← Int.natCast_mul, w64n (by omega), decide_eq_true rfl]
theorem okL_or : okL [orF] := ⟨fun f hf => by rw [List.mem_singleton.1 hf]; decide, by simp⟩
theorem rp_j37 (r s : DF) (q : DF) {pl : List Int} (hl : pl.length < 1000) (hK : 4611686018427387904 ≤ K) (k : Nat) (kn : Option R) (kr : Bool → Option R) : w_FnRelationParts_j37 K k r s (pdV r s).1 (pdV r s).2.1 q pl (prV q pl).2.1 kn kr = kr true := by
  rw [w_FnRelationParts_j37]
  by_cases h0 : (prV q pl).2.1 = 0
  · rw [ite_t (decide_eq_true h0)]
    cases h1 : isF 1 q
    · rw [prV, h1, if_neg (by decide)] at h0; exact absurd h0 (by decide)
    by_cases h2 : pl ≠ [] ∧ okPl q.1.toNat [] pl = true
    case neg => rw [prV, h1, if_pos rfl, if_neg h2] at h0; exact absurd h0 (by decide)
    obtain ⟨n, B, rfl, hn, hB, hn1⟩ := isF_nat h1 (by decide)
    rw [Int.toNat_natCast] at h2
    obtain ⟨ps, hps, p1, p2⟩ := pl_nat h2.2
    have hpl : pl.length = ps.length := by rw [hps, List.length_map]
    have hpn : pl.length ≠ 0 := fun e => h2.1 (List.length_eq_zero_iff.1 e)
    obtain ⟨C, c1, c2, _, c4⟩ := clos_eq (K := K) hn hB okL_or (by simp) (by omega) hK
    have hC := (clOr_iff c1).1 c2
    have ep : prV ((n : Int), (C : Int), ()) pl = (((ps.length : Int), ((imgV (pjV ps) (relL C n) 0 : Nat) : Int), ()), 0, ()) := by
      rw [prV, isF1_of (by omega) hn c1, if_pos rfl, if_pos (by rw [Int.toNat_natCast]; exact h2), hpl, Int.toNat_natCast, Int.toNat_natCast, hps, map_toNat]
    have hP : imgV (pjV ps) (relL C n) 0 < 2 ^ 2 ^ ps.length := imgV_lt _ (Nat.two_pow_pos _) fun t _ => pjV_lt ps t
    obtain ⟨D, d1, d2, d3, d4⟩ := clos_eq (K := K) (n := ps.length) (by omega) hP okL_or (by simp) (by omega) hK
    have hD := d3 ((clOr_iff hP).2 (pj_clOr c1 ps hC))
    subst hD
    dsimp only
    rw [c4, some_bind', i_Project_eq _ hl hK, ep, some_bind', d4, some_bind', ite_f (by rfl), ite_f (by rfl), ite_f (by rfl), ite_f (by rw [eqD_self]; rfl), rp_j44 r s hK]
  · rw [ite_f (decide_eq_false h0), rp_j44 r s hK]
theorem rp_j32 {n b : Nat} (hn : n ≤ 3) (hb : b < 2 ^ 2 ^ n) (hK : 4611686018427387904 ≤ K) (k : Nat) (r s t : DF) (c : Int) (q : DF) (pl : List Int) (c' : Int) (kn : DF → DF → DF → Int → DF → List Int → Int → Option R) (kr : Bool → Option R) :
    w_FnRelationParts_j32 K k r s t c q pl c' ((n : Int), (b : Int), ()) (((n + 1 : Nat) : Int), ((mkB (grG n b) (2 ^ (n + 1)) : Nat) : Int), ()) kn kr = kn r s t c q pl c' := by
  have hG : mkB (grG n b) (2 ^ (n + 1)) < 2 ^ 2 ^ (n + 1) := mkB_lt _ _
  have hd := List.all_eq_true.1 (List.all_eq_true.1 and_graph_d n (List.mem_range.2 (by omega))) b (List.mem_range.2 hb)
  have hd := eq_of_beq hd
  have hk := i_keeps_eq (K := K) (n := n + 1) (B := mkB (grG n b) (2 ^ (n + 1))) (fb := 8) (a := 2) (by omega) (by decide) (by decide) (by have := rel_lt (show n + 1 ≤ 4 by omega) hG; omega) hK
  have hc := i_AreComm_eq (K := K) (a := 2) (b := n) (fb := 8) (gb := b) (by decide) (by omega) (by decide) hb hK
  have hk2 : i_KeepsRelation K (((2 : Int), (8 : Int), ()), (((n + 1 : Nat) : Int), ((mkB (grG n b) (2 ^ (n + 1)) : Nat) : Int), ()), ()) = some (cmB 8 b 2 n, 0, ()) := by
    simp only [i_KeepsRelation]
    rw [i_IsFunc_eq, some_bind', show isF 0 ((2 : Int), (8 : Int), ()) = true by decide, ite_f (c := !true) rfl, i_IsRelation_eq, some_bind', isF1_of (by omega) (by omega) hG, ite_f (c := !true) rfl]
    refine (congrArg (fun o => Option.bind o _) hk).trans ?_
    rw [some_bind', hd]
  rw [w_FnRelationParts_j32]
  dsimp only
  rw [hk2, some_bind']
  refine (congrArg (fun o => Option.bind o _) hc).trans ?_
  rw [some_bind', ite_f (by rfl), ite_f (by rfl), ite_f (by simp)]
theorem rp_j28 (r s q f : DF) {pl : List Int} (hl : pl.length < 1000) (hK : 4611686018427387904 ≤ K) (k : Nat) (kn : Option R) (kr : Bool → Option R) : w_FnRelationParts_j28 K k r s (pdV r s).1 (pdV r s).2.1 q pl (prV q pl).2.1 f (grV f).1 (grV f).2.1 kn kr = kr true := by
  rw [w_FnRelationParts_j28]
  by_cases h0 : (grV f).2.1 = 0
  · rw [ite_t (decide_eq_true h0)]
    cases h1 : isF 0 f
    · rw [grV, h1, if_neg (by decide)] at h0; exact absurd h0 (by decide)
    obtain ⟨n, b, rfl, hn, hb, _⟩ := isF_nat h1 (by decide)
    by_cases h4 : (n : Int) = 4
    · rw [grV, h1, if_pos rfl, if_pos h4] at h0; exact absurd h0 (by decide)
    have e : grV ((n : Int), (b : Int), ()) = ((((n + 1 : Nat) : Int), ((mkB (grG n b) (2 ^ (n + 1)) : Nat) : Int), ()), 0, ()) := by rw [grV, h1, if_pos rfl, if_neg h4]; rfl
    have hg : cnt (mkB (grG n b) (2 ^ (n + 1))).testBit (2 ^ (n + 1)) = 2 ^ n := by
      rw [← cnt_graph n b]; exact cnt_congr _ fun i hi => by rw [mkB_bit, decide_eq_true hi, Bool.true_and]
    rw [e, i_Count_eq (show n + 1 ≤ 4 by omega) (by omega) (mkB_lt _ _), some_bind', ite_f (by rfl), u64n (n := n) (by omega), ite_t (nn _), shl1 (by omega), hg]
    dsimp only
    rw [ite_f (by simp), rp_j32 (by omega) hb hK, rp_j37 r s q hl hK]
  · rw [ite_f (decide_eq_false h0), rp_j37 r s q hl hK]
theorem law_RelationParts {code : List Int} (hb : ∀ b ∈ code, 0 ≤ b ∧ b < 256) : w_FnRelationParts 9223372036854775808 (code, ()) = some true := by
  have hK : 4611686018427387904 ≤ 9223372036854775808 := by decide
  simp only [w_FnRelationParts, w_big, some_bind']
  by_cases hl : (code.length : Int) > 4096
  · rw [ite_t (decide_eq_true hl)]
  · rw [ite_f (decide_eq_false hl)]
    have hc : okCode code := ⟨by omega, hb⟩
    obtain ⟨y2, e2, _⟩ := DrawPd_ok hc hK
    obtain ⟨y6, e6, h6⟩ := DrawPr_ok hc hK
    obtain ⟨y10, e10, h10⟩ := DrawId_ok hc hK
    obtain ⟨y14, e14, _⟩ := DrawMe_ok hc hK
    obtain ⟨y18, e18, _⟩ := DrawGr_ok hc hK
    rw [e2, some_bind', i_Product_eq _ _ hK, some_bind', s_Product_eq _ _ hK, some_bind', ite_f (by simp), ite_f (by rw [eqD_self]; rfl)]
    rw [w_FnRelationParts_j8, e6, some_bind', i_Project_eq _ (by omega) hK, some_bind', s_Project_eq _ (by omega) hK, some_bind', ite_f (by simp)]
    dsimp only
    rw [ite_f (by rw [eqD_self]; rfl)]
    rw [w_FnRelationParts_j13, e10, some_bind', i_Identify_eq _ _ _ hK, some_bind', s_Identify_eq _ _ _ (by omega) (by omega) hK, some_bind', ite_f (by simp)]
    dsimp only
    rw [ite_f (by rw [eqD_self]; rfl)]
    rw [w_FnRelationParts_j18, e14, some_bind', i_Meet_eq, some_bind', s_Meet_eq, some_bind', ite_f (by simp)]
    dsimp only
    rw [ite_f (by rw [eqD_self]; rfl)]
    rw [w_FnRelationParts_j23, e18, some_bind', i_Graph_eq _ hK, some_bind', s_Graph_eq _ hK, some_bind', ite_f (by simp)]
    dsimp only
    rw [ite_f (by rw [eqD_self]; rfl), rp_j28 _ _ _ _ (by omega) hK]
end Go.Proofs.Ytpohjacoemoijaa.E
namespace Go.Proofs.Ytpohjacoemoijaa.E
open Go Go.Proofs
/-- FnRelationParts, in plain numbers and lists: no condition but what is known of all data. -/
theorem PuFnRelationParts (x : den as_w_FnRelationParts) (h : okD as_w_FnRelationParts x) : ∃ K, w_FnRelationParts K x = some true := by
  obtain ⟨code, u⟩ := x
  exact ⟨9223372036854775808, law_RelationParts fun b hb => by
    have h1 := bounds_u8 (h.1.2 b hb)
    exact ⟨h1.1, Int.lt_of_le_of_lt h1.2 (by decide)⟩⟩
end Go.Proofs.Ytpohjacoemoijaa.E
