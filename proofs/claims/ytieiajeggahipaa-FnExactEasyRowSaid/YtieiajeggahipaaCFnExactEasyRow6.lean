/-
  Plain lemmas: tuples that a clause's domains leave open. Conditions: those of each theorem.
-/
import Derived.Test.YtieiajeggahipaaCFnExactEasyRow5
namespace Go.Proofs.Ytieiajeggahipaa.E
open Go Go.Proofs
set_option linter.unusedVariables false
set_option linter.unusedSimpArgs false
variable {K : Nat} {R : Type}
/-! all, or any, of some numbers from one on -/
def allF (P : Nat → Bool) : Nat → Nat → Bool
  | _, 0 => true
  | j, m + 1 => P j && allF P (j + 1) m
def anyF (P : Nat → Bool) : Nat → Nat → Bool
  | _, 0 => false
  | j, m + 1 => P j || anyF P (j + 1) m
theorem allF_iff {P : Nat → Bool} : ∀ {m j : Nat}, allF P j m = true ↔ ∀ i, j ≤ i → i < j + m → P i = true
  | 0, j => by simp only [allF, true_iff]; intro i h1 h2; omega
  | m + 1, j => by
    simp only [allF, Bool.and_eq_true, allF_iff (m := m) (j := j + 1)]
    constructor
    · rintro ⟨h1, h2⟩ i h3 h4
      by_cases e : i = j
      · rw [e]; exact h1
      · exact h2 i (by omega) (by omega)
    · intro h
      exact ⟨h j (by omega) (by omega), fun i h3 h4 => h i (by omega) (by omega)⟩
theorem anyF_iff {P : Nat → Bool} : ∀ {m j : Nat}, anyF P j m = true ↔ ∃ i, j ≤ i ∧ i < j + m ∧ P i = true
  | 0, j => by simp only [anyF]; constructor; (intro h; cases h); (rintro ⟨i, h1, h2, _⟩; omega)
  | m + 1, j => by
    simp only [anyF, Bool.or_eq_true, anyF_iff (m := m) (j := j + 1)]
    constructor
    · rintro (h | ⟨i, h1, h2, h3⟩)
      · exact ⟨j, by omega, by omega, h⟩
      · exact ⟨i, by omega, by omega, h3⟩
    · rintro ⟨i, h1, h2, h3⟩
      by_cases e : i = j
      · left; rw [← e]; exact h3
      · right; exact ⟨i, by omega, by omega, h3⟩
theorem allF_congr {P Q : Nat → Bool} {j m : Nat} (h : ∀ i, j ≤ i → i < j + m → P i = Q i) : allF P j m = allF Q j m := by
  rw [Bool.eq_iff_iff, allF_iff, allF_iff]
  exact ⟨fun g i h1 h2 => by rw [← h i h1 h2]; exact g i h1 h2, fun g i h1 h2 => by rw [h i h1 h2]; exact g i h1 h2⟩
theorem anyF_congr {P Q : Nat → Bool} {j m : Nat} (h : ∀ i, j ≤ i → i < j + m → P i = Q i) : anyF P j m = anyF Q j m := by
  rw [Bool.eq_iff_iff, anyF_iff, anyF_iff]
  exact ⟨fun ⟨i, h1, h2, h3⟩ => ⟨i, h1, h2, by rw [← h i h1 h2]; exact h3⟩, fun ⟨i, h1, h2, h3⟩ => ⟨i, h1, h2, by rw [h i h1 h2]; exact h3⟩⟩
theorem any_sel {P Q : Nat → Bool} {n : Nat} : ((sel P n).any fun z => Q z.toNat) = anyF (fun t => P t && Q t) 0 n := by
  rw [Bool.eq_iff_iff, anyF_iff, List.any_eq_true]
  simp only [sel, List.mem_map, List.mem_filter, List.mem_range]
  constructor
  · rintro ⟨z, ⟨a, ⟨h1, h2⟩, rfl⟩, h3⟩
    exact ⟨a, by omega, by omega, by rw [h2]; simpa using h3⟩
  · rintro ⟨a, h1, h2, h3⟩
    rw [Bool.and_eq_true] at h3
    exact ⟨(a : Int), ⟨a, ⟨by omega, h3.1⟩, rfl⟩, by simpa using h3.2⟩
/-! tuples -/
theorem tuples_l (n : Int) (b : Nat) (hb : b < 9223372036854775808) (N : Nat) (hN : N ≤ 65536) (kx : List Int → Option R) : ∀ (m i k : Nat), i + m = N → m < k →
    i_Relation_tuples_l3 K k (n, (b : Int), ()) (sel b.testBit i) (N : Int) (i : Int) kx = kx (sel b.testBit N)
  | 0, i, k + 1, e, _ => by
    obtain rfl : i = N := by omega
    simp only [i_Relation_tuples_l3]; rw [ite_f (by simp)]
  | m + 1, i, k + 1, e, hk => by
    have hl := sel_len b.testBit i
    simp only [i_Relation_tuples_l3]
    have ih := tuples_l n b hb N hN kx m (i + 1) k (by omega) (by omega)
    rw [sel_succ] at ih
    rw [ite_t (decide_eq_true (by omega)), i_Relation_has_eq i hb, some_bind', w64s (by omega), ite_t (lim_len (by omega))]
    cases hs : b.testBit i
    · rw [hs, if_neg (by decide)] at ih
      rw [if_neg (by decide)]; exact ih
    · rw [hs, if_pos rfl] at ih
      rw [if_pos rfl]; exact ih
theorem i_tuples_eq {n b : Nat} (hn : n ≤ 4) (hb : b < 9223372036854775808) (hK : 4611686018427387904 ≤ K) : i_Relation_tuples K (((n : Int), (b : Int), ()), ()) = some (sel b.testBit (2 ^ n)) := by
  have hp := pw4 hn
  simp only [i_Relation_tuples, i_rowsOf_eq (show n < 63 by omega), some_bind']
  exact tuples_l (K := K) (n : Int) b hb (2 ^ n) (by omega) (fun z => some z) (2 ^ n) 0 K (by omega) (by omega)
/-! first places -/
theorem index_l (v : Int) (l : List Int) (hl : l.length < 4611686018427387904) (kx : Option R) (kr : Int → Option R) : ∀ (r p : List Int) (k : Nat), l = p ++ r → r.length < k →
    slices_Index_int64_l2 K k l v (l.length : Int) (p.length : Int) kx kr = match r.findIdx? (fun z => decide (v = z)) with | some j => kr ((p.length + j : Nat) : Int) | none => kx
  | [], p, k + 1, h, _ => by subst h; simp only [slices_Index_int64_l2]; rw [ite_f nlt_len]; rfl
  | y :: r, p, k + 1, h, hk => by
    subst h
    simp only [slices_Index_int64_l2]
    rw [ite_t lt_len, ite_t bnds_mid, getD_midI, List.findIdx?_cons]
    cases hg : decide (v = y)
    · rw [if_neg (by decide), if_neg (by decide), next_i hl, index_l v _ hl kx kr r (p ++ [y]) k (mid_app p r y) (by simp at hk; omega)]
      cases hr : r.findIdx? (fun z => decide (v = z))
      · rfl
      · simp only [Option.map_some]; congr 1; simp; omega
    · rw [if_pos rfl, if_pos rfl]; rfl
theorem slices_Index_eq {v : Int} {l : List Int} {j : Nat} (hl : l.length < 4611686018427387904) (hK : 4611686018427387904 ≤ K) (h : l.findIdx? (fun z => decide (v = z)) = some j) : slices_Index_int64 K (l, v, ()) = some (j : Int) := by
  simp only [slices_Index_int64]
  have := index_l (K := K) v l hl (some (-1 : Int)) (fun z => some z) l [] K rfl (by omega)
  simp only [List.length_nil, Nat.zero_add] at this
  rw [show ((0 : Nat) : Int) = 0 from rfl] at this
  rw [this, h]
/-- The first place at which the number stands that stands at place i. -/
def fstP (vs : List Int) (i : Nat) : Nat := (vs.findIdx? fun z => decide (vs.getD i 0 = z)).getD 0
theorem fstP_h {vs : List Int} {i : Nat} (h : i < vs.length) : vs.findIdx? (fun z => decide (vs.getD i 0 = z)) = some (fstP vs i) ∧ fstP vs i ≤ i ∧ vs.getD (fstP vs i) 0 = vs.getD i 0 := by
  have hi : vs.getD i 0 = vs[i] := by simp [List.getD, List.getElem?_eq_getElem h]
  cases hf : vs.findIdx? (fun z => decide (vs.getD i 0 = z)) with
  | none =>
    rw [List.findIdx?_eq_none_iff] at hf
    have := hf vs[i] (List.getElem_mem h)
    rw [hi] at this; simp at this
  | some j =>
    have e : fstP vs i = j := by unfold fstP; rw [hf]; rfl
    rw [e]
    obtain ⟨h1, h2, h3⟩ := List.findIdx?_eq_some_iff_getElem.1 hf
    refine ⟨rfl, ?_, ?_⟩
    · apply Nat.le_of_not_lt
      intro hlt
      have := h3 i hlt
      rw [hi] at this; simp at this
    · simp only [List.getD, List.getElem?_eq_getElem h1, Option.getD_some]
      simpa [List.getD] using (of_decide_eq_true h2).symm
def alw (d : Int) (t i : Nat) : Bool := decide (d = 2) || decide (d = bt t i)
def opI (vs d : List Int) (t i : Nat) : Bool := alw (d.getD (vs.getD i 0).toNat 0) t i && (t.testBit (fstP vs i) == t.testBit i)
theorem bt_eqd (t i j : Nat) : (!decide (bt t i = bt t j)) = !(t.testBit i == t.testBit j) := by
  unfold bt; cases t.testBit i <;> cases t.testBit j <;> rfl
theorem open_l (t : Nat) (c : DC) (d : List Int) (ht : t < 9223372036854775808) (hK : 4611686018427387904 ≤ K) (hl : c.2.1.length ≤ 4) (hv : ∀ v ∈ c.2.1, 0 ≤ v ∧ v < d.length) (kx : Option R) (kr : Bool → Option R) : ∀ (m i k : Nat), i + m = c.2.1.length → m < k →
    i_Clause_isOpen_l2 K k (t : Int) d c c.2.1 (c.2.1.length : Int) (i : Int) kx kr = if allF (opI c.2.1 d t) i m = true then kx else kr false
  | 0, i, k + 1, e, _ => by
    simp only [i_Clause_isOpen_l2]; rw [ite_f (decide_eq_false (by omega))]; rfl
  | m + 1, i, k + 1, e, hk => by
    have hi : i < c.2.1.length := by omega
    have hm : c.2.1.getD i 0 ∈ c.2.1 := by simp [List.getD, List.getElem?_eq_getElem hi]
    obtain ⟨hv0, hv1⟩ := hv _ hm
    obtain ⟨f1, f2, f3⟩ := fstP_h hi
    simp only [i_Clause_isOpen_l2]
    have ih := open_l t c d ht hK hl hv kx kr m (i + 1) k (by omega) (by omega)
    rw [ite_t (decide_eq_true (by omega)), ite_t (bnds_n hi), Int.toNat_natCast, slices_Index_eq (by omega) hK f1, some_bind', ite_t (bnds_t hv0 hv1), ite_t (bnds_t hv0 hv1), i_bit_eq i ht, some_bind', i_bit_eq (fstP c.2.1 i) ht, some_bind', some_bind', bt_eqd, w64s (by omega), ih]
    rw [allF, opI, alw]
    generalize d.getD (c.2.1.getD i 0).toNat 0 = dv
    generalize allF (opI c.2.1 d t) (i + 1) m = A
    cases (t.testBit (fstP c.2.1 i) == t.testBit i) <;> by_cases h2 : dv = 2 <;> by_cases h3 : dv = bt t i <;> cases A <;> simp [h2, h3]
def opn (vs d : List Int) (t : Nat) : Bool := allF (opI vs d t) 0 vs.length
theorem i_isOpen_eq {t : Nat} {c : DC} {d : List Int} (ht : t < 9223372036854775808) (hK : 4611686018427387904 ≤ K) (hl : c.2.1.length ≤ 4) (hv : ∀ v ∈ c.2.1, 0 ≤ v ∧ v < d.length) : i_Clause_isOpen K (c, (t : Int), d, ()) = some (opn c.2.1 d t) := by
  simp only [i_Clause_isOpen]
  have := open_l (K := K) t c d ht hK hl hv (some true) (fun z => some z) c.2.1.length 0 K (by omega) (by omega)
  rw [show ((0 : Nat) : Int) = 0 from rfl] at this
  rw [this, opn]; cases allF (opI c.2.1 d t) 0 c.2.1.length <;> rfl
end Go.Proofs.Ytieiajeggahipaa.E
namespace Go.Proofs.Ytieiajeggahipaa.E
open Go Go.Proofs Go.Proofs.Ytieiajeggahipaa
set_option maxRecDepth 100000
set_option linter.unusedVariables false
noncomputable def i_Func_made_l4 {R : Type} (K : Nat) (r : ((Int × Int × Unit) × Int × (List Int) × (List Int) × Int × ((Int × Unit) → Option Bool) × Unit) → Option Bool) : Nat → (List Int) → ((Int × Unit) → Option Bool) → (Int × Int × Unit) → Int → Int → Int → (((Int × Unit) → Option Bool) → Int → Option R) → Option R
  | 0, _, _, _, _, _, _, _ => none
  | k + 1, v3, v5, v6, v13, v23, v24, kx0 =>
    (if (decide (v24 < v23)) = true then
    (if (bnds v24 (v3.length : Int)) = true then
    (i_Func_at K (v6, (v3.getD v24.toNat (0 : Int)), ())).bind fun y1 =>
    (if (decide ((0 : Int) ≤ v24)) = true then
    i_Func_made_l4 K r k v3 v5 v6 (bitI .or .i64 v13 (shlI .i64 y1 v24)) v23 (IntKind.i64.wrap (v24 + (1 : Int))) kx0
    else
    none)
    else
    none)
    else
    kx0 v5 v13)
noncomputable def i_Func_made_l14 {R : Type} (K : Nat) (r : ((Int × Int × Unit) × Int × (List Int) × (List Int) × Int × ((Int × Unit) → Option Bool) × Unit) → Option Bool) : Nat → Int → (List Int) → (List Int) → Int → ((Int × Unit) → Option Bool) → (Int × Int × Unit) → Int → (List Int) → (List Int) → Int → Int → Int → Int → (Int → (List Int) → (List Int) → Int → ((Int × Unit) → Option Bool) → (Int × Int × Unit) → (List Int) → (List Int) → Int → Int → Option R) → Option R
  | 0, _, _, _, _, _, _, _, _, _, _, _, _, _, _ => none
  | k + 1, v1, v2, v3, v4, v5, v6, v16, v17, v41, v42, v43, v49, v50, kx4 =>
    (if (decide (v50 < v49)) = true then
    (if (bnds v50 (v17.length : Int)) = true then
    (i_bit K (v16, v50, ())).bind fun y6 =>
    (if (decide ((0 : Int) ≤ v4)) = true then
    let x7 := (bitI .or .i64 (v17.getD v50.toNat (0 : Int)) (shlI .i64 y6 v4))
    (if (bnds v50 (v17.length : Int)) = true then
    let l8 := (v17.set v50.toNat x7)
    i_Func_made_l14 K r k v1 v2 v3 v4 v5 v6 v16 l8 v41 v42 v43 v49 (IntKind.i64.wrap (v50 + (1 : Int))) kx4
    else
    none)
    else
    none)
    else
    none)
    else
    kx4 v1 v2 v3 v4 v5 v6 v17 v41 v42 v43)
noncomputable def i_Func_made_l10 {R : Type} (K : Nat) (r : ((Int × Int × Unit) × Int × (List Int) × (List Int) × Int × ((Int × Unit) → Option Bool) × Unit) → Option Bool) : Nat → Int → (List Int) → (List Int) → Int → ((Int × Unit) → Option Bool) → (Int × Int × Unit) → (List Int) → Int → Int → (Option R) → (Bool → Option R) → Option R
  | 0, _, _, _, _, _, _, _, _, _, _, _ => none
  | k + 1, v1, v2, v3, v4, v5, v6, v41, v42, v43, kx2, kr =>
    (if (decide (v43 < v42)) = true then
    (if (bnds v43 (v41.length : Int)) = true then
    (slices_Clone_int64 K (v3, ())).bind fun y5 =>
    i_Func_made_l14 K r k v1 v2 v3 v4 v5 v6 (v41.getD v43.toNat (0 : Int)) y5 v41 v42 v43 v1 (0 : Int) (fun z9 z10 z11 z12 z13 z14 z15 z16 z17 z18 =>
    (r (z14, z9, z10, z15, (IntKind.i64.wrap (z12 + (1 : Int))), z13, ())).bind fun y19 =>
    (if (!y19) = true then
    kr false
    else
    i_Func_made_l10 K r k z9 z10 z11 z12 z13 z14 z16 z17 (IntKind.i64.wrap (z18 + (1 : Int))) kx2 kr))
    else
    none)
    else
    kx2)
noncomputable def i_Func_made_b (K : Nat) (r : ((Int × Int × Unit) × Int × (List Int) × (List Int) × Int × ((Int × Unit) → Option Bool) × Unit) → Option Bool) (x : ((Int × Int × Unit) × Int × (List Int) × (List Int) × Int × ((Int × Unit) → Option Bool) × Unit)) : Option Bool :=
    (if (decide (x.2.2.2.2.1 = x.1.1)) = true then
    i_Func_made_l4 K r K x.2.2.2.1 x.2.2.2.2.2.1 x.1 (0 : Int) x.2.1 (0 : Int) (fun z2 z3 =>
    (z2 (z3, ())).bind fun y4 =>
    some y4)
    else
    i_Func_made_l10 K r K x.2.1 x.2.2.1 x.2.2.2.1 x.2.2.2.2.1 x.2.2.2.2.2.1 x.1 x.2.2.1 (x.2.2.1.length : Int) (0 : Int) (some true) (fun z20 =>
    some z20))
noncomputable def i_Func_made (K : Nat) : Nat → ((Int × Int × Unit) × Int × (List Int) × (List Int) × Int × ((Int × Unit) → Option Bool) × Unit) → Option Bool
  | 0 => fun _ => none
  | k + 1 => i_Func_made_b K (i_Func_made K k)
noncomputable def lv_i_Func_made_L4 : Lv := [(3, (.v (.sl (.int .i64)))), (5, (.v (.fn (.pair (.int .i64) .unit) .bool))), (6, (.bx (.v (.st (.pair (.int .i64) (.pair (.int .i64) .unit)))))), (13, (.v (.int .i64))), (23, (.v (.int .i64))), (24, (.v (.int .i64)))]
noncomputable def lv_i_Func_made_L10 : Lv := [(1, (.v (.int .i64))), (2, (.v (.sl (.int .i64)))), (3, (.v (.sl (.int .i64)))), (4, (.v (.int .i64))), (5, (.v (.fn (.pair (.int .i64) .unit) .bool))), (6, (.bx (.v (.st (.pair (.int .i64) (.pair (.int .i64) .unit)))))), (41, (.v (.sl (.int .i64)))), (42, (.v (.int .i64))), (43, (.v (.int .i64)))]
noncomputable def lv_i_Func_made_L14 : Lv := [(1, (.v (.int .i64))), (2, (.v (.sl (.int .i64)))), (3, (.v (.sl (.int .i64)))), (4, (.v (.int .i64))), (5, (.v (.fn (.pair (.int .i64) .unit) .bool))), (6, (.bx (.v (.st (.pair (.int .i64) (.pair (.int .i64) .unit)))))), (16, (.v (.int .i64))), (17, (.r (.int .i64))), (41, (.v (.sl (.int .i64)))), (42, (.v (.int .i64))), (43, (.v (.int .i64))), (49, (.v (.int .i64))), (50, (.v (.int .i64)))]
noncomputable def lv_i_Func_made_X0 : Lv := [(5, (.v (.fn (.pair (.int .i64) .unit) .bool))), (13, (.v (.int .i64)))]
noncomputable def lv_i_Func_made_X2 : Lv := []
noncomputable def lv_i_Func_made_X4 : Lv := [(1, (.v (.int .i64))), (2, (.v (.sl (.int .i64)))), (3, (.v (.sl (.int .i64)))), (4, (.v (.int .i64))), (5, (.v (.fn (.pair (.int .i64) .unit) .bool))), (6, (.bx (.v (.st (.pair (.int .i64) (.pair (.int .i64) .unit)))))), (17, (.r (.int .i64))), (41, (.v (.sl (.int .i64)))), (42, (.v (.int .i64))), (43, (.v (.int .i64)))]
noncomputable def rv_i_Func_made : Lv := [(12, (.v .bool))]
noncomputable def gi_Func_made_l4 {R : Type} (K : Nat) (r : ((Int × Int × Unit) × Int × (List Int) × (List Int) × Int × ((Int × Unit) → Option Bool) × Unit) → Option Bool) (k : Nat) (x : den lv_i_Func_made_L4.ty) (kx : Nat → St → Option R) (kr : St → Option R) : Option R := i_Func_made_l4 K r k x.1 x.2.1 x.2.2.1 x.2.2.2.1 x.2.2.2.2.1 x.2.2.2.2.2.1 (fun z0 z1 => kx 0 (mkSt lv_i_Func_made_X0 (z0, z1, ())))
noncomputable def gi_Func_made_l14 {R : Type} (K : Nat) (r : ((Int × Int × Unit) × Int × (List Int) × (List Int) × Int × ((Int × Unit) → Option Bool) × Unit) → Option Bool) (k : Nat) (x : den lv_i_Func_made_L14.ty) (kx : Nat → St → Option R) (kr : St → Option R) : Option R := i_Func_made_l14 K r k x.1 x.2.1 x.2.2.1 x.2.2.2.1 x.2.2.2.2.1 x.2.2.2.2.2.1 x.2.2.2.2.2.2.1 x.2.2.2.2.2.2.2.1 x.2.2.2.2.2.2.2.2.1 x.2.2.2.2.2.2.2.2.2.1 x.2.2.2.2.2.2.2.2.2.2.1 x.2.2.2.2.2.2.2.2.2.2.2.1 x.2.2.2.2.2.2.2.2.2.2.2.2.1 (fun z0 z1 z2 z3 z4 z5 z6 z7 z8 z9 => kx 4 (mkSt lv_i_Func_made_X4 (z0, z1, z2, z3, z4, z5, z6, z7, z8, z9, ())))
noncomputable def gi_Func_made_l10 {R : Type} (K : Nat) (r : ((Int × Int × Unit) × Int × (List Int) × (List Int) × Int × ((Int × Unit) → Option Bool) × Unit) → Option Bool) (k : Nat) (x : den lv_i_Func_made_L10.ty) (kx : Nat → St → Option R) (kr : St → Option R) : Option R := i_Func_made_l10 K r k x.1 x.2.1 x.2.2.1 x.2.2.2.1 x.2.2.2.2.1 x.2.2.2.2.2.1 x.2.2.2.2.2.2.1 x.2.2.2.2.2.2.2.1 x.2.2.2.2.2.2.2.2.1 (kx 2 (mkSt lv_i_Func_made_X2 ())) (fun z0 => kr (mkSt rv_i_Func_made (z0, ())))
noncomputable def sg_i_Func_made {R : Type} (K : Nat) (r : ((Int × Int × Unit) × Int × (List Int) × (List Int) × Int × ((Int × Unit) → Option Bool) × Unit) → Option Bool) (k : Nat) : List (Nat × SegS R) := []
noncomputable def su_i_Func_made : List (Nat × Unit) := []
noncomputable def en_i_Func_made {R : Type} (K : Nat) (r : ((Int × Int × Unit) × Int × (List Int) × (List Int) × Int × ((Int × Unit) → Option Bool) × Unit) → Option Bool) (k : Nat) : Env R := { L := lk [(4, mkLoop lv_i_Func_made_L4 (gi_Func_made_l4 K r k)), (14, mkLoop lv_i_Func_made_L14 (gi_Func_made_l14 K r k)), (10, mkLoop lv_i_Func_made_L10 (gi_Func_made_l10 K r k))], X := lk [(0, lv_i_Func_made_X0), (2, lv_i_Func_made_X2), (4, lv_i_Func_made_X4)], S := lk (sg_i_Func_made K r k), rv := rv_i_Func_made }
noncomputable def cf_i_Func_made (K : Nat) (r : ((Int × Int × Unit) × Int × (List Int) × (List Int) × Int × ((Int × Unit) → Option Bool) × Unit) → Option Bool) : Cfg := { ty := lk tys, fn := lk [(96, sp_i_bit (i_bit K)), (103, sp_slices_Clone_int64 (slices_Clone_int64 K)), (112, sp_i_Func_at (i_Func_at K)), (146, sp_i_Func_made (r))], prot := 0, nt := Try.f146.ntmps }
noncomputable def c_i_Func_made_L4 : Code := nthC (partsOf (hasK su_i_Func_made) (bodyOf Try.f146)) 0
noncomputable def c_i_Func_made_L10 : Code := nthC (partsOf (hasK su_i_Func_made) (bodyOf Try.f146)) 1
noncomputable def c_i_Func_made_L14 : Code := nthC (partsOf (hasK su_i_Func_made) c_i_Func_made_L10) 0
theorem ei_Func_made_l4 {R : Type} (K : Nat) (r : ((Int × Int × Unit) × Int × (List Int) × (List Int) × Int × ((Int × Unit) → Option Bool) × Unit) → Option Bool) (k : Nat) (x : den lv_i_Func_made_L4.ty) (kx : Nat → St → Option R) (kr : St → Option R) : gi_Func_made_l4 K r (k + 1) x kx kr = evC (cf_i_Func_made K r) (en_i_Func_made K r k) c_i_Func_made_L4 (mkSt lv_i_Func_made_L4 x) (fun s => mkLoop lv_i_Func_made_L4 (gi_Func_made_l4 K r k) s kx kr) kx kr := by kernel_rfl
theorem si_Func_made_l4 {R : Type} (K : Nat) (r : ((Int × Int × Unit) × Int × (List Int) × (List Int) × Int × ((Int × Unit) → Option Bool) × Unit) → Option Bool) (C : Cx) (hP : C.P = Try.prog) (O : CfgOk C (cf_i_Func_made K r)) (k : Nat) : LpS C (R := R) (mkLoop lv_i_Func_made_L4 (gi_Func_made_l4 K r k)) c_i_Func_made_L4 :=
  loop_sound O (by rw [hP]; kernel_rfl) (fun x kx kr => rfl) (ei_Func_made_l4 K r) (fun k => lpOk_of (en := en_i_Func_made K r k) (S := hasK su_i_Func_made) (fun i => hasK_lk (sg_i_Func_made K r k) i) _ (by rw [show partsOf (hasK su_i_Func_made) c_i_Func_made_L4 = [] from by kernel_rfl]; exact trivial)) k
theorem ei_Func_made_l14 {R : Type} (K : Nat) (r : ((Int × Int × Unit) × Int × (List Int) × (List Int) × Int × ((Int × Unit) → Option Bool) × Unit) → Option Bool) (k : Nat) (x : den lv_i_Func_made_L14.ty) (kx : Nat → St → Option R) (kr : St → Option R) : gi_Func_made_l14 K r (k + 1) x kx kr = evC (cf_i_Func_made K r) (en_i_Func_made K r k) c_i_Func_made_L14 (mkSt lv_i_Func_made_L14 x) (fun s => mkLoop lv_i_Func_made_L14 (gi_Func_made_l14 K r k) s kx kr) kx kr := by kernel_rfl
theorem si_Func_made_l14 {R : Type} (K : Nat) (r : ((Int × Int × Unit) × Int × (List Int) × (List Int) × Int × ((Int × Unit) → Option Bool) × Unit) → Option Bool) (C : Cx) (hP : C.P = Try.prog) (O : CfgOk C (cf_i_Func_made K r)) (k : Nat) : LpS C (R := R) (mkLoop lv_i_Func_made_L14 (gi_Func_made_l14 K r k)) c_i_Func_made_L14 :=
  loop_sound O (by rw [hP]; kernel_rfl) (fun x kx kr => rfl) (ei_Func_made_l14 K r) (fun k => lpOk_of (en := en_i_Func_made K r k) (S := hasK su_i_Func_made) (fun i => hasK_lk (sg_i_Func_made K r k) i) _ (by rw [show partsOf (hasK su_i_Func_made) c_i_Func_made_L14 = [] from by kernel_rfl]; exact trivial)) k
theorem ei_Func_made_l10 {R : Type} (K : Nat) (r : ((Int × Int × Unit) × Int × (List Int) × (List Int) × Int × ((Int × Unit) → Option Bool) × Unit) → Option Bool) (k : Nat) (x : den lv_i_Func_made_L10.ty) (kx : Nat → St → Option R) (kr : St → Option R) : gi_Func_made_l10 K r (k + 1) x kx kr = evC (cf_i_Func_made K r) (en_i_Func_made K r k) c_i_Func_made_L10 (mkSt lv_i_Func_made_L10 x) (fun s => mkLoop lv_i_Func_made_L10 (gi_Func_made_l10 K r k) s kx kr) kx kr := by kernel_rfl
theorem si_Func_made_l10 {R : Type} (K : Nat) (r : ((Int × Int × Unit) × Int × (List Int) × (List Int) × Int × ((Int × Unit) → Option Bool) × Unit) → Option Bool) (C : Cx) (hP : C.P = Try.prog) (O : CfgOk C (cf_i_Func_made K r)) (k : Nat) : LpS C (R := R) (mkLoop lv_i_Func_made_L10 (gi_Func_made_l10 K r k)) c_i_Func_made_L10 :=
  loop_sound O (by rw [hP]; kernel_rfl) (fun x kx kr => rfl) (ei_Func_made_l10 K r) (fun k => lpOk_of (en := en_i_Func_made K r k) (S := hasK su_i_Func_made) (fun i => hasK_lk (sg_i_Func_made K r k) i) _ (by rw [show partsOf (hasK su_i_Func_made) c_i_Func_made_L10 = [(true, c_i_Func_made_L14)] from by kernel_rfl]; exact (lpL_loop (f := mkLoop lv_i_Func_made_L14 (gi_Func_made_l14 K r k)) (by kernel_rfl) (si_Func_made_l14 K r C hP O k) trivial))) k
theorem e_i_Func_made (K : Nat) (r : ((Int × Int × Unit) × Int × (List Int) × (List Int) × Int × ((Int × Unit) → Option Bool) × Unit) → Option Bool) (x : den as_i_Func_made) : i_Func_made_b K r x = evFn (cf_i_Func_made K r) as_i_Func_made [false, false, false, false, false, false] .bool (en_i_Func_made K r K) Try.f146.results.toList (bodyOf Try.f146) x := by kernel_rfl
theorem okb_i_Func_made (K : Nat) (r : ((Int × Int × Unit) × Int × (List Int) × (List Int) × Int × ((Int × Unit) → Option Bool) × Unit) → Option Bool) (hr : FnOk Try.prog 146 (sp_i_Func_made r)) : FnOk Try.prog 146 (sp_i_Func_made (i_Func_made_b K r)) :=
  fn_ok (cf := cf_i_Func_made K r) (en := en_i_Func_made K r K) (c := bodyOf Try.f146) Try.func146 (by kernel_rfl) (by kernel_rfl) tysOk (fns_ok (l := [(96, sp_i_bit (i_bit K)), (103, sp_slices_Clone_int64 (slices_Clone_int64 K)), (112, sp_i_Func_at (i_Func_at K)), (146, sp_i_Func_made (r))]) ⟨ok_i_bit K, ⟨ok_slices_Clone_int64 K, ⟨ok_i_Func_at K, ⟨hr, trivial⟩⟩⟩⟩) (by kernel_rfl) rfl (Nat.le_of_ble_eq_true (by kernel_rfl)) (by kernel_rfl) (of_decide_eq_true (by kernel_rfl)) (by decide) (fun C hP O => lpOk_of (en := en_i_Func_made K r K) (S := hasK su_i_Func_made) (fun i => hasK_lk (sg_i_Func_made K r K) i) _ (by rw [show partsOf (hasK su_i_Func_made) (bodyOf Try.f146) = [(true, c_i_Func_made_L4), (true, c_i_Func_made_L10)] from by kernel_rfl]; exact (lpL_loop (f := mkLoop lv_i_Func_made_L4 (gi_Func_made_l4 K r K)) (by kernel_rfl) (si_Func_made_l4 K r C hP O K) (lpL_loop (f := mkLoop lv_i_Func_made_L10 (gi_Func_made_l10 K r K)) (by kernel_rfl) (si_Func_made_l10 K r C hP O K) trivial)))) (fun x y h => by rw [← e_i_Func_made]; exact h)
theorem ok_i_Func_made (K : Nat) : ∀ k, FnOk Try.prog 146 (sp_i_Func_made (i_Func_made K k))
  | 0 => fnOk_none
  | k + 1 => okb_i_Func_made K (i_Func_made K k) (ok_i_Func_made K k)
noncomputable def as_i_Func_keeps : Ty := (.pair (.st (.pair (.int .i64) (.pair (.int .i64) .unit))) (.pair (.st (.pair (.int .i64) (.pair (.int .i64) .unit))) .unit))
noncomputable def sp_i_Func_keeps (F : ((Int × Int × Unit) × (Int × Int × Unit) × Unit) → Option Bool) : FnSpec := ⟨as_i_Func_keeps, [false, false], .bool, F⟩
noncomputable def i_Func_keeps (K : Nat) (x : ((Int × Int × Unit) × (Int × Int × Unit) × Unit)) : Option Bool :=
    (i_Relation_tuples K (x.2.1, ())).bind fun y1 =>
    (if (decide (0 ≤ x.2.1.1) && decide (x.2.1.1 ≤ (lim : Int)) && decide (x.2.1.1 = x.2.1.1)) = true then
    let l2 := (List.replicate x.2.1.1.toNat (0 : Int))
    (i_Func_made K K (x.1, x.2.1.1, y1, l2, (0 : Int), (fun y4 => i_Relation_has K (x.2.1, y4.1, ())), ())).bind fun y3 =>
    some y3
    else
    none)
noncomputable def rv_i_Func_keeps : Lv := [(4, (.v .bool))]
noncomputable def sg_i_Func_keeps {R : Type} (K : Nat) (k : Nat) : List (Nat × SegS R) := []
noncomputable def su_i_Func_keeps : List (Nat × Unit) := []
noncomputable def en_i_Func_keeps {R : Type} (K : Nat) (k : Nat) : Env R := { L := lk [], X := lk [], S := lk (sg_i_Func_keeps K k), rv := rv_i_Func_keeps }
noncomputable def cf_i_Func_keeps (K : Nat) : Cfg := { ty := lk tys, fn := lk [(93, sp_i_Relation_has (i_Relation_has K)), (129, sp_i_Relation_tuples (i_Relation_tuples K)), (146, sp_i_Func_made (i_Func_made K K))], prot := 0, nt := Try.f133.ntmps }
theorem e_i_Func_keeps (K : Nat) (x : den as_i_Func_keeps) : i_Func_keeps K x = evFn (cf_i_Func_keeps K) as_i_Func_keeps [false, false] .bool (en_i_Func_keeps K K) Try.f133.results.toList (bodyOf Try.f133) x := by kernel_rfl
theorem ok_i_Func_keeps (K : Nat) : FnOk Try.prog 133 (sp_i_Func_keeps (i_Func_keeps K)) :=
  fn_ok (cf := cf_i_Func_keeps K) (en := en_i_Func_keeps K K) (c := bodyOf Try.f133) Try.func133 (by kernel_rfl) (by kernel_rfl) tysOk (fns_ok (l := [(93, sp_i_Relation_has (i_Relation_has K)), (129, sp_i_Relation_tuples (i_Relation_tuples K)), (146, sp_i_Func_made (i_Func_made K K))]) ⟨ok_i_Relation_has K, ⟨ok_i_Relation_tuples K, ⟨ok_i_Func_made K K, trivial⟩⟩⟩) (by kernel_rfl) rfl (Nat.le_of_ble_eq_true (by kernel_rfl)) (by kernel_rfl) (of_decide_eq_true (by kernel_rfl)) (by decide) (fun C hP O => lpOk_of (en := en_i_Func_keeps K K) (S := hasK su_i_Func_keeps) (fun i => hasK_lk (sg_i_Func_keeps K K) i) _ (by rw [show partsOf (hasK su_i_Func_keeps) (bodyOf Try.f133) = [] from by kernel_rfl]; exact trivial)) (fun x y h => by rw [← e_i_Func_keeps]; exact h)
noncomputable def as_s_l06Value : Ty := (.pair (.st (.pair (.int .i64) (.pair (.int .i64) .unit))) (.pair (.sl (.int .i64)) (.pair (.int .i64) .unit)))
noncomputable def sp_s_l06Value (F : ((Int × Int × Unit) × (List Int) × Int × Unit) → Option Int) : FnSpec := ⟨as_s_l06Value, [false, false, false], (.int .i64), F⟩
noncomputable def s_l06Value_l7 {R : Type} (K : Nat) : Nat → (List Int) → Int → (Int × Int × Unit) → Int → Int → Int → Int → ((List Int) → Int → (Int × Int × Unit) → Int → Int → Int → Option R) → Option R
  | 0, _, _, _, _, _, _, _, _ => none
  | k + 1, v1, v2, v3, v7, v8, v9, v10, kx2 =>
    (if (decide (v10 < (v1.length : Int))) = true then
    (if (bnds v10 (v1.length : Int)) = true then
    (if (decide ((0 : Int) ≤ (IntKind.u64.wrap v8))) = true then
    let x1 := (shrI .i64 (v1.getD v10.toNat (0 : Int)) (IntKind.u64.wrap v8))
    (if (decide ((0 : Int) ≤ (IntKind.u64.wrap v10))) = true then
    let x2 := (shlI .i64 (bitI .and .i64 x1 (1 : Int)) (IntKind.u64.wrap v10))
    s_l06Value_l7 K k v1 v2 v3 v7 v8 (bitI .or .i64 v9 x2) (IntKind.i64.wrap (v10 + (1 : Int))) kx2
    else
    none)
    else
    none)
    else
    none)
    else
    kx2 v1 v2 v3 v7 v8 v9)
noncomputable def s_l06Value_l3 {R : Type} (K : Nat) : Nat → (List Int) → Int → (Int × Int × Unit) → Int → Int → (Int → Option R) → Option R
  | 0, _, _, _, _, _, _ => none
  | k + 1, v1, v2, v3, v7, v8, kx0 =>
    (if (decide (v8 < v2)) = true then
    s_l06Value_l7 K k v1 v2 v3 v7 v8 (0 : Int) (0 : Int) (fun z3 z4 z5 z6 z7 z8 =>
    (s_l01At K (z5, z8, ())).bind fun y9 =>
    (if (decide ((0 : Int) ≤ (IntKind.u64.wrap z7))) = true then
    s_l06Value_l3 K k z3 z4 z5 (bitI .or .i64 z6 (shlI .i64 y9 (IntKind.u64.wrap z7))) (IntKind.i64.wrap (z7 + (1 : Int))) kx0
    else
    none))
    else
    kx0 v7)
noncomputable def s_l06Value (K : Nat) (x : ((Int × Int × Unit) × (List Int) × Int × Unit)) : Option Int :=
    s_l06Value_l3 K K x.2.1 x.2.2.1 x.1 (0 : Int) (0 : Int) (fun z10 =>
    some z10)
noncomputable def lv_s_l06Value_L3 : Lv := [(1, (.v (.sl (.int .i64)))), (2, (.v (.int .i64))), (3, (.bx (.v (.st (.pair (.int .i64) (.pair (.int .i64) .unit)))))), (7, (.v (.int .i64))), (8, (.v (.int .i64)))]
noncomputable def lv_s_l06Value_L7 : Lv := [(1, (.v (.sl (.int .i64)))), (2, (.v (.int .i64))), (3, (.bx (.v (.st (.pair (.int .i64) (.pair (.int .i64) .unit)))))), (7, (.v (.int .i64))), (8, (.v (.int .i64))), (9, (.v (.int .i64))), (10, (.v (.int .i64)))]
noncomputable def lv_s_l06Value_X0 : Lv := [(7, (.v (.int .i64)))]
noncomputable def lv_s_l06Value_X2 : Lv := [(1, (.v (.sl (.int .i64)))), (2, (.v (.int .i64))), (3, (.bx (.v (.st (.pair (.int .i64) (.pair (.int .i64) .unit)))))), (7, (.v (.int .i64))), (8, (.v (.int .i64))), (9, (.v (.int .i64)))]
noncomputable def rv_s_l06Value : Lv := [(6, (.v (.int .i64)))]
noncomputable def gs_l06Value_l7 {R : Type} (K : Nat) (k : Nat) (x : den lv_s_l06Value_L7.ty) (kx : Nat → St → Option R) (kr : St → Option R) : Option R := s_l06Value_l7 K k x.1 x.2.1 x.2.2.1 x.2.2.2.1 x.2.2.2.2.1 x.2.2.2.2.2.1 x.2.2.2.2.2.2.1 (fun z0 z1 z2 z3 z4 z5 => kx 2 (mkSt lv_s_l06Value_X2 (z0, z1, z2, z3, z4, z5, ())))
noncomputable def gs_l06Value_l3 {R : Type} (K : Nat) (k : Nat) (x : den lv_s_l06Value_L3.ty) (kx : Nat → St → Option R) (kr : St → Option R) : Option R := s_l06Value_l3 K k x.1 x.2.1 x.2.2.1 x.2.2.2.1 x.2.2.2.2.1 (fun z0 => kx 0 (mkSt lv_s_l06Value_X0 (z0, ())))
noncomputable def sg_s_l06Value {R : Type} (K : Nat) (k : Nat) : List (Nat × SegS R) := []
noncomputable def su_s_l06Value : List (Nat × Unit) := []
noncomputable def en_s_l06Value {R : Type} (K : Nat) (k : Nat) : Env R := { L := lk [(7, mkLoop lv_s_l06Value_L7 (gs_l06Value_l7 K k)), (3, mkLoop lv_s_l06Value_L3 (gs_l06Value_l3 K k))], X := lk [(0, lv_s_l06Value_X0), (2, lv_s_l06Value_X2)], S := lk (sg_s_l06Value K k), rv := rv_s_l06Value }
noncomputable def cf_s_l06Value (K : Nat) : Cfg := { ty := lk tys, fn := lk [(110, sp_s_l01At (s_l01At K))], prot := 0, nt := Try.f151.ntmps }
noncomputable def c_s_l06Value_L3 : Code := nthC (partsOf (hasK su_s_l06Value) (bodyOf Try.f151)) 0
noncomputable def c_s_l06Value_L7 : Code := nthC (partsOf (hasK su_s_l06Value) c_s_l06Value_L3) 0
theorem es_l06Value_l7 {R : Type} (K : Nat) (k : Nat) (x : den lv_s_l06Value_L7.ty) (kx : Nat → St → Option R) (kr : St → Option R) : gs_l06Value_l7 K (k + 1) x kx kr = evC (cf_s_l06Value K) (en_s_l06Value K k) c_s_l06Value_L7 (mkSt lv_s_l06Value_L7 x) (fun s => mkLoop lv_s_l06Value_L7 (gs_l06Value_l7 K k) s kx kr) kx kr := by kernel_rfl
theorem ss_l06Value_l7 {R : Type} (K : Nat) (C : Cx) (hP : C.P = Try.prog) (O : CfgOk C (cf_s_l06Value K)) (k : Nat) : LpS C (R := R) (mkLoop lv_s_l06Value_L7 (gs_l06Value_l7 K k)) c_s_l06Value_L7 :=
  loop_sound O (by rw [hP]; kernel_rfl) (fun x kx kr => rfl) (es_l06Value_l7 K) (fun k => lpOk_of (en := en_s_l06Value K k) (S := hasK su_s_l06Value) (fun i => hasK_lk (sg_s_l06Value K k) i) _ (by rw [show partsOf (hasK su_s_l06Value) c_s_l06Value_L7 = [] from by kernel_rfl]; exact trivial)) k
theorem es_l06Value_l3 {R : Type} (K : Nat) (k : Nat) (x : den lv_s_l06Value_L3.ty) (kx : Nat → St → Option R) (kr : St → Option R) : gs_l06Value_l3 K (k + 1) x kx kr = evC (cf_s_l06Value K) (en_s_l06Value K k) c_s_l06Value_L3 (mkSt lv_s_l06Value_L3 x) (fun s => mkLoop lv_s_l06Value_L3 (gs_l06Value_l3 K k) s kx kr) kx kr := by kernel_rfl
theorem ss_l06Value_l3 {R : Type} (K : Nat) (C : Cx) (hP : C.P = Try.prog) (O : CfgOk C (cf_s_l06Value K)) (k : Nat) : LpS C (R := R) (mkLoop lv_s_l06Value_L3 (gs_l06Value_l3 K k)) c_s_l06Value_L3 :=
  loop_sound O (by rw [hP]; kernel_rfl) (fun x kx kr => rfl) (es_l06Value_l3 K) (fun k => lpOk_of (en := en_s_l06Value K k) (S := hasK su_s_l06Value) (fun i => hasK_lk (sg_s_l06Value K k) i) _ (by rw [show partsOf (hasK su_s_l06Value) c_s_l06Value_L3 = [(true, c_s_l06Value_L7)] from by kernel_rfl]; exact (lpL_loop (f := mkLoop lv_s_l06Value_L7 (gs_l06Value_l7 K k)) (by kernel_rfl) (ss_l06Value_l7 K C hP O k) trivial))) k
theorem e_s_l06Value (K : Nat) (x : den as_s_l06Value) : s_l06Value K x = evFn (cf_s_l06Value K) as_s_l06Value [false, false, false] (.int .i64) (en_s_l06Value K K) Try.f151.results.toList (bodyOf Try.f151) x := by kernel_rfl
theorem ok_s_l06Value (K : Nat) : FnOk Try.prog 151 (sp_s_l06Value (s_l06Value K)) :=
  fn_ok (cf := cf_s_l06Value K) (en := en_s_l06Value K K) (c := bodyOf Try.f151) Try.func151 (by kernel_rfl) (by kernel_rfl) tysOk (fns_ok (l := [(110, sp_s_l01At (s_l01At K))]) ⟨ok_s_l01At K, trivial⟩) (by kernel_rfl) rfl (Nat.le_of_ble_eq_true (by kernel_rfl)) (by kernel_rfl) (of_decide_eq_true (by kernel_rfl)) (by decide) (fun C hP O => lpOk_of (en := en_s_l06Value K K) (S := hasK su_s_l06Value) (fun i => hasK_lk (sg_s_l06Value K K) i) _ (by rw [show partsOf (hasK su_s_l06Value) (bodyOf Try.f151) = [(true, c_s_l06Value_L3)] from by kernel_rfl]; exact (lpL_loop (f := mkLoop lv_s_l06Value_L3 (gs_l06Value_l3 K K)) (by kernel_rfl) (ss_l06Value_l3 K C hP O K) trivial))) (fun x y h => by rw [← e_s_l06Value]; exact h)
noncomputable def s_l06Made_l5 {R : Type} (K : Nat) (r : ((Int × Int × Unit) × (Int × Int × Unit) × (List Int) × (List Int) × Unit) → Option Int) : Nat → (List Int) → (List Int) → (Int × Int × Unit) → (Int × Int × Unit) → Int → Int → (Int → Option R) → Option R
  | 0, _, _, _, _, _, _, _ => none
  | k + 1, v2, v3, v4, v5, v9, v10, kx0 =>
    (if (decide (v10 < (v2.length : Int))) = true then
    (s_l01Own K (v3, ())).bind fun y2 =>
    (if (bnds v10 (v2.length : Int)) = true then
    let l3 := [(v2.getD v10.toNat (0 : Int))]
    (if (decide (y2.length + l3.length ≤ lim)) = true then
    let l4 := (y2 ++ l3)
    (r (v4, v5, v2, l4, ())).bind fun y5 =>
    s_l06Made_l5 K r k v2 v3 v4 v5 (bitI .or .i64 v9 y5) (IntKind.i64.wrap (v10 + (1 : Int))) kx0
    else
    none)
    else
    none)
    else
    kx0 v9)
noncomputable def s_l06Made_b (K : Nat) (r : ((Int × Int × Unit) × (Int × Int × Unit) × (List Int) × (List Int) × Unit) → Option Int) (x : ((Int × Int × Unit) × (Int × Int × Unit) × (List Int) × (List Int) × Unit)) : Option Int :=
    (if (decide ((x.2.2.2.1.length : Int) = x.1.1)) = true then
    (s_l06Value K (x.1, x.2.2.2.1, x.2.1.1, ())).bind fun y1 =>
    (if (decide ((0 : Int) ≤ (IntKind.u64.wrap y1))) = true then
    some (shlI .i64 (1 : Int) (IntKind.u64.wrap y1))
    else
    none)
    else
    s_l06Made_l5 K r K x.2.2.1 x.2.2.2.1 x.1 x.2.1 (0 : Int) (0 : Int) (fun z6 =>
    some z6))
noncomputable def s_l06Made (K : Nat) : Nat → ((Int × Int × Unit) × (Int × Int × Unit) × (List Int) × (List Int) × Unit) → Option Int
  | 0 => fun _ => none
  | k + 1 => s_l06Made_b K (s_l06Made K k)
noncomputable def lv_s_l06Made_L5 : Lv := [(2, (.v (.sl (.int .i64)))), (3, (.v (.sl (.int .i64)))), (4, (.bx (.v (.st (.pair (.int .i64) (.pair (.int .i64) .unit)))))), (5, (.bx (.v (.st (.pair (.int .i64) (.pair (.int .i64) .unit)))))), (9, (.v (.int .i64))), (10, (.v (.int .i64)))]
noncomputable def lv_s_l06Made_X0 : Lv := [(9, (.v (.int .i64)))]
noncomputable def rv_s_l06Made : Lv := [(8, (.v (.int .i64)))]
noncomputable def gs_l06Made_l5 {R : Type} (K : Nat) (r : ((Int × Int × Unit) × (Int × Int × Unit) × (List Int) × (List Int) × Unit) → Option Int) (k : Nat) (x : den lv_s_l06Made_L5.ty) (kx : Nat → St → Option R) (kr : St → Option R) : Option R := s_l06Made_l5 K r k x.1 x.2.1 x.2.2.1 x.2.2.2.1 x.2.2.2.2.1 x.2.2.2.2.2.1 (fun z0 => kx 0 (mkSt lv_s_l06Made_X0 (z0, ())))
noncomputable def sg_s_l06Made {R : Type} (K : Nat) (r : ((Int × Int × Unit) × (Int × Int × Unit) × (List Int) × (List Int) × Unit) → Option Int) (k : Nat) : List (Nat × SegS R) := []
noncomputable def su_s_l06Made : List (Nat × Unit) := []
noncomputable def en_s_l06Made {R : Type} (K : Nat) (r : ((Int × Int × Unit) × (Int × Int × Unit) × (List Int) × (List Int) × Unit) → Option Int) (k : Nat) : Env R := { L := lk [(5, mkLoop lv_s_l06Made_L5 (gs_l06Made_l5 K r k))], X := lk [(0, lv_s_l06Made_X0)], S := lk (sg_s_l06Made K r k), rv := rv_s_l06Made }
noncomputable def cf_s_l06Made (K : Nat) (r : ((Int × Int × Unit) × (Int × Int × Unit) × (List Int) × (List Int) × Unit) → Option Int) : Cfg := { ty := lk tys, fn := lk [(99, sp_s_l01Own (s_l01Own K)), (144, sp_s_l06Made (r)), (151, sp_s_l06Value (s_l06Value K))], prot := 0, nt := Try.f144.ntmps }
noncomputable def c_s_l06Made_L5 : Code := nthC (partsOf (hasK su_s_l06Made) (bodyOf Try.f144)) 0
theorem es_l06Made_l5 {R : Type} (K : Nat) (r : ((Int × Int × Unit) × (Int × Int × Unit) × (List Int) × (List Int) × Unit) → Option Int) (k : Nat) (x : den lv_s_l06Made_L5.ty) (kx : Nat → St → Option R) (kr : St → Option R) : gs_l06Made_l5 K r (k + 1) x kx kr = evC (cf_s_l06Made K r) (en_s_l06Made K r k) c_s_l06Made_L5 (mkSt lv_s_l06Made_L5 x) (fun s => mkLoop lv_s_l06Made_L5 (gs_l06Made_l5 K r k) s kx kr) kx kr := by kernel_rfl
theorem ss_l06Made_l5 {R : Type} (K : Nat) (r : ((Int × Int × Unit) × (Int × Int × Unit) × (List Int) × (List Int) × Unit) → Option Int) (C : Cx) (hP : C.P = Try.prog) (O : CfgOk C (cf_s_l06Made K r)) (k : Nat) : LpS C (R := R) (mkLoop lv_s_l06Made_L5 (gs_l06Made_l5 K r k)) c_s_l06Made_L5 :=
  loop_sound O (by rw [hP]; kernel_rfl) (fun x kx kr => rfl) (es_l06Made_l5 K r) (fun k => lpOk_of (en := en_s_l06Made K r k) (S := hasK su_s_l06Made) (fun i => hasK_lk (sg_s_l06Made K r k) i) _ (by rw [show partsOf (hasK su_s_l06Made) c_s_l06Made_L5 = [] from by kernel_rfl]; exact trivial)) k
theorem e_s_l06Made (K : Nat) (r : ((Int × Int × Unit) × (Int × Int × Unit) × (List Int) × (List Int) × Unit) → Option Int) (x : den as_s_l06Made) : s_l06Made_b K r x = evFn (cf_s_l06Made K r) as_s_l06Made [false, false, false, false] (.int .i64) (en_s_l06Made K r K) Try.f144.results.toList (bodyOf Try.f144) x := by kernel_rfl
theorem okb_s_l06Made (K : Nat) (r : ((Int × Int × Unit) × (Int × Int × Unit) × (List Int) × (List Int) × Unit) → Option Int) (hr : FnOk Try.prog 144 (sp_s_l06Made r)) : FnOk Try.prog 144 (sp_s_l06Made (s_l06Made_b K r)) :=
  fn_ok (cf := cf_s_l06Made K r) (en := en_s_l06Made K r K) (c := bodyOf Try.f144) Try.func144 (by kernel_rfl) (by kernel_rfl) tysOk (fns_ok (l := [(99, sp_s_l01Own (s_l01Own K)), (144, sp_s_l06Made (r)), (151, sp_s_l06Value (s_l06Value K))]) ⟨ok_s_l01Own K, ⟨hr, ⟨ok_s_l06Value K, trivial⟩⟩⟩) (by kernel_rfl) rfl (Nat.le_of_ble_eq_true (by kernel_rfl)) (by kernel_rfl) (of_decide_eq_true (by kernel_rfl)) (by decide) (fun C hP O => lpOk_of (en := en_s_l06Made K r K) (S := hasK su_s_l06Made) (fun i => hasK_lk (sg_s_l06Made K r K) i) _ (by rw [show partsOf (hasK su_s_l06Made) (bodyOf Try.f144) = [(true, c_s_l06Made_L5)] from by kernel_rfl]; exact (lpL_loop (f := mkLoop lv_s_l06Made_L5 (gs_l06Made_l5 K r K)) (by kernel_rfl) (ss_l06Made_l5 K r C hP O K) trivial))) (fun x y h => by rw [← e_s_l06Made]; exact h)
theorem ok_s_l06Made (K : Nat) : ∀ k, FnOk Try.prog 144 (sp_s_l06Made (s_l06Made K k))
  | 0 => fnOk_none
  | k + 1 => okb_s_l06Made K (s_l06Made K k) (ok_s_l06Made K k)
noncomputable def as_s_l06List : Ty := (.pair (.st (.pair (.int .i64) (.pair (.int .i64) .unit))) .unit)
noncomputable def sp_s_l06List (F : ((Int × Int × Unit) × Unit) → Option (List Int)) : FnSpec := ⟨as_s_l06List, [false], (.sl (.int .i64)), F⟩
noncomputable def s_l06List_l3 {R : Type} (K : Nat) : Nat → (Int × Int × Unit) → (List Int) → Int → ((List Int) → Option R) → Option R
  | 0, _, _, _, _ => none
  | k + 1, v1, v3, v4, kx0 =>
    (s_l01Rows K (v1.1, ())).bind fun y2 =>
    (if (decide (v4 < y2)) = true then
    (if (decide ((0 : Int) ≤ (IntKind.u64.wrap v4))) = true then
    let x3 := (bitI .and .i64 (shrI .i64 v1.2.1 (IntKind.u64.wrap v4)) (1 : Int))
    (if (decide (x3 = (1 : Int))) = true then
    (if (decide (v3.length + ([v4]).length ≤ lim)) = true then
    let l4 := (v3 ++ [v4])
    s_l06List_l3 K k v1 l4 (IntKind.i64.wrap (v4 + (1 : Int))) kx0
    else
    none)
    else
    s_l06List_l3 K k v1 v3 (IntKind.i64.wrap (v4 + (1 : Int))) kx0)
    else
    none)
    else
    kx0 v3)
noncomputable def s_l06List (K : Nat) (x : ((Int × Int × Unit) × Unit)) : Option (List Int) :=
    let l1 := ([] : List Int)
    s_l06List_l3 K K x.1 l1 (0 : Int) (fun z5 =>
    some z5)
noncomputable def lv_s_l06List_L3 : Lv := [(1, (.bx (.v (.st (.pair (.int .i64) (.pair (.int .i64) .unit)))))), (3, (.r (.int .i64))), (4, (.v (.int .i64)))]
noncomputable def lv_s_l06List_X0 : Lv := [(3, (.r (.int .i64)))]
noncomputable def rv_s_l06List : Lv := [(2, (.r (.int .i64)))]
noncomputable def gs_l06List_l3 {R : Type} (K : Nat) (k : Nat) (x : den lv_s_l06List_L3.ty) (kx : Nat → St → Option R) (kr : St → Option R) : Option R := s_l06List_l3 K k x.1 x.2.1 x.2.2.1 (fun z0 => kx 0 (mkSt lv_s_l06List_X0 (z0, ())))
noncomputable def sg_s_l06List {R : Type} (K : Nat) (k : Nat) : List (Nat × SegS R) := []
noncomputable def su_s_l06List : List (Nat × Unit) := []
noncomputable def en_s_l06List {R : Type} (K : Nat) (k : Nat) : Env R := { L := lk [(3, mkLoop lv_s_l06List_L3 (gs_l06List_l3 K k))], X := lk [(0, lv_s_l06List_X0)], S := lk (sg_s_l06List K k), rv := rv_s_l06List }
noncomputable def cf_s_l06List (K : Nat) : Cfg := { ty := lk tys, fn := lk [(75, sp_s_l01Rows (s_l01Rows K))], prot := 0, nt := Try.f145.ntmps }
noncomputable def c_s_l06List_L3 : Code := nthC (partsOf (hasK su_s_l06List) (bodyOf Try.f145)) 0
theorem es_l06List_l3 {R : Type} (K : Nat) (k : Nat) (x : den lv_s_l06List_L3.ty) (kx : Nat → St → Option R) (kr : St → Option R) : gs_l06List_l3 K (k + 1) x kx kr = evC (cf_s_l06List K) (en_s_l06List K k) c_s_l06List_L3 (mkSt lv_s_l06List_L3 x) (fun s => mkLoop lv_s_l06List_L3 (gs_l06List_l3 K k) s kx kr) kx kr := by kernel_rfl
theorem ss_l06List_l3 {R : Type} (K : Nat) (C : Cx) (hP : C.P = Try.prog) (O : CfgOk C (cf_s_l06List K)) (k : Nat) : LpS C (R := R) (mkLoop lv_s_l06List_L3 (gs_l06List_l3 K k)) c_s_l06List_L3 :=
  loop_sound O (by rw [hP]; kernel_rfl) (fun x kx kr => rfl) (es_l06List_l3 K) (fun k => lpOk_of (en := en_s_l06List K k) (S := hasK su_s_l06List) (fun i => hasK_lk (sg_s_l06List K k) i) _ (by rw [show partsOf (hasK su_s_l06List) c_s_l06List_L3 = [] from by kernel_rfl]; exact trivial)) k
theorem e_s_l06List (K : Nat) (x : den as_s_l06List) : s_l06List K x = evFn (cf_s_l06List K) as_s_l06List [false] (.sl (.int .i64)) (en_s_l06List K K) Try.f145.results.toList (bodyOf Try.f145) x := by kernel_rfl
theorem ok_s_l06List (K : Nat) : FnOk Try.prog 145 (sp_s_l06List (s_l06List K)) :=
  fn_ok (cf := cf_s_l06List K) (en := en_s_l06List K K) (c := bodyOf Try.f145) Try.func145 (by kernel_rfl) (by kernel_rfl) tysOk (fns_ok (l := [(75, sp_s_l01Rows (s_l01Rows K))]) ⟨ok_s_l01Rows K, trivial⟩) (by kernel_rfl) rfl (Nat.le_of_ble_eq_true (by kernel_rfl)) (by kernel_rfl) (of_decide_eq_true (by kernel_rfl)) (by decide) (fun C hP O => lpOk_of (en := en_s_l06List K K) (S := hasK su_s_l06List) (fun i => hasK_lk (sg_s_l06List K K) i) _ (by rw [show partsOf (hasK su_s_l06List) (bodyOf Try.f145) = [(true, c_s_l06List_L3)] from by kernel_rfl]; exact (lpL_loop (f := mkLoop lv_s_l06List_L3 (gs_l06List_l3 K K)) (by kernel_rfl) (ss_l06List_l3 K C hP O K) trivial))) (fun x y h => by rw [← e_s_l06List]; exact h)
noncomputable def as_s_l06Keeps : Ty := (.pair (.st (.pair (.int .i64) (.pair (.int .i64) .unit))) (.pair (.st (.pair (.int .i64) (.pair (.int .i64) .unit))) .unit))
noncomputable def sp_s_l06Keeps (F : ((Int × Int × Unit) × (Int × Int × Unit) × Unit) → Option Bool) : FnSpec := ⟨as_s_l06Keeps, [false, false], .bool, F⟩
noncomputable def s_l06Keeps (K : Nat) (x : ((Int × Int × Unit) × (Int × Int × Unit) × Unit)) : Option Bool :=
    (s_l06List K (x.2.1, ())).bind fun y1 =>
    let l2 := ([] : List Int)
    (s_l06Made K K (x.1, x.2.1, y1, l2, ())).bind fun y3 =>
    some (decide ((bitI .andNot .i64 y3 x.2.1.2.1) = (0 : Int)))
noncomputable def rv_s_l06Keeps : Lv := [(4, (.v .bool))]
noncomputable def sg_s_l06Keeps {R : Type} (K : Nat) (k : Nat) : List (Nat × SegS R) := []
noncomputable def su_s_l06Keeps : List (Nat × Unit) := []
noncomputable def en_s_l06Keeps {R : Type} (K : Nat) (k : Nat) : Env R := { L := lk [], X := lk [], S := lk (sg_s_l06Keeps K k), rv := rv_s_l06Keeps }
noncomputable def cf_s_l06Keeps (K : Nat) : Cfg := { ty := lk tys, fn := lk [(144, sp_s_l06Made (s_l06Made K K)), (145, sp_s_l06List (s_l06List K))], prot := 0, nt := Try.f132.ntmps }
theorem e_s_l06Keeps (K : Nat) (x : den as_s_l06Keeps) : s_l06Keeps K x = evFn (cf_s_l06Keeps K) as_s_l06Keeps [false, false] .bool (en_s_l06Keeps K K) Try.f132.results.toList (bodyOf Try.f132) x := by kernel_rfl
theorem ok_s_l06Keeps (K : Nat) : FnOk Try.prog 132 (sp_s_l06Keeps (s_l06Keeps K)) :=
  fn_ok (cf := cf_s_l06Keeps K) (en := en_s_l06Keeps K K) (c := bodyOf Try.f132) Try.func132 (by kernel_rfl) (by kernel_rfl) tysOk (fns_ok (l := [(144, sp_s_l06Made (s_l06Made K K)), (145, sp_s_l06List (s_l06List K))]) ⟨ok_s_l06Made K K, ⟨ok_s_l06List K, trivial⟩⟩) (by kernel_rfl) rfl (Nat.le_of_ble_eq_true (by kernel_rfl)) (by kernel_rfl) (of_decide_eq_true (by kernel_rfl)) (by decide) (fun C hP O => lpOk_of (en := en_s_l06Keeps K K) (S := hasK su_s_l06Keeps) (fun i => hasK_lk (sg_s_l06Keeps K K) i) _ (by rw [show partsOf (hasK su_s_l06Keeps) (bodyOf Try.f132) = [] from by kernel_rfl]; exact trivial)) (fun x y h => by rw [← e_s_l06Keeps]; exact h)
end Go.Proofs.Ytieiajeggahipaa.E
namespace Go.Proofs.Ytieiajeggahipaa.E
open Go Go.Proofs
set_option linter.unusedVariables false
set_option linter.unusedSimpArgs false
variable {K : Nat} {R : Type}
/-! what a function makes of some tuples -/
def rowV (ch : List Nat) (a i : Nat) : Nat := mkB (fun j => (ch.getD j 0).testBit i) a
def valV (fb n : Nat) (ch : List Nat) : Nat := mkB (fun i => fb.testBit (rowV ch ch.length i)) n
def madeV (fb n : Nat) (L : List Nat) : Nat → List Nat → Nat
  | 0, ch => 2 ^ valV fb n ch
  | m + 1, ch => L.foldl (fun acc t => acc ||| madeV fb n L m (ch ++ [t])) 0
def keepV (fb n B : Nat) (L : List Nat) : Nat → List Nat → Bool
  | 0, ch => B.testBit (valV fb n ch)
  | m + 1, ch => L.all fun t => keepV fb n B L m (ch ++ [t])
theorem fold_bit (F : Nat → Nat) (j : Nat) : ∀ (L : List Nat) (acc : Nat), (L.foldl (fun acc t => acc ||| F t) acc).testBit j = (acc.testBit j || L.any fun t => (F t).testBit j)
  | [], acc => by simp
  | t :: L, acc => by rw [List.foldl_cons, fold_bit F j L, Nat.testBit_or, List.any_cons, Bool.or_assoc]
theorem keep_made (fb n B : Nat) (L : List Nat) : ∀ (m : Nat) (ch : List Nat), keepV fb n B L m ch = true ↔ ∀ j, (madeV fb n L m ch).testBit j = true → B.testBit j = true
  | 0, ch => by
    simp only [keepV, madeV, Nat.testBit_two_pow, decide_eq_true_eq]
    constructor
    · rintro h j rfl; exact h
    · intro h; exact h _ rfl
  | m + 1, ch => by
    simp only [keepV, madeV, fold_bit, List.all_eq_true, keep_made fb n B L m, Nat.zero_testBit, Bool.false_or, List.any_eq_true]
    constructor
    · rintro h j ⟨t, h1, h2⟩; exact h t h1 j h2
    · intro h t h1 j h2; exact h j ⟨t, h1, h2⟩
theorem valV_lt (fb n : Nat) (ch : List Nat) : valV fb n ch < 2 ^ n := mkB_lt _ _
theorem fold_lt {F : Nat → Nat} {w : Nat} : ∀ (L : List Nat) (acc : Nat), acc < 2 ^ w → (∀ t ∈ L, F t < 2 ^ w) → L.foldl (fun acc t => acc ||| F t) acc < 2 ^ w
  | [], acc, h, _ => h
  | t :: L, acc, h, h2 => by rw [List.foldl_cons]; exact fold_lt L _ (Nat.or_lt_two_pow h (h2 t (by simp))) (fun t ht => h2 t (by simp [ht]))
theorem madeV_lt {fb n : Nat} (hn : n ≤ 4) (L : List Nat) : ∀ (m : Nat) (ch : List Nat), madeV fb n L m ch < 2 ^ 16
  | 0, ch => by
    have := valV_lt fb n ch
    have := pw4 hn
    exact Nat.pow_lt_pow_right (by decide) (by omega)
  | m + 1, ch => fold_lt L 0 (Nat.two_pow_pos _) (fun t _ => madeV_lt hn L m _)
theorem bitI_andNot0 {a b : Nat} (ha : a < 9223372036854775808) (hb : b < 9223372036854775808) : bitI .andNot .i64 (a : Int) (b : Int) = 0 ↔ ∀ j, a.testBit j = true → b.testBit j = true := by
  have e : bitI .andNot .i64 (a : Int) (b : Int) = ((a ^^^ (a &&& b) : Nat) : Int) := by
    have h1 : a &&& b ≤ a := Nat.and_le_left
    have h2 : a ^^^ (a &&& b) < 9223372036854775808 := Nat.xor_lt_two_pow (n := 63) ha (by omega)
    show IntKind.i64.wrap (((BitVec.ofInt 64 (a : Int) &&& ~~~(BitVec.ofInt 64 (b : Int)) : BitVec 64).toNat : Nat) : Int) = _
    have e2 : ∀ x y : BitVec 64, x &&& ~~~y = x ^^^ (x &&& y) := fun x y => by
      apply BitVec.eq_of_getLsbD_eq; intro i hi; simp [hi]; cases x[i] <;> cases y[i] <;> rfl
    rw [e2]
    simp only [BitVec.toNat_xor, BitVec.toNat_and, BitVec.toNat_ofInt]
    simp only [show ((2 ^ 64 : Nat) : Int) = 18446744073709551616 from rfl, emod2n]
    rw [Nat.mod_eq_of_lt (by omega), Nat.mod_eq_of_lt (by omega), w64n (by omega)]
  rw [e]
  constructor
  · intro h j hj
    have h : a ^^^ (a &&& b) = 0 := by omega
    have := congrArg (fun z => z.testBit j) h
    simp only [Nat.testBit_xor, Nat.testBit_and, Nat.zero_testBit, hj] at this
    cases hb : b.testBit j
    · rw [hb] at this; simp at this
    · rfl
  · intro h
    have : a ^^^ (a &&& b) = 0 := by
      apply Nat.eq_of_testBit_eq; intro j
      simp only [Nat.testBit_xor, Nat.testBit_and, Nat.zero_testBit]
      cases ha : a.testBit j
      · rfl
      · rw [h j ha]; rfl
    rw [this]; rfl
/-! the reference -/
theorem value_l7 (ch : List Nat) (hc : ∀ t ∈ ch, t < 16) (hl : ch.length ≤ 4) (v2 : Int) (f : DF) (x7 : Int) (i : Nat) (hi : i < 16) (kx : List Int → Int → DF → Int → Int → Int → Option R) : ∀ (m j k : Nat), j + m = ch.length → m < k →
    s_l06Value_l7 K k (ch.map fun (a : Nat) => (a : Int)) v2 f x7 (i : Int) ((mkB (fun j => (ch.getD j 0).testBit i) j : Nat) : Int) (j : Int) kx = kx (ch.map fun (a : Nat) => (a : Int)) v2 f x7 (i : Int) ((rowV ch ch.length i : Nat) : Int)
  | 0, j, k + 1, e, _ => by
    simp only [s_l06Value_l7]; rw [ite_f (decide_eq_false (by simp; omega))]
    obtain rfl : j = ch.length := by omega
    rfl
  | m + 1, j, k + 1, e, hk => by
    have ih := value_l7 ch hc hl v2 f x7 i hi kx m (j + 1) k (by omega) (by omega)
    rw [mkB_succ] at ih
    have ht : ch.getD j 0 < 16 := hc _ (by simp [List.getD, List.getElem?_eq_getElem (show j < ch.length by omega)])
    simp only [s_l06Value_l7]
    rw [ite_t (decide_eq_true (by simp; omega)), ite_t (bnds_n (by simp; omega)), ite_t (u64_dec _), ite_t (u64_dec _), u64n (n := i) (by omega), u64n (n := j) (by omega), getD_map, bitI_bt i (by omega), shl_bt (by omega), or_dg (mkB_lt _ _) (by omega), w64s (by omega), ih]
theorem value_l3 (ch : List Nat) (hc : ∀ t ∈ ch, t < 16) (hl : ch.length ≤ 4) (fb n : Nat) (hn : n ≤ 4) (hf : fb < 65536) (fa : Int) (kx : Int → Option R) : ∀ (m i k : Nat), i + m = n → 100 + m < k →
    s_l06Value_l3 K k (ch.map fun (a : Nat) => (a : Int)) (n : Int) (fa, (fb : Int), ()) ((mkB (fun i => fb.testBit (rowV ch ch.length i)) i : Nat) : Int) (i : Int) kx = kx ((valV fb n ch : Nat) : Int)
  | 0, i, k + 1, e, _ => by
    simp only [s_l06Value_l3]; rw [ite_f (decide_eq_false (by omega))]
    obtain rfl : i = n := by omega
    rfl
  | m + 1, i, k + 1, e, hk => by
    have ih := value_l3 ch hc hl fb n hn hf fa kx m (i + 1) k (by omega) (by omega)
    rw [mkB_succ] at ih
    have h7 := fun kx => value_l7 (K := K) (R := R) ch hc hl (n : Int) (fa, (fb : Int), ()) ((mkB (fun i => fb.testBit (rowV ch ch.length i)) i : Nat) : Int) i (by omega) kx ch.length 0 k (by omega) (by omega)
    simp only [mkB] at h7
    rw [show ((0 : Nat) : Int) = 0 from rfl] at h7
    have hr : rowV ch ch.length i < 16 := Nat.lt_of_lt_of_le (mkB_lt _ _) (pw4 hl)
    simp only [s_l06Value_l3]
    rw [ite_t (decide_eq_true (by omega)), h7, s_l01At_eq (by omega) (by omega), some_bind', ite_t (u64_dec _), u64n (by omega), shl_bt (by omega), or_dg (mkB_lt _ _) (by omega), w64s (by omega), ih]
theorem s_l06Value_eq {ch : List Nat} (hc : ∀ t ∈ ch, t < 16) (hl : ch.length ≤ 4) {fb n : Nat} (hn : n ≤ 4) (hf : fb < 65536) (fa : Int) (hK : 4611686018427387904 ≤ K) : s_l06Value K ((fa, (fb : Int), ()), ch.map (fun (a : Nat) => (a : Int)), (n : Int), ()) = some ((valV fb n ch : Nat) : Int) := by
  simp only [s_l06Value]
  exact value_l3 (K := K) ch hc hl fb n hn hf fa (fun z => some z) n 0 K (by omega) (by omega)
def relL (B n : Nat) : List Nat := (List.range (2 ^ n)).filter B.testBit
theorem relL_lt {B n t : Nat} (h : t ∈ relL B n) : t < 2 ^ n := List.mem_range.1 (List.mem_filter.1 h).1
theorem relL_len (B n : Nat) : (relL B n).length ≤ 2 ^ n := Nat.le_trans (List.length_filter_le _ _) (by simp)
theorem made_l5 (B n fb a : Nat) (hn : n ≤ 4) (hf : fb < 65536) (hB : B < 9223372036854775808) (ch : List Nat) (hl : ch.length < 4) (mm : Nat) (r : DF × DF × List Int × List Int × Unit → Option Int) (hr : ∀ t ∈ relL B n, r (((a : Int), (fb : Int), ()), ((n : Int), (B : Int), ()), (relL B n).map (fun (a : Nat) => (a : Int)), (ch ++ [t]).map (fun (a : Nat) => (a : Int)), ()) = some ((madeV fb n (relL B n) mm (ch ++ [t]) : Nat) : Int)) (kx : Int → Option R) : ∀ (q p : List Nat) (k acc : Nat), relL B n = p ++ q → q.length < k → acc < 2 ^ 16 →
    s_l06Made_l5 K r k ((relL B n).map fun (a : Nat) => (a : Int)) (ch.map fun (a : Nat) => (a : Int)) ((a : Int), (fb : Int), ()) ((n : Int), (B : Int), ()) (acc : Int) (p.length : Int) kx = kx ((q.foldl (fun acc t => acc ||| madeV fb n (relL B n) mm (ch ++ [t])) acc : Nat) : Int)
  | [], p, k + 1, acc, e, _, _ => by
    simp only [s_l06Made_l5]; rw [ite_f (decide_eq_false (by rw [e]; simp))]; rfl
  | t :: q, p, k + 1, acc, e, hk, ha => by
    have hm := madeV_lt (fb := fb) hn (relL B n) mm (ch ++ [t])
    have ih := made_l5 B n fb a hn hf hB ch hl mm r hr kx q (p ++ [t]) k (acc ||| madeV fb n (relL B n) mm (ch ++ [t])) (by rw [e, mid_app]) (by simp at hk; omega) (Nat.or_lt_two_pow ha hm)
    simp only [snoc_len] at ih
    have hp : p.length < (relL B n).length := by rw [e]; simp
    have h4 := relL_len B n
    have h5 := pw4 hn
    have ht : ((relL B n).map fun (a : Nat) => (a : Int)).getD ((p.length : Int)).toNat 0 = (t : Int) := by rw [getD_map, show (relL B n).getD p.length 0 = t from by rw [e]; exact getD_mid p q t 0]
    have e2 : ch.map (fun (a : Nat) => (a : Int)) ++ [(t : Int)] = (ch ++ [t]).map (fun (a : Nat) => (a : Int)) := by simp
    have hrt := hr t (by rw [e]; simp)
    simp only [s_l06Made_l5]
    rw [ite_t (decide_eq_true (by simp; omega)), s_l01Own_eq (by simp; omega), some_bind', ite_t (bnds_n (by simpa using hp)), ht, ite_t (lim_len (by simp; omega)), e2, hrt, some_bind', bitI_or (by omega) (by omega), w64s (by omega), ih]; rfl
theorem s_made_eq {B n fb a : Nat} (hn : n ≤ 4) (ha : a ≤ 4) (hf : fb < 65536) (hB : B < 9223372036854775808) (hK : 4611686018427387904 ≤ K) : ∀ (m k : Nat) (ch : List Nat), ch.length + m = a → m < k → (∀ t ∈ ch, t < 16) →
    s_l06Made K k (((a : Int), (fb : Int), ()), ((n : Int), (B : Int), ()), (relL B n).map (fun (a : Nat) => (a : Int)), ch.map (fun (a : Nat) => (a : Int)), ()) = some ((madeV fb n (relL B n) m ch : Nat) : Int)
  | 0, k + 1, ch, e, _, hc => by
    have hp := pw4 hn
    have hv := valV_lt fb n ch
    rw [s_l06Made]
    simp only [s_l06Made_b]
    rw [ite_t (decide_eq_true (by simp; omega)), s_l06Value_eq hc (by omega) hn hf _ hK, some_bind', ite_t (u64_dec _), u64n (by omega), shl1 (by omega)]; rfl
  | m + 1, k + 1, ch, e, hk, hc => by
    have hp := pw4 hn
    have h4 := relL_len B n
    rw [s_l06Made]
    simp only [s_l06Made_b]
    have := made_l5 (K := K) B n fb a hn hf hB ch (by omega) m (s_l06Made K k) (fun t ht => s_made_eq hn ha hf hB hK m k (ch ++ [t]) (by simp; omega) (by omega) (fun u hu => by
      rcases List.mem_append.1 hu with h | h
      · exact hc u h
      · have := relL_lt ht; simp at h; omega)) (fun z => some z) (relL B n) [] K 0 rfl (by omega) (by decide)
    simp only [List.length_nil] at this
    rw [show ((0 : Nat) : Int) = 0 from rfl] at this
    rw [ite_f (decide_eq_false (by simp; omega)), this]; rfl
theorem s_list_l (n B : Nat) (hn : n ≤ 4) (hB : B < 9223372036854775808) (kx : List Int → Option R) : ∀ (m i k : Nat), i + m = 2 ^ n → m < k →
    s_l06List_l3 K k ((n : Int), (B : Int), ()) (sel B.testBit i) (i : Int) kx = kx (sel B.testBit (2 ^ n))
  | 0, i, k + 1, e, _ => by
    obtain rfl : i = 2 ^ n := by omega
    simp only [s_l06List_l3, s_l01Rows_eq (show n < 63 by omega), some_bind']; rw [ite_f (by simp)]
  | m + 1, i, k + 1, e, hk => by
    have hp := pw4 hn
    have hl := sel_len B.testBit i
    simp only [s_l06List_l3, s_l01Rows_eq (show n < 63 by omega), some_bind']
    have ih := s_list_l n B hn hB kx m (i + 1) k (by omega) (by omega)
    rw [sel_succ] at ih
    rw [ite_t (decide_eq_true (by omega)), ite_t (u64_dec _), u64n (by omega), bitI_bt i hB, bt_dec, w64s (by omega), ite_t (lim_len (by omega))]
    cases hs : B.testBit i
    · rw [hs, if_neg (by decide)] at ih
      rw [if_neg (by decide)]; exact ih
    · rw [hs, if_pos rfl] at ih
      rw [if_pos rfl]; exact ih
theorem s_l06List_eq {n B : Nat} (hn : n ≤ 4) (hB : B < 9223372036854775808) (hK : 4611686018427387904 ≤ K) : s_l06List K (((n : Int), (B : Int), ()), ()) = some ((relL B n).map fun (a : Nat) => (a : Int)) := by
  have hp := pw4 hn
  simp only [s_l06List]
  exact s_list_l (K := K) n B hn hB (fun z => some z) (2 ^ n) 0 K (by omega) (by omega)
theorem s_l06Keeps_eq {n B fb a : Nat} (hn : n ≤ 4) (ha : a ≤ 4) (hf : fb < 65536) (hB : B < 9223372036854775808) (hK : 4611686018427387904 ≤ K) : s_l06Keeps K (((a : Int), (fb : Int), ()), ((n : Int), (B : Int), ()), ()) = some (keepV fb n B (relL B n) a []) := by
  have hm := madeV_lt (fb := fb) hn (relL B n) a []
  have := s_made_eq (K := K) (B := B) (fb := fb) hn ha hf hB hK a K [] (by simp) (by omega) (by simp)
  simp only [List.map_nil] at this
  simp only [s_l06Keeps, s_l06List_eq hn hB hK, some_bind', this]
  congr 1
  rw [Bool.eq_iff_iff, decide_eq_true_eq, keep_made, bitI_andNot0 (by omega) hB]
/-! the program -/
def rowsV (ch : List Nat) (n : Nat) : List Int := (List.range n).map fun i => ((rowV ch ch.length i : Nat) : Int)
theorem getD_mr {α : Type} (f : Nat → α) {n i : Nat} (h : i < n) (d : α) : ((List.range n).map f).getD i d = f i := by
  simp [List.getD, List.getElem?_map, List.getElem?_range h]
theorem rowV_lt {ch : List Nat} (hl : ch.length ≤ 4) (i : Nat) : rowV ch ch.length i < 16 := Nat.lt_of_lt_of_le (mkB_lt _ _) (pw4 hl)
theorem rowV_snoc (ch : List Nat) (t i : Nat) : rowV (ch ++ [t]) (ch ++ [t]).length i = rowV ch ch.length i + dg (t.testBit i) ch.length := by
  rw [snoc_len, rowV, mkB_succ]
  congr 1
  · exact mkB_congr fun j hj => by simp [List.getD, List.getElem?_append_left hj]
  · simp [List.getD]
theorem i_made_l4 (ch : List Nat) (hl : ch.length ≤ 4) (n fb : Nat) (hn : n ≤ 4) (hf : fb < 65536) (fa : Int) (h : Int × Unit → Option Bool) (r : DF × Int × List Int × List Int × Int × (Int × Unit → Option Bool) × Unit → Option Bool) (kx : (Int × Unit → Option Bool) → Int → Option R) : ∀ (m i k : Nat), i + m = n → m < k →
    i_Func_made_l4 K r k (rowsV ch n) h (fa, (fb : Int), ()) ((mkB (fun i => fb.testBit (rowV ch ch.length i)) i : Nat) : Int) (n : Int) (i : Int) kx = kx h ((valV fb n ch : Nat) : Int)
  | 0, i, k + 1, e, _ => by
    obtain rfl : i = n := by omega
    simp only [i_Func_made_l4]; rw [ite_f (decide_eq_false (by omega))]; rfl
  | m + 1, i, k + 1, e, hk => by
    have ih := i_made_l4 ch hl n fb hn hf fa h r kx m (i + 1) k (by omega) (by omega)
    rw [mkB_succ] at ih
    have hr := rowV_lt hl i
    have hg : (rowsV ch n).getD ((i : Int)).toNat 0 = ((rowV ch ch.length i : Nat) : Int) := by rw [Int.toNat_natCast]; exact getD_mr _ (by omega) _
    simp only [i_Func_made_l4]
    rw [ite_t (decide_eq_true (by omega)), ite_t (bnds_n (by simp [rowsV]; omega)), hg, i_Func_at_eq _ (by omega), some_bind', ite_t (nn _), shl_bt (by omega), or_dg (mkB_lt _ _) (by omega), w64s (by omega), ih]
def mixV (ch : List Nat) (t n i : Nat) : List Int := (List.range n).map fun q => if q < i then ((rowV (ch ++ [t]) (ch ++ [t]).length q : Nat) : Int) else ((rowV ch ch.length q : Nat) : Int)
theorem mixV_0 (ch : List Nat) (t n : Nat) : mixV ch t n 0 = rowsV ch n := by simp [mixV, rowsV]
theorem mixV_n (ch : List Nat) (t n : Nat) : mixV ch t n n = rowsV (ch ++ [t]) n := by
  apply List.map_congr_left; intro q hq; rw [if_pos (List.mem_range.1 hq)]
theorem mixV_set {ch : List Nat} {t n i : Nat} (h : i < n) : (mixV ch t n i).set i ((rowV (ch ++ [t]) (ch ++ [t]).length i : Nat) : Int) = mixV ch t n (i + 1) := by
  apply List.ext_getElem
  · simp [mixV]
  · intro q h1 h2
    rw [List.getElem_set]
    simp only [mixV, List.getElem_map, List.getElem_range]
    by_cases e : i = q
    · subst e; rw [if_pos rfl, if_pos (by omega)]
    · rw [if_neg e]
      by_cases e2 : q < i
      · rw [if_pos e2, if_pos (by omega)]
      · rw [if_neg e2, if_neg (by omega)]
theorem i_made_l14 (ch : List Nat) (hl : ch.length < 4) (n t : Nat) (hn : n ≤ 4) (ht : t < 16) (r : DF × Int × List Int × List Int × Int × (Int × Unit → Option Bool) × Unit → Option Bool) (v1 : Int) (v2 v3 : List Int) (v5 : Int × Unit → Option Bool) (v6 : DF) (v41 : List Int) (v42 v43 : Int) (kx : Int → List Int → List Int → Int → (Int × Unit → Option Bool) → DF → List Int → List Int → Int → Int → Option R) : ∀ (m i k : Nat), i + m = n → m < k →
    i_Func_made_l14 K r k v1 v2 v3 (ch.length : Int) v5 v6 (t : Int) (mixV ch t n i) v41 v42 v43 (n : Int) (i : Int) kx = kx v1 v2 v3 (ch.length : Int) v5 v6 (rowsV (ch ++ [t]) n) v41 v42 v43
  | 0, i, k + 1, e, _ => by
    obtain rfl : i = n := by omega
    simp only [i_Func_made_l14]; rw [ite_f (decide_eq_false (by omega)), mixV_n]
  | m + 1, i, k + 1, e, hk => by
    have ih := i_made_l14 ch hl n t hn ht r v1 v2 v3 v5 v6 v41 v42 v43 kx m (i + 1) k (by omega) (by omega)
    have hg : (mixV ch t n i).getD ((i : Int)).toNat 0 = ((rowV ch ch.length i : Nat) : Int) := by
      rw [Int.toNat_natCast]
      have := getD_mr (fun q => if q < i then ((rowV (ch ++ [t]) (ch ++ [t]).length q : Nat) : Int) else ((rowV ch ch.length q : Nat) : Int)) (show i < n by omega) 0
      rw [if_neg (by omega)] at this; exact this
    have hb : bnds (i : Int) ((mixV ch t n i).length : Int) = true := bnds_n (by simp [mixV]; omega)
    have hr : rowV ch ch.length i < 2 ^ ch.length := mkB_lt _ _
    simp only [i_Func_made_l14]
    rw [ite_t (decide_eq_true (by omega)), ite_t hb, i_bit_eq i (by omega), some_bind', ite_t (nn _), hg, shl_bt (by omega), or_dg hr (by omega), ite_t hb, ← rowV_snoc, Int.toNat_natCast, mixV_set (by omega), w64s (by omega), ih]
theorem i_made_l10 (B n fb a : Nat) (hn : n ≤ 4) (ch : List Nat) (hl : ch.length < 4) (mm : Nat) (h : Int × Unit → Option Bool) (r : DF × Int × List Int × List Int × Int × (Int × Unit → Option Bool) × Unit → Option Bool) (hr : ∀ t ∈ relL B n, r (((a : Int), (fb : Int), ()), (n : Int), (relL B n).map (fun (a : Nat) => (a : Int)), rowsV (ch ++ [t]) n, ((ch ++ [t]).length : Int), h, ()) = some (keepV fb n B (relL B n) mm (ch ++ [t]))) (kx : Option R) (kr : Bool → Option R) : ∀ (q p : List Nat) (k : Nat), relL B n = p ++ q → 100 + q.length < k →
    i_Func_made_l10 K r k (n : Int) ((relL B n).map fun (a : Nat) => (a : Int)) (rowsV ch n) (ch.length : Int) h ((a : Int), (fb : Int), ()) ((relL B n).map fun (a : Nat) => (a : Int)) (((relL B n).map fun (a : Nat) => (a : Int)).length : Int) (p.length : Int) kx kr = if (q.all fun t => keepV fb n B (relL B n) mm (ch ++ [t])) = true then kx else kr false
  | [], p, k + 1, e, _ => by
    simp only [i_Func_made_l10]; rw [ite_f (decide_eq_false (by rw [e]; simp))]; rfl
  | t :: q, p, k + 1, e, hk => by
    have ih := i_made_l10 B n fb a hn ch hl mm h r hr kx kr q (p ++ [t]) k (by rw [e, mid_app]) (by simp at hk; omega)
    simp only [snoc_len] at ih
    have hp : p.length < (relL B n).length := by rw [e]; simp
    have hmem : t ∈ relL B n := by rw [e]; simp
    have h4 := relL_len B n
    have h5 := pw4 hn
    have ht16 : t < 16 := by have := relL_lt hmem; omega
    have ht : ((relL B n).map fun (a : Nat) => (a : Int)).getD ((p.length : Int)).toNat 0 = (t : Int) := by rw [getD_map, show (relL B n).getD p.length 0 = t from by rw [e]; exact getD_mid p q t 0]
    have h14 := fun kx => i_made_l14 (K := K) (R := R) ch hl n t hn ht16 r (n : Int) ((relL B n).map fun (a : Nat) => (a : Int)) (rowsV ch n) h ((a : Int), (fb : Int), ()) ((relL B n).map fun (a : Nat) => (a : Int)) (((relL B n).map fun (a : Nat) => (a : Int)).length : Int) (p.length : Int) kx n 0 k (by omega) (by simp at hk; omega)
    rw [mixV_0, show ((0 : Nat) : Int) = 0 from rfl] at h14
    have hrt := hr t hmem
    rw [snoc_len] at hrt
    simp only [i_Func_made_l10]
    rw [ite_t (decide_eq_true (by simp; omega)), ite_t (bnds_n (by simpa using hp)), slices_Clone_int64_eq (by simp [rowsV]; omega), some_bind', ht, h14, w64s (by omega), hrt, some_bind', w64s (by omega), ih, List.all_cons]
    cases keepV fb n B (relL B n) mm (ch ++ [t]) <;> rfl
theorem i_made_eq {B n fb a : Nat} (hn : n ≤ 4) (ha : a ≤ 4) (hf : fb < 65536) (h : Int × Unit → Option Bool) (hh : ∀ v : Nat, v < 2 ^ n → h ((v : Int), ()) = some (B.testBit v)) (hK : 4611686018427387904 ≤ K) : ∀ (m k : Nat) (ch : List Nat), ch.length + m = a → m < k →
    i_Func_made K k (((a : Int), (fb : Int), ()), (n : Int), (relL B n).map (fun (a : Nat) => (a : Int)), rowsV ch n, (ch.length : Int), h, ()) = some (keepV fb n B (relL B n) m ch)
  | 0, k + 1, ch, e, _ => by
    have := i_made_l4 (K := K) ch (by omega) n fb hn hf (a : Int) h (i_Func_made K k) (fun z2 z3 => (z2 (z3, ())).bind fun y4 => some y4) n 0 K (by omega) (by omega)
    simp only [mkB] at this
    rw [show ((0 : Nat) : Int) = 0 from rfl] at this
    rw [i_Func_made]
    simp only [i_Func_made_b]
    rw [ite_t (decide_eq_true (by simp at e; omega)), this, hh _ (valV_lt fb n ch), some_bind']; rfl
  | m + 1, k + 1, ch, e, hk => by
    have hp := pw4 hn
    have h4 := relL_len B n
    have := i_made_l10 (K := K) B n fb a hn ch (by omega) m h (i_Func_made K k) (fun t ht => i_made_eq hn ha hf h hh hK m k (ch ++ [t]) (by simp; omega) (by omega)) (some true) (fun z => some z) (relL B n) [] K rfl (by omega)
    simp only [List.length_nil] at this
    rw [show ((0 : Nat) : Int) = 0 from rfl] at this
    rw [i_Func_made]
    simp only [i_Func_made_b]
    rw [ite_f (decide_eq_false (by omega)), this, keepV]
    cases (relL B n).all fun t => keepV fb n B (relL B n) m (ch ++ [t]) <;> rfl
theorem i_keeps_eq {n B fb a : Nat} (hn : n ≤ 4) (ha : a ≤ 4) (hf : fb < 65536) (hB : B < 9223372036854775808) (hK : 4611686018427387904 ≤ K) : i_Func_keeps K (((a : Int), (fb : Int), ()), ((n : Int), (B : Int), ()), ()) = some (keepV fb n B (relL B n) a []) := by
  have := i_made_eq (K := K) (B := B) (fb := fb) hn ha hf (fun y4 => i_Relation_has K (((n : Int), (B : Int), ()), y4.1, ())) (fun v _ => i_Relation_has_eq v hB) hK a K [] (by simp) (by omega)
  simp only [List.length_nil, show rowsV [] n = List.replicate n 0 from by
    unfold rowsV
    have : (fun i => ((rowV [] 0 i : Nat) : Int)) = fun _ => 0 := rfl
    rw [List.length_nil, this, List.map_const', List.length_range]] at this
  rw [show ((0 : Nat) : Int) = 0 from rfl] at this
  simp only [i_Func_keeps, i_tuples_eq hn hB hK, some_bind', show sel B.testBit (2 ^ n) = (relL B n).map (fun (a : Nat) => (a : Int)) from rfl]
  rw [show lim = 1099511627776 from rfl, ite_t (by simp; omega), Int.toNat_natCast]
  rw [this]; rfl
end Go.Proofs.Ytieiajeggahipaa.E
namespace Go.Proofs.Ytieiajeggahipaa.E
open Go Go.Proofs Go.Proofs.Ytieiajeggahipaa
set_option maxRecDepth 100000
set_option linter.unusedVariables false
noncomputable def as_s_l01Names : Ty := .unit
noncomputable def sp_s_l01Names (F : Unit → Option (List ByteArray)) : FnSpec := ⟨as_s_l01Names, [], (.sl .str), F⟩
noncomputable def s_l01Names (K : Nat) (x : Unit) : Option (List ByteArray) :=
    let l1 := [(⟨#[122, 101, 114, 111]⟩ : ByteArray), (⟨#[111, 110, 101]⟩ : ByteArray), (⟨#[105, 100]⟩ : ByteArray), (⟨#[110, 111, 116]⟩ : ByteArray), (⟨#[97, 110, 100]⟩ : ByteArray), (⟨#[111, 114]⟩ : ByteArray), (⟨#[120, 111, 114]⟩ : ByteArray), (⟨#[110, 97, 110, 100]⟩ : ByteArray), (⟨#[110, 111, 114]⟩ : ByteArray), (⟨#[101, 113, 117, 97, 108]⟩ : ByteArray), (⟨#[105, 109, 112, 108, 121]⟩ : ByteArray), (⟨#[109, 97, 106, 111, 114, 105, 116, 121]⟩ : ByteArray), (⟨#[109, 105, 110, 111, 114, 105, 116, 121]⟩ : ByteArray), (⟨#[105, 102]⟩ : ByteArray)]
    some l1
noncomputable def rv_s_l01Names : Lv := [(0, (.r .str))]
noncomputable def sg_s_l01Names {R : Type} (K : Nat) (k : Nat) : List (Nat × SegS R) := []
noncomputable def su_s_l01Names : List (Nat × Unit) := []
noncomputable def en_s_l01Names {R : Type} (K : Nat) (k : Nat) : Env R := { L := lk [], X := lk [], S := lk (sg_s_l01Names K k), rv := rv_s_l01Names }
noncomputable def cf_s_l01Names (K : Nat) : Cfg := { ty := lk tys, fn := lk [], prot := 0, nt := Try.f141.ntmps }
theorem e_s_l01Names (K : Nat) (x : den as_s_l01Names) : s_l01Names K x = evFn (cf_s_l01Names K) as_s_l01Names [] (.sl .str) (en_s_l01Names K K) Try.f141.results.toList (bodyOf Try.f141) x := by kernel_rfl
theorem ok_s_l01Names (K : Nat) : FnOk Try.prog 141 (sp_s_l01Names (s_l01Names K)) :=
  fn_ok (cf := cf_s_l01Names K) (en := en_s_l01Names K K) (c := bodyOf Try.f141) Try.func141 (by kernel_rfl) (by kernel_rfl) tysOk (fns_ok (l := []) trivial) (by kernel_rfl) rfl (Nat.le_of_ble_eq_true (by kernel_rfl)) (by kernel_rfl) (of_decide_eq_true (by kernel_rfl)) (by decide) (fun C hP O => lpOk_of (en := en_s_l01Names K K) (S := hasK su_s_l01Names) (fun i => hasK_lk (sg_s_l01Names K K) i) _ (by rw [show partsOf (hasK su_s_l01Names) (bodyOf Try.f141) = [] from by kernel_rfl]; exact trivial)) (fun x y h => by rw [← e_s_l01Names]; exact h)
noncomputable def as_s_l01Known : Ty := .unit
noncomputable def sp_s_l01Known (F : Unit → Option (List ByteArray)) : FnSpec := ⟨as_s_l01Known, [], (.sl .str), F⟩
noncomputable def s_l01Known (K : Nat) (x : Unit) : Option (List ByteArray) :=
    let l1 := [(⟨#[48, 58, 48]⟩ : ByteArray), (⟨#[48, 58, 49]⟩ : ByteArray), (⟨#[49, 58, 48, 49]⟩ : ByteArray), (⟨#[49, 58, 49, 48]⟩ : ByteArray), (⟨#[50, 58, 48, 48, 48, 49]⟩ : ByteArray), (⟨#[50, 58, 48, 49, 49, 49]⟩ : ByteArray), (⟨#[50, 58, 48, 49, 49, 48]⟩ : ByteArray), (⟨#[50, 58, 49, 49, 49, 48]⟩ : ByteArray), (⟨#[50, 58, 49, 48, 48, 48]⟩ : ByteArray), (⟨#[50, 58, 49, 48, 48, 49]⟩ : ByteArray), (⟨#[50, 58, 49, 48, 49, 49]⟩ : ByteArray), (⟨#[51, 58, 48, 48, 48, 49, 48, 49, 49, 49]⟩ : ByteArray), (⟨#[51, 58, 48, 49, 49, 48, 49, 48, 48, 49]⟩ : ByteArray), (⟨#[51, 58, 48, 48, 48, 49, 49, 48, 49, 49]⟩ : ByteArray)]
    some l1
noncomputable def rv_s_l01Known : Lv := [(0, (.r .str))]
noncomputable def sg_s_l01Known {R : Type} (K : Nat) (k : Nat) : List (Nat × SegS R) := []
noncomputable def su_s_l01Known : List (Nat × Unit) := []
noncomputable def en_s_l01Known {R : Type} (K : Nat) (k : Nat) : Env R := { L := lk [], X := lk [], S := lk (sg_s_l01Known K k), rv := rv_s_l01Known }
noncomputable def cf_s_l01Known (K : Nat) : Cfg := { ty := lk tys, fn := lk [], prot := 0, nt := Try.f142.ntmps }
theorem e_s_l01Known (K : Nat) (x : den as_s_l01Known) : s_l01Known K x = evFn (cf_s_l01Known K) as_s_l01Known [] (.sl .str) (en_s_l01Known K K) Try.f142.results.toList (bodyOf Try.f142) x := by kernel_rfl
theorem ok_s_l01Known (K : Nat) : FnOk Try.prog 142 (sp_s_l01Known (s_l01Known K)) :=
  fn_ok (cf := cf_s_l01Known K) (en := en_s_l01Known K K) (c := bodyOf Try.f142) Try.func142 (by kernel_rfl) (by kernel_rfl) tysOk (fns_ok (l := []) trivial) (by kernel_rfl) rfl (Nat.le_of_ble_eq_true (by kernel_rfl)) (by kernel_rfl) (of_decide_eq_true (by kernel_rfl)) (by decide) (fun C hP O => lpOk_of (en := en_s_l01Known K K) (S := hasK su_s_l01Known) (fun i => hasK_lk (sg_s_l01Known K K) i) _ (by rw [show partsOf (hasK su_s_l01Known) (bodyOf Try.f142) = [] from by kernel_rfl]; exact trivial)) (fun x y h => by rw [← e_s_l01Known]; exact h)
noncomputable def as_s_l01Bits : Ty := (.pair (.sl (.int .i64)) .unit)
noncomputable def sp_s_l01Bits (F : ((List Int) × Unit) → Option Bool) : FnSpec := ⟨as_s_l01Bits, [false], .bool, F⟩
noncomputable def s_l01Bits_l2 {R : Type} (K : Nat) : Nat → (List Int) → Int → (Option R) → (Bool → Option R) → Option R
  | 0, _, _, _, _ => none
  | k + 1, v0, v3, kx0, kr =>
    (if (decide (v3 < (v0.length : Int))) = true then
    (if (bnds v3 (v0.length : Int)) = true then
    (s_l01In K ((v0.getD v3.toNat (0 : Int)), (0 : Int), (1 : Int), ())).bind fun y1 =>
    (if (!y1) = true then
    kr false
    else
    s_l01Bits_l2 K k v0 (IntKind.i64.wrap (v3 + (1 : Int))) kx0 kr)
    else
    none)
    else
    kx0)
noncomputable def s_l01Bits (K : Nat) (x : ((List Int) × Unit)) : Option Bool :=
    s_l01Bits_l2 K K x.1 (0 : Int) (some true) (fun z2 =>
    some z2)
noncomputable def lv_s_l01Bits_L2 : Lv := [(0, (.v (.sl (.int .i64)))), (3, (.v (.int .i64)))]
noncomputable def lv_s_l01Bits_X0 : Lv := []
noncomputable def rv_s_l01Bits : Lv := [(2, (.v .bool))]
noncomputable def gs_l01Bits_l2 {R : Type} (K : Nat) (k : Nat) (x : den lv_s_l01Bits_L2.ty) (kx : Nat → St → Option R) (kr : St → Option R) : Option R := s_l01Bits_l2 K k x.1 x.2.1 (kx 0 (mkSt lv_s_l01Bits_X0 ())) (fun z0 => kr (mkSt rv_s_l01Bits (z0, ())))
noncomputable def sg_s_l01Bits {R : Type} (K : Nat) (k : Nat) : List (Nat × SegS R) := []
noncomputable def su_s_l01Bits : List (Nat × Unit) := []
noncomputable def en_s_l01Bits {R : Type} (K : Nat) (k : Nat) : Env R := { L := lk [(2, mkLoop lv_s_l01Bits_L2 (gs_l01Bits_l2 K k))], X := lk [(0, lv_s_l01Bits_X0)], S := lk (sg_s_l01Bits K k), rv := rv_s_l01Bits }
noncomputable def cf_s_l01Bits (K : Nat) : Cfg := { ty := lk tys, fn := lk [(52, sp_s_l01In (s_l01In K))], prot := 0, nt := Try.f149.ntmps }
noncomputable def c_s_l01Bits_L2 : Code := nthC (partsOf (hasK su_s_l01Bits) (bodyOf Try.f149)) 0
theorem es_l01Bits_l2 {R : Type} (K : Nat) (k : Nat) (x : den lv_s_l01Bits_L2.ty) (kx : Nat → St → Option R) (kr : St → Option R) : gs_l01Bits_l2 K (k + 1) x kx kr = evC (cf_s_l01Bits K) (en_s_l01Bits K k) c_s_l01Bits_L2 (mkSt lv_s_l01Bits_L2 x) (fun s => mkLoop lv_s_l01Bits_L2 (gs_l01Bits_l2 K k) s kx kr) kx kr := by kernel_rfl
theorem ss_l01Bits_l2 {R : Type} (K : Nat) (C : Cx) (hP : C.P = Try.prog) (O : CfgOk C (cf_s_l01Bits K)) (k : Nat) : LpS C (R := R) (mkLoop lv_s_l01Bits_L2 (gs_l01Bits_l2 K k)) c_s_l01Bits_L2 :=
  loop_sound O (by rw [hP]; kernel_rfl) (fun x kx kr => rfl) (es_l01Bits_l2 K) (fun k => lpOk_of (en := en_s_l01Bits K k) (S := hasK su_s_l01Bits) (fun i => hasK_lk (sg_s_l01Bits K k) i) _ (by rw [show partsOf (hasK su_s_l01Bits) c_s_l01Bits_L2 = [] from by kernel_rfl]; exact trivial)) k
theorem e_s_l01Bits (K : Nat) (x : den as_s_l01Bits) : s_l01Bits K x = evFn (cf_s_l01Bits K) as_s_l01Bits [false] .bool (en_s_l01Bits K K) Try.f149.results.toList (bodyOf Try.f149) x := by kernel_rfl
theorem ok_s_l01Bits (K : Nat) : FnOk Try.prog 149 (sp_s_l01Bits (s_l01Bits K)) :=
  fn_ok (cf := cf_s_l01Bits K) (en := en_s_l01Bits K K) (c := bodyOf Try.f149) Try.func149 (by kernel_rfl) (by kernel_rfl) tysOk (fns_ok (l := [(52, sp_s_l01In (s_l01In K))]) ⟨ok_s_l01In K, trivial⟩) (by kernel_rfl) rfl (Nat.le_of_ble_eq_true (by kernel_rfl)) (by kernel_rfl) (of_decide_eq_true (by kernel_rfl)) (by decide) (fun C hP O => lpOk_of (en := en_s_l01Bits K K) (S := hasK su_s_l01Bits) (fun i => hasK_lk (sg_s_l01Bits K K) i) _ (by rw [show partsOf (hasK su_s_l01Bits) (bodyOf Try.f149) = [(true, c_s_l01Bits_L2)] from by kernel_rfl]; exact (lpL_loop (f := mkLoop lv_s_l01Bits_L2 (gs_l01Bits_l2 K K)) (by kernel_rfl) (ss_l01Bits_l2 K C hP O K) trivial))) (fun x y h => by rw [← e_s_l01Bits]; exact h)
noncomputable def as_s_l01Of : Ty := (.pair (.int .i64) (.pair (.sl (.int .i64)) .unit))
noncomputable def sp_s_l01Of (F : (Int × (List Int) × Unit) → Option (Int × Int × Unit)) : FnSpec := ⟨as_s_l01Of, [false, false], (.st (.pair (.int .i64) (.pair (.int .i64) .unit))), F⟩
noncomputable def s_l01Of_l3 {R : Type} (K : Nat) : Nat → Int → (List Int) → (Int × Int × Unit) → (Int × Int × Unit) → Int → ((Int × Int × Unit) → (Int × Int × Unit) → Option R) → Option R
  | 0, _, _, _, _, _, _ => none
  | k + 1, v0, v1, v4, v5, v6, kx0 =>
    (s_l01Rows K (v0, ())).bind fun y1 =>
    (if (decide (v6 < y1)) = true then
    (if (bnds v6 (v1.length : Int)) = true then
    (if (decide ((0 : Int) ≤ (IntKind.u64.wrap v6))) = true then
    let x2 := (shlI .i64 (v1.getD v6.toNat (0 : Int)) (IntKind.u64.wrap v6))
    s_l01Of_l3 K k v0 v1 v4 (v5.1, (IntKind.i64.wrap (v5.2.1 + x2)), ()) (IntKind.i64.wrap (v6 + (1 : Int))) kx0
    else
    none)
    else
    none)
    else
    kx0 v4 v5)
noncomputable def s_l01Of (K : Nat) (x : (Int × (List Int) × Unit)) : Option (Int × Int × Unit) :=
    s_l01Of_l3 K K x.1 x.2.1 ((0 : Int), (0 : Int), ()) (x.1, ((0 : Int), (0 : Int), ()).2.1, ()) (0 : Int) (fun z3 z4 =>
    some z4)
noncomputable def lv_s_l01Of_L3 : Lv := [(0, (.v (.int .i64))), (1, (.v (.sl (.int .i64)))), (4, (.bx (.v (.st (.pair (.int .i64) (.pair (.int .i64) .unit)))))), (5, (.bx (.v (.st (.pair (.int .i64) (.pair (.int .i64) .unit)))))), (6, (.v (.int .i64)))]
noncomputable def lv_s_l01Of_X0 : Lv := [(4, (.bx (.v (.st (.pair (.int .i64) (.pair (.int .i64) .unit)))))), (5, (.bx (.v (.st (.pair (.int .i64) (.pair (.int .i64) .unit))))))]
noncomputable def rv_s_l01Of : Lv := [(4, (.bx (.v (.st (.pair (.int .i64) (.pair (.int .i64) .unit))))))]
noncomputable def gs_l01Of_l3 {R : Type} (K : Nat) (k : Nat) (x : den lv_s_l01Of_L3.ty) (kx : Nat → St → Option R) (kr : St → Option R) : Option R := s_l01Of_l3 K k x.1 x.2.1 x.2.2.1 x.2.2.2.1 x.2.2.2.2.1 (fun z0 z1 => kx 0 (mkSt lv_s_l01Of_X0 (z0, z1, ())))
noncomputable def sg_s_l01Of {R : Type} (K : Nat) (k : Nat) : List (Nat × SegS R) := []
noncomputable def su_s_l01Of : List (Nat × Unit) := []
noncomputable def en_s_l01Of {R : Type} (K : Nat) (k : Nat) : Env R := { L := lk [(3, mkLoop lv_s_l01Of_L3 (gs_l01Of_l3 K k))], X := lk [(0, lv_s_l01Of_X0)], S := lk (sg_s_l01Of K k), rv := rv_s_l01Of }
noncomputable def cf_s_l01Of (K : Nat) : Cfg := { ty := lk tys, fn := lk [(75, sp_s_l01Rows (s_l01Rows K))], prot := 0, nt := Try.f150.ntmps }
noncomputable def c_s_l01Of_L3 : Code := nthC (partsOf (hasK su_s_l01Of) (bodyOf Try.f150)) 0
theorem es_l01Of_l3 {R : Type} (K : Nat) (k : Nat) (x : den lv_s_l01Of_L3.ty) (kx : Nat → St → Option R) (kr : St → Option R) : gs_l01Of_l3 K (k + 1) x kx kr = evC (cf_s_l01Of K) (en_s_l01Of K k) c_s_l01Of_L3 (mkSt lv_s_l01Of_L3 x) (fun s => mkLoop lv_s_l01Of_L3 (gs_l01Of_l3 K k) s kx kr) kx kr := by kernel_rfl
theorem ss_l01Of_l3 {R : Type} (K : Nat) (C : Cx) (hP : C.P = Try.prog) (O : CfgOk C (cf_s_l01Of K)) (k : Nat) : LpS C (R := R) (mkLoop lv_s_l01Of_L3 (gs_l01Of_l3 K k)) c_s_l01Of_L3 :=
  loop_sound O (by rw [hP]; kernel_rfl) (fun x kx kr => rfl) (es_l01Of_l3 K) (fun k => lpOk_of (en := en_s_l01Of K k) (S := hasK su_s_l01Of) (fun i => hasK_lk (sg_s_l01Of K k) i) _ (by rw [show partsOf (hasK su_s_l01Of) c_s_l01Of_L3 = [] from by kernel_rfl]; exact trivial)) k
theorem e_s_l01Of (K : Nat) (x : den as_s_l01Of) : s_l01Of K x = evFn (cf_s_l01Of K) as_s_l01Of [false, false] (.st (.pair (.int .i64) (.pair (.int .i64) .unit))) (en_s_l01Of K K) Try.f150.results.toList (bodyOf Try.f150) x := by kernel_rfl
theorem ok_s_l01Of (K : Nat) : FnOk Try.prog 150 (sp_s_l01Of (s_l01Of K)) :=
  fn_ok (cf := cf_s_l01Of K) (en := en_s_l01Of K K) (c := bodyOf Try.f150) Try.func150 (by kernel_rfl) (by kernel_rfl) tysOk (fns_ok (l := [(75, sp_s_l01Rows (s_l01Rows K))]) ⟨ok_s_l01Rows K, trivial⟩) (by kernel_rfl) rfl (Nat.le_of_ble_eq_true (by kernel_rfl)) (by kernel_rfl) (of_decide_eq_true (by kernel_rfl)) (by decide) (fun C hP O => lpOk_of (en := en_s_l01Of K K) (S := hasK su_s_l01Of) (fun i => hasK_lk (sg_s_l01Of K K) i) _ (by rw [show partsOf (hasK su_s_l01Of) (bodyOf Try.f150) = [(true, c_s_l01Of_L3)] from by kernel_rfl]; exact (lpL_loop (f := mkLoop lv_s_l01Of_L3 (gs_l01Of_l3 K K)) (by kernel_rfl) (ss_l01Of_l3 K C hP O K) trivial))) (fun x y h => by rw [← e_s_l01Of]; exact h)
noncomputable def as_s_l01Read : Ty := (.pair .str .unit)
noncomputable def sp_s_l01Read (F : (ByteArray × Unit) → Option ((Int × Int × Unit) × Bool × Unit)) : FnSpec := ⟨as_s_l01Read, [false], (.tup (.pair (.st (.pair (.int .i64) (.pair (.int .i64) .unit))) (.pair .bool .unit))), F⟩
noncomputable def s_l01Read_l7 {R : Type} (K : Nat) : Nat → ByteArray → (Int × Int × Unit) → Int → (List Int) → Int → ((Int × Int × Unit) → Int → (List Int) → Option R) → Option R
  | 0, _, _, _, _, _, _ => none
  | k + 1, v0, v2, v4, v5, v6, kx0 =>
    (if (decide (v6 < (v0.size : Int))) = true then
    (if (bnds v6 (v0.size : Int)) = true then
    let x6 := (IntKind.i64.wrap ((IntKind.i64.wrap (byteAt v0 v6)) - (48 : Int)))
    (if (decide (v5.length + ([x6]).length ≤ lim)) = true then
    let l7 := (v5 ++ [x6])
    s_l01Read_l7 K k v0 v2 v4 l7 (IntKind.i64.wrap (v6 + (1 : Int))) kx0
    else
    none)
    else
    none)
    else
    kx0 v2 v4 v5)
noncomputable def s_l01Read_j6 {R : Type} (K : Nat) (k : Nat) (v0 : ByteArray) (v2 : (Int × Int × Unit)) (v4 : Int) (v5 : (List Int)) (kn : Option R) (kr : ((Int × Int × Unit) → Bool → Option R)) : Option R :=
    s_l01Read_l7 K k v0 v2 v4 v5 (2 : Int) (fun z8 z9 z10 =>
    (s_l01Bits K (z10, ())).bind fun y11 =>
    (if (!y11) = true then
    kr ((0 : Int), (0 : Int), ()) false
    else
    (s_l01Of K (z9, z10, ())).bind fun y12 =>
    kr y12 true))
noncomputable def s_l01Read_j3 {R : Type} (K : Nat) (k : Nat) (v0 : ByteArray) (v2 : (Int × Int × Unit)) (kn : Option R) (kr : ((Int × Int × Unit) → Bool → Option R)) : Option R :=
    (if (bnds (0 : Int) (v0.size : Int)) = true then
    let x1 := (IntKind.i64.wrap ((IntKind.i64.wrap (byteAt v0 (0 : Int))) - (48 : Int)))
    let l2 := ([] : List Int)
    (s_l01In K (x1, (0 : Int), (4 : Int), ())).bind fun y3 =>
    (if (!y3) = true then
    kr ((0 : Int), (0 : Int), ()) false
    else
    (s_l01Rows K (x1, ())).bind fun y4 =>
    let x5 := (!decide ((v0.size : Int) = (IntKind.i64.wrap ((2 : Int) + y4))))
    (if x5 = true then
    kr ((0 : Int), (0 : Int), ()) false
    else
    s_l01Read_j6 K k v0 v2 x1 l2 none (fun z13 z14 =>
    kr z13 z14)))
    else
    none)
noncomputable def s_l01Read (K : Nat) (x : (ByteArray × Unit)) : Option ((Int × Int × Unit) × Bool × Unit) :=
    (if (decide ((x.1.size : Int) < (3 : Int))) = true then
    some (((0 : Int), (0 : Int), ()), false, ())
    else
    (if (bnds (1 : Int) (x.1.size : Int)) = true then
    (if (!decide ((byteAt x.1 (1 : Int)) = (58 : Int))) = true then
    some (((0 : Int), (0 : Int), ()), false, ())
    else
    s_l01Read_j3 K K x.1 ((0 : Int), (0 : Int), ()) none (fun z15 z16 =>
    some (z15, z16, ())))
    else
    none))
noncomputable def lv_s_l01Read_J3 : Lv := [(0, (.v .str)), (2, (.bx (.v (.st (.pair (.int .i64) (.pair (.int .i64) .unit))))))]
noncomputable def lv_s_l01Read_J6 : Lv := [(0, (.v .str)), (2, (.bx (.v (.st (.pair (.int .i64) (.pair (.int .i64) .unit)))))), (4, (.v (.int .i64))), (5, (.r (.int .i64)))]
noncomputable def lv_s_l01Read_L7 : Lv := [(0, (.v .str)), (2, (.bx (.v (.st (.pair (.int .i64) (.pair (.int .i64) .unit)))))), (4, (.v (.int .i64))), (5, (.r (.int .i64))), (6, (.v (.int .i64)))]
noncomputable def lv_s_l01Read_N3 : Lv := []
noncomputable def lv_s_l01Read_N6 : Lv := []
noncomputable def lv_s_l01Read_X0 : Lv := [(2, (.bx (.v (.st (.pair (.int .i64) (.pair (.int .i64) .unit)))))), (4, (.v (.int .i64))), (5, (.r (.int .i64)))]
noncomputable def rv_s_l01Read : Lv := [(2, (.bx (.v (.st (.pair (.int .i64) (.pair (.int .i64) .unit)))))), (3, (.v .bool))]
noncomputable def gs_l01Read_l7 {R : Type} (K : Nat) (k : Nat) (x : den lv_s_l01Read_L7.ty) (kx : Nat → St → Option R) (kr : St → Option R) : Option R := s_l01Read_l7 K k x.1 x.2.1 x.2.2.1 x.2.2.2.1 x.2.2.2.2.1 (fun z0 z1 z2 => kx 0 (mkSt lv_s_l01Read_X0 (z0, z1, z2, ())))
noncomputable def gs_l01Read_j6 {R : Type} (K : Nat) (k : Nat) (x : den lv_s_l01Read_J6.ty) (kn : den lv_s_l01Read_N6.ty → Option R) (kx : Nat → St → Option R) (kr : St → Option R) : Option R := s_l01Read_j6 K k x.1 x.2.1 x.2.2.1 x.2.2.2.1 (kn ()) (fun z0 z1 => kr (mkSt rv_s_l01Read (z0, z1, ())))
noncomputable def gs_l01Read_j3 {R : Type} (K : Nat) (k : Nat) (x : den lv_s_l01Read_J3.ty) (kn : den lv_s_l01Read_N3.ty → Option R) (kx : Nat → St → Option R) (kr : St → Option R) : Option R := s_l01Read_j3 K k x.1 x.2.1 (kn ()) (fun z0 z1 => kr (mkSt rv_s_l01Read (z0, z1, ())))
noncomputable def sg_s_l01Read {R : Type} (K : Nat) (k : Nat) : List (Nat × SegS R) := [(6, mkSeg lv_s_l01Read_J6 lv_s_l01Read_N6 (gs_l01Read_j6 K k)), (3, mkSeg lv_s_l01Read_J3 lv_s_l01Read_N3 (gs_l01Read_j3 K k))]
noncomputable def su_s_l01Read : List (Nat × Unit) := [(6, ()), (3, ())]
noncomputable def en_s_l01Read {R : Type} (K : Nat) (k : Nat) : Env R := { L := lk [(7, mkLoop lv_s_l01Read_L7 (gs_l01Read_l7 K k))], X := lk [(0, lv_s_l01Read_X0)], S := lk (sg_s_l01Read K k), rv := rv_s_l01Read }
noncomputable def cf_s_l01Read (K : Nat) : Cfg := { ty := lk tys, fn := lk [(52, sp_s_l01In (s_l01In K)), (75, sp_s_l01Rows (s_l01Rows K)), (149, sp_s_l01Bits (s_l01Bits K)), (150, sp_s_l01Of (s_l01Of K))], prot := 0, nt := Try.f143.ntmps }
noncomputable def c_s_l01Read_J3 : Code := nthC (partsOf (hasK su_s_l01Read) (bodyOf Try.f143)) 0
noncomputable def c_s_l01Read_J6 : Code := nthC (partsOf (hasK su_s_l01Read) c_s_l01Read_J3) 0
noncomputable def c_s_l01Read_L7 : Code := nthC (partsOf (hasK su_s_l01Read) c_s_l01Read_J6) 0
theorem es_l01Read_l7 {R : Type} (K : Nat) (k : Nat) (x : den lv_s_l01Read_L7.ty) (kx : Nat → St → Option R) (kr : St → Option R) : gs_l01Read_l7 K (k + 1) x kx kr = evC (cf_s_l01Read K) (en_s_l01Read K k) c_s_l01Read_L7 (mkSt lv_s_l01Read_L7 x) (fun s => mkLoop lv_s_l01Read_L7 (gs_l01Read_l7 K k) s kx kr) kx kr := by kernel_rfl
theorem ss_l01Read_l7 {R : Type} (K : Nat) (C : Cx) (hP : C.P = Try.prog) (O : CfgOk C (cf_s_l01Read K)) (k : Nat) : LpS C (R := R) (mkLoop lv_s_l01Read_L7 (gs_l01Read_l7 K k)) c_s_l01Read_L7 :=
  loop_sound O (by rw [hP]; kernel_rfl) (fun x kx kr => rfl) (es_l01Read_l7 K) (fun k => lpOk_of (en := en_s_l01Read K k) (S := hasK su_s_l01Read) (fun i => hasK_lk (sg_s_l01Read K k) i) _ (by rw [show partsOf (hasK su_s_l01Read) c_s_l01Read_L7 = [] from by kernel_rfl]; exact trivial)) k
theorem es_l01Read_j6 {R : Type} (K : Nat) (k : Nat) (x : den lv_s_l01Read_J6.ty) (kn : den lv_s_l01Read_N6.ty → Option R) (kx : Nat → St → Option R) (kr : St → Option R) : gs_l01Read_j6 K k x kn kx kr = evC (cf_s_l01Read K) (en_s_l01Read K k) c_s_l01Read_J6 (mkSt lv_s_l01Read_J6 x) (cutK lv_s_l01Read_N6 kn) kx kr := by kernel_rfl
theorem ss_l01Read_j6 {R : Type} (K : Nat) (C : Cx) (hP : C.P = Try.prog) (O : CfgOk C (cf_s_l01Read K)) (k : Nat) : SgS C (R := R) (mkSeg lv_s_l01Read_J6 lv_s_l01Read_N6 (gs_l01Read_j6 K k)) c_s_l01Read_J6 :=
  seg_sound O (by rw [hP]; kernel_rfl) (es_l01Read_j6 K k) (lpOk_of (en := en_s_l01Read K k) (S := hasK su_s_l01Read) (fun i => hasK_lk (sg_s_l01Read K k) i) _ (by rw [show partsOf (hasK su_s_l01Read) c_s_l01Read_J6 = [(true, c_s_l01Read_L7)] from by kernel_rfl]; exact (lpL_loop (f := mkLoop lv_s_l01Read_L7 (gs_l01Read_l7 K k)) (by kernel_rfl) (ss_l01Read_l7 K C hP O k) trivial)))
theorem es_l01Read_j3 {R : Type} (K : Nat) (k : Nat) (x : den lv_s_l01Read_J3.ty) (kn : den lv_s_l01Read_N3.ty → Option R) (kx : Nat → St → Option R) (kr : St → Option R) : gs_l01Read_j3 K k x kn kx kr = evC (cf_s_l01Read K) (en_s_l01Read K k) c_s_l01Read_J3 (mkSt lv_s_l01Read_J3 x) (cutK lv_s_l01Read_N3 kn) kx kr := by kernel_rfl
theorem ss_l01Read_j3 {R : Type} (K : Nat) (C : Cx) (hP : C.P = Try.prog) (O : CfgOk C (cf_s_l01Read K)) (k : Nat) : SgS C (R := R) (mkSeg lv_s_l01Read_J3 lv_s_l01Read_N3 (gs_l01Read_j3 K k)) c_s_l01Read_J3 :=
  seg_sound O (by rw [hP]; kernel_rfl) (es_l01Read_j3 K k) (lpOk_of (en := en_s_l01Read K k) (S := hasK su_s_l01Read) (fun i => hasK_lk (sg_s_l01Read K k) i) _ (by rw [show partsOf (hasK su_s_l01Read) c_s_l01Read_J3 = [(false, c_s_l01Read_J6)] from by kernel_rfl]; exact (lpL_seg (f := mkSeg lv_s_l01Read_J6 lv_s_l01Read_N6 (gs_l01Read_j6 K k)) (by kernel_rfl) (ss_l01Read_j6 K C hP O k) trivial)))
theorem e_s_l01Read (K : Nat) (x : den as_s_l01Read) : s_l01Read K x = evFn (cf_s_l01Read K) as_s_l01Read [false] (.tup (.pair (.st (.pair (.int .i64) (.pair (.int .i64) .unit))) (.pair .bool .unit))) (en_s_l01Read K K) Try.f143.results.toList (bodyOf Try.f143) x := by kernel_rfl
theorem ok_s_l01Read (K : Nat) : FnOk Try.prog 143 (sp_s_l01Read (s_l01Read K)) :=
  fn_ok (cf := cf_s_l01Read K) (en := en_s_l01Read K K) (c := bodyOf Try.f143) Try.func143 (by kernel_rfl) (by kernel_rfl) tysOk (fns_ok (l := [(52, sp_s_l01In (s_l01In K)), (75, sp_s_l01Rows (s_l01Rows K)), (149, sp_s_l01Bits (s_l01Bits K)), (150, sp_s_l01Of (s_l01Of K))]) ⟨ok_s_l01In K, ⟨ok_s_l01Rows K, ⟨ok_s_l01Bits K, ⟨ok_s_l01Of K, trivial⟩⟩⟩⟩) (by kernel_rfl) rfl (Nat.le_of_ble_eq_true (by kernel_rfl)) (by kernel_rfl) (of_decide_eq_true (by kernel_rfl)) (by decide) (fun C hP O => lpOk_of (en := en_s_l01Read K K) (S := hasK su_s_l01Read) (fun i => hasK_lk (sg_s_l01Read K K) i) _ (by rw [show partsOf (hasK su_s_l01Read) (bodyOf Try.f143) = [(false, c_s_l01Read_J3)] from by kernel_rfl]; exact (lpL_seg (f := mkSeg lv_s_l01Read_J3 lv_s_l01Read_N3 (gs_l01Read_j3 K K)) (by kernel_rfl) (ss_l01Read_j3 K C hP O K) trivial))) (fun x y h => by rw [← e_s_l01Read]; exact h)
noncomputable def as_s_NamedFunc : Ty := (.pair .str .unit)
noncomputable def sp_s_NamedFunc (F : (ByteArray × Unit) → Option ((Int × Int × Unit) × Int × Unit)) : FnSpec := ⟨as_s_NamedFunc, [false], (.tup (.pair (.st (.pair (.int .i64) (.pair (.int .i64) .unit))) (.pair (.int .i64) .unit))), F⟩
noncomputable def s_NamedFunc_l3 {R : Type} (K : Nat) : Nat → ByteArray → (Int × Int × Unit) → (List ByteArray) → (List ByteArray) → Int → ((Int × Int × Unit) → Option R) → ((Int × Int × Unit) → Int → Option R) → Option R
  | 0, _, _, _, _, _, _, _ => none
  | k + 1, v0, v2, v4, v5, v6, kx0, kr =>
    (if (decide (v6 < (v4.length : Int))) = true then
    (if (bnds v6 (v4.length : Int)) = true then
    (if (cmpS .eql (v4.getD v6.toNat ByteArray.empty) v0) = true then
    (if (bnds v6 (v5.length : Int)) = true then
    (s_l01Read K ((v5.getD v6.toNat ByteArray.empty), ())).bind fun y3 =>
    kr y3.1 (0 : Int)
    else
    none)
    else
    s_NamedFunc_l3 K k v0 v2 v4 v5 (IntKind.i64.wrap (v6 + (1 : Int))) kx0 kr)
    else
    none)
    else
    kx0 v2)
noncomputable def s_NamedFunc (K : Nat) (x : (ByteArray × Unit)) : Option ((Int × Int × Unit) × Int × Unit) :=
    (s_l01Names K ()).bind fun y1 =>
    (s_l01Known K ()).bind fun y2 =>
    s_NamedFunc_l3 K K x.1 ((0 : Int), (0 : Int), ()) y1 y2 (0 : Int) (fun z4 =>
    some (((0 : Int), (0 : Int), ()), (4 : Int), ())) (fun z5 z6 =>
    some (z5, z6, ()))
noncomputable def lv_s_NamedFunc_L3 : Lv := [(0, (.v .str)), (2, (.bx (.v (.st (.pair (.int .i64) (.pair (.int .i64) .unit)))))), (4, (.r .str)), (5, (.r .str)), (6, (.v (.int .i64)))]
noncomputable def lv_s_NamedFunc_X0 : Lv := [(2, (.bx (.v (.st (.pair (.int .i64) (.pair (.int .i64) .unit))))))]
noncomputable def rv_s_NamedFunc : Lv := [(2, (.bx (.v (.st (.pair (.int .i64) (.pair (.int .i64) .unit)))))), (3, (.v (.int .i64)))]
noncomputable def gs_NamedFunc_l3 {R : Type} (K : Nat) (k : Nat) (x : den lv_s_NamedFunc_L3.ty) (kx : Nat → St → Option R) (kr : St → Option R) : Option R := s_NamedFunc_l3 K k x.1 x.2.1 x.2.2.1 x.2.2.2.1 x.2.2.2.2.1 (fun z0 => kx 0 (mkSt lv_s_NamedFunc_X0 (z0, ()))) (fun z0 z1 => kr (mkSt rv_s_NamedFunc (z0, z1, ())))
noncomputable def sg_s_NamedFunc {R : Type} (K : Nat) (k : Nat) : List (Nat × SegS R) := []
noncomputable def su_s_NamedFunc : List (Nat × Unit) := []
noncomputable def en_s_NamedFunc {R : Type} (K : Nat) (k : Nat) : Env R := { L := lk [(3, mkLoop lv_s_NamedFunc_L3 (gs_NamedFunc_l3 K k))], X := lk [(0, lv_s_NamedFunc_X0)], S := lk (sg_s_NamedFunc K k), rv := rv_s_NamedFunc }
noncomputable def cf_s_NamedFunc (K : Nat) : Cfg := { ty := lk tys, fn := lk [(141, sp_s_l01Names (s_l01Names K)), (142, sp_s_l01Known (s_l01Known K)), (143, sp_s_l01Read (s_l01Read K))], prot := 0, nt := Try.f131.ntmps }
noncomputable def c_s_NamedFunc_L3 : Code := nthC (partsOf (hasK su_s_NamedFunc) (bodyOf Try.f131)) 0
theorem es_NamedFunc_l3 {R : Type} (K : Nat) (k : Nat) (x : den lv_s_NamedFunc_L3.ty) (kx : Nat → St → Option R) (kr : St → Option R) : gs_NamedFunc_l3 K (k + 1) x kx kr = evC (cf_s_NamedFunc K) (en_s_NamedFunc K k) c_s_NamedFunc_L3 (mkSt lv_s_NamedFunc_L3 x) (fun s => mkLoop lv_s_NamedFunc_L3 (gs_NamedFunc_l3 K k) s kx kr) kx kr := by kernel_rfl
theorem ss_NamedFunc_l3 {R : Type} (K : Nat) (C : Cx) (hP : C.P = Try.prog) (O : CfgOk C (cf_s_NamedFunc K)) (k : Nat) : LpS C (R := R) (mkLoop lv_s_NamedFunc_L3 (gs_NamedFunc_l3 K k)) c_s_NamedFunc_L3 :=
  loop_sound O (by rw [hP]; kernel_rfl) (fun x kx kr => rfl) (es_NamedFunc_l3 K) (fun k => lpOk_of (en := en_s_NamedFunc K k) (S := hasK su_s_NamedFunc) (fun i => hasK_lk (sg_s_NamedFunc K k) i) _ (by rw [show partsOf (hasK su_s_NamedFunc) c_s_NamedFunc_L3 = [] from by kernel_rfl]; exact trivial)) k
theorem e_s_NamedFunc (K : Nat) (x : den as_s_NamedFunc) : s_NamedFunc K x = evFn (cf_s_NamedFunc K) as_s_NamedFunc [false] (.tup (.pair (.st (.pair (.int .i64) (.pair (.int .i64) .unit))) (.pair (.int .i64) .unit))) (en_s_NamedFunc K K) Try.f131.results.toList (bodyOf Try.f131) x := by kernel_rfl
theorem ok_s_NamedFunc (K : Nat) : FnOk Try.prog 131 (sp_s_NamedFunc (s_NamedFunc K)) :=
  fn_ok (cf := cf_s_NamedFunc K) (en := en_s_NamedFunc K K) (c := bodyOf Try.f131) Try.func131 (by kernel_rfl) (by kernel_rfl) tysOk (fns_ok (l := [(141, sp_s_l01Names (s_l01Names K)), (142, sp_s_l01Known (s_l01Known K)), (143, sp_s_l01Read (s_l01Read K))]) ⟨ok_s_l01Names K, ⟨ok_s_l01Known K, ⟨ok_s_l01Read K, trivial⟩⟩⟩) (by kernel_rfl) rfl (Nat.le_of_ble_eq_true (by kernel_rfl)) (by kernel_rfl) (of_decide_eq_true (by kernel_rfl)) (by decide) (fun C hP O => lpOk_of (en := en_s_NamedFunc K K) (S := hasK su_s_NamedFunc) (fun i => hasK_lk (sg_s_NamedFunc K K) i) _ (by rw [show partsOf (hasK su_s_NamedFunc) (bodyOf Try.f131) = [(true, c_s_NamedFunc_L3)] from by kernel_rfl]; exact (lpL_loop (f := mkLoop lv_s_NamedFunc_L3 (gs_NamedFunc_l3 K K)) (by kernel_rfl) (ss_NamedFunc_l3 K C hP O K) trivial))) (fun x y h => by rw [← e_s_NamedFunc]; exact h)
noncomputable def as_s_l09Row : Ty := (.pair (.st (.pair (.int .i64) (.pair (.int .i64) .unit))) .unit)
noncomputable def sp_s_l09Row (F : ((Int × Int × Unit) × Unit) → Option (List Int)) : FnSpec := ⟨as_s_l09Row, [false], (.sl (.int .i64)), F⟩
noncomputable def s_l09Row_l8 {R : Type} (K : Nat) : Nat → (Int × Int × Unit) → (List Int) → (List ByteArray) → Int → ((List Int) → Option R) → Option R
  | 0, _, _, _, _, _ => none
  | k + 1, v1, v3, v4, v5, kx0 =>
    (if (decide (v5 < (4 : Int))) = true then
    (if (bnds v5 (v4.length : Int)) = true then
    (s_NamedFunc K ((v4.getD v5.toNat ByteArray.empty), ())).bind fun y8 =>
    (s_l06Keeps K (y8.1, v1, ())).bind fun y9 =>
    (if y9 = true then
    (if (bnds (IntKind.i64.wrap (v5 + (2 : Int))) (v3.length : Int)) = true then
    let l10 := (v3.set (IntKind.i64.wrap (v5 + (2 : Int))).toNat (1 : Int))
    s_l09Row_l8 K k v1 l10 v4 (IntKind.i64.wrap (v5 + (1 : Int))) kx0
    else
    none)
    else
    s_l09Row_l8 K k v1 v3 v4 (IntKind.i64.wrap (v5 + (1 : Int))) kx0)
    else
    none)
    else
    kx0 v3)
noncomputable def s_l09Row_j6 {R : Type} (K : Nat) (k : Nat) (v1 : (Int × Int × Unit)) (v3 : (List Int)) (kn : Option R) (kr : ((List Int) → Option R)) : Option R :=
    let l7 := [(⟨#[97, 110, 100]⟩ : ByteArray), (⟨#[111, 114]⟩ : ByteArray), (⟨#[109, 97, 106, 111, 114, 105, 116, 121]⟩ : ByteArray), (⟨#[109, 105, 110, 111, 114, 105, 116, 121]⟩ : ByteArray)]
    s_l09Row_l8 K k v1 v3 l7 (0 : Int) (fun z11 =>
    kr z11)
noncomputable def s_l09Row_j4 {R : Type} (K : Nat) (k : Nat) (v1 : (Int × Int × Unit)) (v3 : (List Int)) (kn : Option R) (kr : ((List Int) → Option R)) : Option R :=
    (s_l01Rows K (v1.1, ())).bind fun y4 =>
    (s_l09Has K (v1, (IntKind.i64.wrap (y4 - (1 : Int))), ())).bind fun y5 =>
    (if y5 = true then
    (if (bnds (1 : Int) (v3.length : Int)) = true then
    let l6 := (v3.set (1 : Int).toNat (1 : Int))
    s_l09Row_j6 K k v1 l6 none (fun z12 =>
    kr z12)
    else
    none)
    else
    s_l09Row_j6 K k v1 v3 none (fun z13 =>
    kr z13))
noncomputable def s_l09Row (K : Nat) (x : ((Int × Int × Unit) × Unit)) : Option (List Int) :=
    (if (decide (0 ≤ (6 : Int)) && decide ((6 : Int) ≤ (lim : Int)) && decide ((6 : Int) = (6 : Int))) = true then
    let l1 := (List.replicate (6 : Int).toNat (0 : Int))
    (s_l09Has K (x.1, (0 : Int), ())).bind fun y2 =>
    (if y2 = true then
    (if (bnds (0 : Int) (l1.length : Int)) = true then
    let l3 := (l1.set (0 : Int).toNat (1 : Int))
    s_l09Row_j4 K K x.1 l3 none (fun z14 =>
    some z14)
    else
    none)
    else
    s_l09Row_j4 K K x.1 l1 none (fun z15 =>
    some z15))
    else
    none)
noncomputable def lv_s_l09Row_J4 : Lv := [(1, (.bx (.v (.st (.pair (.int .i64) (.pair (.int .i64) .unit)))))), (3, (.r (.int .i64)))]
noncomputable def lv_s_l09Row_J6 : Lv := [(1, (.bx (.v (.st (.pair (.int .i64) (.pair (.int .i64) .unit)))))), (3, (.r (.int .i64)))]
noncomputable def lv_s_l09Row_L8 : Lv := [(1, (.bx (.v (.st (.pair (.int .i64) (.pair (.int .i64) .unit)))))), (3, (.r (.int .i64))), (4, (.r .str)), (5, (.v (.int .i64)))]
noncomputable def lv_s_l09Row_N4 : Lv := []
noncomputable def lv_s_l09Row_N6 : Lv := []
noncomputable def lv_s_l09Row_X0 : Lv := [(3, (.r (.int .i64)))]
noncomputable def rv_s_l09Row : Lv := [(2, (.r (.int .i64)))]
noncomputable def gs_l09Row_l8 {R : Type} (K : Nat) (k : Nat) (x : den lv_s_l09Row_L8.ty) (kx : Nat → St → Option R) (kr : St → Option R) : Option R := s_l09Row_l8 K k x.1 x.2.1 x.2.2.1 x.2.2.2.1 (fun z0 => kx 0 (mkSt lv_s_l09Row_X0 (z0, ())))
noncomputable def gs_l09Row_j6 {R : Type} (K : Nat) (k : Nat) (x : den lv_s_l09Row_J6.ty) (kn : den lv_s_l09Row_N6.ty → Option R) (kx : Nat → St → Option R) (kr : St → Option R) : Option R := s_l09Row_j6 K k x.1 x.2.1 (kn ()) (fun z0 => kr (mkSt rv_s_l09Row (z0, ())))
noncomputable def gs_l09Row_j4 {R : Type} (K : Nat) (k : Nat) (x : den lv_s_l09Row_J4.ty) (kn : den lv_s_l09Row_N4.ty → Option R) (kx : Nat → St → Option R) (kr : St → Option R) : Option R := s_l09Row_j4 K k x.1 x.2.1 (kn ()) (fun z0 => kr (mkSt rv_s_l09Row (z0, ())))
noncomputable def sg_s_l09Row {R : Type} (K : Nat) (k : Nat) : List (Nat × SegS R) := [(6, mkSeg lv_s_l09Row_J6 lv_s_l09Row_N6 (gs_l09Row_j6 K k)), (4, mkSeg lv_s_l09Row_J4 lv_s_l09Row_N4 (gs_l09Row_j4 K k))]
noncomputable def su_s_l09Row : List (Nat × Unit) := [(6, ()), (4, ())]
noncomputable def en_s_l09Row {R : Type} (K : Nat) (k : Nat) : Env R := { L := lk [(8, mkLoop lv_s_l09Row_L8 (gs_l09Row_l8 K k))], X := lk [(0, lv_s_l09Row_X0)], S := lk (sg_s_l09Row K k), rv := rv_s_l09Row }
noncomputable def cf_s_l09Row (K : Nat) : Cfg := { ty := lk tys, fn := lk [(75, sp_s_l01Rows (s_l01Rows K)), (76, sp_s_l09Has (s_l09Has K)), (131, sp_s_NamedFunc (s_NamedFunc K)), (132, sp_s_l06Keeps (s_l06Keeps K))], prot := 0, nt := Try.f107.ntmps }
noncomputable def c_s_l09Row_J4 : Code := nthC (partsOf (hasK su_s_l09Row) (bodyOf Try.f107)) 0
noncomputable def c_s_l09Row_J6 : Code := nthC (partsOf (hasK su_s_l09Row) c_s_l09Row_J4) 0
noncomputable def c_s_l09Row_L8 : Code := nthC (partsOf (hasK su_s_l09Row) c_s_l09Row_J6) 0
theorem es_l09Row_l8 {R : Type} (K : Nat) (k : Nat) (x : den lv_s_l09Row_L8.ty) (kx : Nat → St → Option R) (kr : St → Option R) : gs_l09Row_l8 K (k + 1) x kx kr = evC (cf_s_l09Row K) (en_s_l09Row K k) c_s_l09Row_L8 (mkSt lv_s_l09Row_L8 x) (fun s => mkLoop lv_s_l09Row_L8 (gs_l09Row_l8 K k) s kx kr) kx kr := by kernel_rfl
theorem ss_l09Row_l8 {R : Type} (K : Nat) (C : Cx) (hP : C.P = Try.prog) (O : CfgOk C (cf_s_l09Row K)) (k : Nat) : LpS C (R := R) (mkLoop lv_s_l09Row_L8 (gs_l09Row_l8 K k)) c_s_l09Row_L8 :=
  loop_sound O (by rw [hP]; kernel_rfl) (fun x kx kr => rfl) (es_l09Row_l8 K) (fun k => lpOk_of (en := en_s_l09Row K k) (S := hasK su_s_l09Row) (fun i => hasK_lk (sg_s_l09Row K k) i) _ (by rw [show partsOf (hasK su_s_l09Row) c_s_l09Row_L8 = [] from by kernel_rfl]; exact trivial)) k
theorem es_l09Row_j6 {R : Type} (K : Nat) (k : Nat) (x : den lv_s_l09Row_J6.ty) (kn : den lv_s_l09Row_N6.ty → Option R) (kx : Nat → St → Option R) (kr : St → Option R) : gs_l09Row_j6 K k x kn kx kr = evC (cf_s_l09Row K) (en_s_l09Row K k) c_s_l09Row_J6 (mkSt lv_s_l09Row_J6 x) (cutK lv_s_l09Row_N6 kn) kx kr := by kernel_rfl
theorem ss_l09Row_j6 {R : Type} (K : Nat) (C : Cx) (hP : C.P = Try.prog) (O : CfgOk C (cf_s_l09Row K)) (k : Nat) : SgS C (R := R) (mkSeg lv_s_l09Row_J6 lv_s_l09Row_N6 (gs_l09Row_j6 K k)) c_s_l09Row_J6 :=
  seg_sound O (by rw [hP]; kernel_rfl) (es_l09Row_j6 K k) (lpOk_of (en := en_s_l09Row K k) (S := hasK su_s_l09Row) (fun i => hasK_lk (sg_s_l09Row K k) i) _ (by rw [show partsOf (hasK su_s_l09Row) c_s_l09Row_J6 = [(true, c_s_l09Row_L8)] from by kernel_rfl]; exact (lpL_loop (f := mkLoop lv_s_l09Row_L8 (gs_l09Row_l8 K k)) (by kernel_rfl) (ss_l09Row_l8 K C hP O k) trivial)))
theorem es_l09Row_j4 {R : Type} (K : Nat) (k : Nat) (x : den lv_s_l09Row_J4.ty) (kn : den lv_s_l09Row_N4.ty → Option R) (kx : Nat → St → Option R) (kr : St → Option R) : gs_l09Row_j4 K k x kn kx kr = evC (cf_s_l09Row K) (en_s_l09Row K k) c_s_l09Row_J4 (mkSt lv_s_l09Row_J4 x) (cutK lv_s_l09Row_N4 kn) kx kr := by kernel_rfl
theorem ss_l09Row_j4 {R : Type} (K : Nat) (C : Cx) (hP : C.P = Try.prog) (O : CfgOk C (cf_s_l09Row K)) (k : Nat) : SgS C (R := R) (mkSeg lv_s_l09Row_J4 lv_s_l09Row_N4 (gs_l09Row_j4 K k)) c_s_l09Row_J4 :=
  seg_sound O (by rw [hP]; kernel_rfl) (es_l09Row_j4 K k) (lpOk_of (en := en_s_l09Row K k) (S := hasK su_s_l09Row) (fun i => hasK_lk (sg_s_l09Row K k) i) _ (by rw [show partsOf (hasK su_s_l09Row) c_s_l09Row_J4 = [(false, c_s_l09Row_J6)] from by kernel_rfl]; exact (lpL_seg (f := mkSeg lv_s_l09Row_J6 lv_s_l09Row_N6 (gs_l09Row_j6 K k)) (by kernel_rfl) (ss_l09Row_j6 K C hP O k) trivial)))
theorem e_s_l09Row (K : Nat) (x : den as_s_l09Row) : s_l09Row K x = evFn (cf_s_l09Row K) as_s_l09Row [false] (.sl (.int .i64)) (en_s_l09Row K K) Try.f107.results.toList (bodyOf Try.f107) x := by kernel_rfl
theorem ok_s_l09Row (K : Nat) : FnOk Try.prog 107 (sp_s_l09Row (s_l09Row K)) :=
  fn_ok (cf := cf_s_l09Row K) (en := en_s_l09Row K K) (c := bodyOf Try.f107) Try.func107 (by kernel_rfl) (by kernel_rfl) tysOk (fns_ok (l := [(75, sp_s_l01Rows (s_l01Rows K)), (76, sp_s_l09Has (s_l09Has K)), (131, sp_s_NamedFunc (s_NamedFunc K)), (132, sp_s_l06Keeps (s_l06Keeps K))]) ⟨ok_s_l01Rows K, ⟨ok_s_l09Has K, ⟨ok_s_NamedFunc K, ⟨ok_s_l06Keeps K, trivial⟩⟩⟩⟩) (by kernel_rfl) rfl (Nat.le_of_ble_eq_true (by kernel_rfl)) (by kernel_rfl) (of_decide_eq_true (by kernel_rfl)) (by decide) (fun C hP O => lpOk_of (en := en_s_l09Row K K) (S := hasK su_s_l09Row) (fun i => hasK_lk (sg_s_l09Row K K) i) _ (by rw [show partsOf (hasK su_s_l09Row) (bodyOf Try.f107) = [(false, c_s_l09Row_J4)] from by kernel_rfl]; exact (lpL_seg (f := mkSeg lv_s_l09Row_J4 lv_s_l09Row_N4 (gs_l09Row_j4 K K)) (by kernel_rfl) (ss_l09Row_j4 K C hP O K) trivial))) (fun x y h => by rw [← e_s_l09Row]; exact h)
noncomputable def as_s_EasyRow : Ty := (.pair (.st (.pair (.int .i64) (.pair (.int .i64) .unit))) .unit)
noncomputable def sp_s_EasyRow (F : ((Int × Int × Unit) × Unit) → Option ((List Int) × Int × Unit)) : FnSpec := ⟨as_s_EasyRow, [false], (.tup (.pair (.sl (.int .i64)) (.pair (.int .i64) .unit))), F⟩
noncomputable def s_EasyRow (K : Nat) (x : ((Int × Int × Unit) × Unit)) : Option ((List Int) × Int × Unit) :=
    (s_l06Is K (x.1, ())).bind fun y1 =>
    (if (!y1) = true then
    some (([] : List Int), (1 : Int), ())
    else
    (s_l09Row K (x.1, ())).bind fun y2 =>
    some (y2, (0 : Int), ()))
noncomputable def rv_s_EasyRow : Lv := [(2, (.r (.int .i64))), (3, (.v (.int .i64)))]
noncomputable def sg_s_EasyRow {R : Type} (K : Nat) (k : Nat) : List (Nat × SegS R) := []
noncomputable def su_s_EasyRow : List (Nat × Unit) := []
noncomputable def en_s_EasyRow {R : Type} (K : Nat) (k : Nat) : Env R := { L := lk [], X := lk [], S := lk (sg_s_EasyRow K k), rv := rv_s_EasyRow }
noncomputable def cf_s_EasyRow (K : Nat) : Cfg := { ty := lk tys, fn := lk [(106, sp_s_l06Is (s_l06Is K)), (107, sp_s_l09Row (s_l09Row K))], prot := 0, nt := Try.f49.ntmps }
theorem e_s_EasyRow (K : Nat) (x : den as_s_EasyRow) : s_EasyRow K x = evFn (cf_s_EasyRow K) as_s_EasyRow [false] (.tup (.pair (.sl (.int .i64)) (.pair (.int .i64) .unit))) (en_s_EasyRow K K) Try.f49.results.toList (bodyOf Try.f49) x := by kernel_rfl
theorem ok_s_EasyRow (K : Nat) : FnOk Try.prog 49 (sp_s_EasyRow (s_EasyRow K)) :=
  fn_ok (cf := cf_s_EasyRow K) (en := en_s_EasyRow K K) (c := bodyOf Try.f49) Try.func49 (by kernel_rfl) (by kernel_rfl) tysOk (fns_ok (l := [(106, sp_s_l06Is (s_l06Is K)), (107, sp_s_l09Row (s_l09Row K))]) ⟨ok_s_l06Is K, ⟨ok_s_l09Row K, trivial⟩⟩) (by kernel_rfl) rfl (Nat.le_of_ble_eq_true (by kernel_rfl)) (by kernel_rfl) (of_decide_eq_true (by kernel_rfl)) (by decide) (fun C hP O => lpOk_of (en := en_s_EasyRow K K) (S := hasK su_s_EasyRow) (fun i => hasK_lk (sg_s_EasyRow K K) i) _ (by rw [show partsOf (hasK su_s_EasyRow) (bodyOf Try.f49) = [] from by kernel_rfl]; exact trivial)) (fun x y h => by rw [← e_s_EasyRow]; exact h)
noncomputable def as_i_names : Ty := .unit
noncomputable def sp_i_names (F : Unit → Option (List (ByteArray × ByteArray × Unit))) : FnSpec := ⟨as_i_names, [], (.sl (.st (.pair .str (.pair .str .unit)))), F⟩
noncomputable def i_names (K : Nat) (x : Unit) : Option (List (ByteArray × ByteArray × Unit)) :=
    let x1 := (((⟨#[122, 101, 114, 111]⟩ : ByteArray), (ByteArray.empty, ByteArray.empty, ()).2.1, ()).1, (⟨#[48, 58, 48]⟩ : ByteArray), ())
    let x2 := (((⟨#[111, 110, 101]⟩ : ByteArray), (ByteArray.empty, ByteArray.empty, ()).2.1, ()).1, (⟨#[48, 58, 49]⟩ : ByteArray), ())
    let x3 := (((⟨#[105, 100]⟩ : ByteArray), (ByteArray.empty, ByteArray.empty, ()).2.1, ()).1, (⟨#[49, 58, 48, 49]⟩ : ByteArray), ())
    let x4 := (((⟨#[110, 111, 116]⟩ : ByteArray), (ByteArray.empty, ByteArray.empty, ()).2.1, ()).1, (⟨#[49, 58, 49, 48]⟩ : ByteArray), ())
    let x5 := (((⟨#[97, 110, 100]⟩ : ByteArray), (ByteArray.empty, ByteArray.empty, ()).2.1, ()).1, (⟨#[50, 58, 48, 48, 48, 49]⟩ : ByteArray), ())
    let x6 := (((⟨#[111, 114]⟩ : ByteArray), (ByteArray.empty, ByteArray.empty, ()).2.1, ()).1, (⟨#[50, 58, 48, 49, 49, 49]⟩ : ByteArray), ())
    let x7 := (((⟨#[120, 111, 114]⟩ : ByteArray), (ByteArray.empty, ByteArray.empty, ()).2.1, ()).1, (⟨#[50, 58, 48, 49, 49, 48]⟩ : ByteArray), ())
    let x8 := (((⟨#[110, 97, 110, 100]⟩ : ByteArray), (ByteArray.empty, ByteArray.empty, ()).2.1, ()).1, (⟨#[50, 58, 49, 49, 49, 48]⟩ : ByteArray), ())
    let x9 := (((⟨#[110, 111, 114]⟩ : ByteArray), (ByteArray.empty, ByteArray.empty, ()).2.1, ()).1, (⟨#[50, 58, 49, 48, 48, 48]⟩ : ByteArray), ())
    let x10 := (((⟨#[101, 113, 117, 97, 108]⟩ : ByteArray), (ByteArray.empty, ByteArray.empty, ()).2.1, ()).1, (⟨#[50, 58, 49, 48, 48, 49]⟩ : ByteArray), ())
    let x11 := (((⟨#[105, 109, 112, 108, 121]⟩ : ByteArray), (ByteArray.empty, ByteArray.empty, ()).2.1, ()).1, (⟨#[50, 58, 49, 48, 49, 49]⟩ : ByteArray), ())
    let x12 := (((⟨#[109, 97, 106, 111, 114, 105, 116, 121]⟩ : ByteArray), (ByteArray.empty, ByteArray.empty, ()).2.1, ()).1, (⟨#[51, 58, 48, 48, 48, 49, 48, 49, 49, 49]⟩ : ByteArray), ())
    let x13 := (((⟨#[109, 105, 110, 111, 114, 105, 116, 121]⟩ : ByteArray), (ByteArray.empty, ByteArray.empty, ()).2.1, ()).1, (⟨#[51, 58, 48, 49, 49, 48, 49, 48, 48, 49]⟩ : ByteArray), ())
    let x14 := (((⟨#[105, 102]⟩ : ByteArray), (ByteArray.empty, ByteArray.empty, ()).2.1, ()).1, (⟨#[51, 58, 48, 48, 48, 49, 49, 48, 49, 49]⟩ : ByteArray), ())
    let l15 := [x1, x2, x3, x4, x5, x6, x7, x8, x9, x10, x11, x12, x13, x14]
    some l15
noncomputable def rv_i_names : Lv := [(0, (.r (.st (.pair .str (.pair .str .unit)))))]
noncomputable def sg_i_names {R : Type} (K : Nat) (k : Nat) : List (Nat × SegS R) := []
noncomputable def su_i_names : List (Nat × Unit) := []
noncomputable def en_i_names {R : Type} (K : Nat) (k : Nat) : Env R := { L := lk [], X := lk [], S := lk (sg_i_names K k), rv := rv_i_names }
noncomputable def cf_i_names (K : Nat) : Cfg := { ty := lk tys, fn := lk [], prot := 0, nt := Try.f119.ntmps }
theorem e_i_names (K : Nat) (x : den as_i_names) : i_names K x = evFn (cf_i_names K) as_i_names [] (.sl (.st (.pair .str (.pair .str .unit)))) (en_i_names K K) Try.f119.results.toList (bodyOf Try.f119) x := by kernel_rfl
theorem ok_i_names (K : Nat) : FnOk Try.prog 119 (sp_i_names (i_names K)) :=
  fn_ok (cf := cf_i_names K) (en := en_i_names K K) (c := bodyOf Try.f119) Try.func119 (by kernel_rfl) (by kernel_rfl) tysOk (fns_ok (l := []) trivial) (by kernel_rfl) rfl (Nat.le_of_ble_eq_true (by kernel_rfl)) (by kernel_rfl) (of_decide_eq_true (by kernel_rfl)) (by decide) (fun C hP O => lpOk_of (en := en_i_names K K) (S := hasK su_i_names) (fun i => hasK_lk (sg_i_names K K) i) _ (by rw [show partsOf (hasK su_i_names) (bodyOf Try.f119) = [] from by kernel_rfl]; exact trivial)) (fun x y h => by rw [← e_i_names]; exact h)
noncomputable def as_internal_bytealg_IndexByteString : Ty := (.pair .str (.pair (.int .u8) .unit))
noncomputable def sp_internal_bytealg_IndexByteString (F : (ByteArray × Int × Unit) → Option Int) : FnSpec := ⟨as_internal_bytealg_IndexByteString, [false, false], (.int .i64), F⟩
noncomputable def internal_bytealg_IndexByteString (K : Nat) (x : ByteArray × Int × Unit) : Option Int := some (Lib.indexByte x.1.data.toList x.2.1.toNat.toUInt8)
theorem ok_internal_bytealg_IndexByteString (K : Nat) : FnOk Try.prog 159 (sp_internal_bytealg_IndexByteString (internal_bytealg_IndexByteString K)) := indexByte_ok Try.func159 (by kernel_rfl) (by kernel_rfl) (by kernel_rfl) (by kernel_rfl)
noncomputable def as_internal_stringslite_IndexByte : Ty := (.pair .str (.pair (.int .u8) .unit))
noncomputable def sp_internal_stringslite_IndexByte (F : (ByteArray × Int × Unit) → Option Int) : FnSpec := ⟨as_internal_stringslite_IndexByte, [false, false], (.int .i64), F⟩
noncomputable def internal_stringslite_IndexByte (K : Nat) (x : (ByteArray × Int × Unit)) : Option Int :=
    (internal_bytealg_IndexByteString K (x.1, x.2.1, ())).bind fun y1 =>
    some y1
noncomputable def rv_internal_stringslite_IndexByte : Lv := [(4, (.v (.int .i64)))]
noncomputable def sg_internal_stringslite_IndexByte {R : Type} (K : Nat) (k : Nat) : List (Nat × SegS R) := []
noncomputable def su_internal_stringslite_IndexByte : List (Nat × Unit) := []
noncomputable def en_internal_stringslite_IndexByte {R : Type} (K : Nat) (k : Nat) : Env R := { L := lk [], X := lk [], S := lk (sg_internal_stringslite_IndexByte K k), rv := rv_internal_stringslite_IndexByte }
noncomputable def cf_internal_stringslite_IndexByte (K : Nat) : Cfg := { ty := lk tys, fn := lk [(159, sp_internal_bytealg_IndexByteString (internal_bytealg_IndexByteString K))], prot := 0, nt := Try.f155.ntmps }
theorem e_internal_stringslite_IndexByte (K : Nat) (x : den as_internal_stringslite_IndexByte) : internal_stringslite_IndexByte K x = evFn (cf_internal_stringslite_IndexByte K) as_internal_stringslite_IndexByte [false, false] (.int .i64) (en_internal_stringslite_IndexByte K K) Try.f155.results.toList (bodyOf Try.f155) x := by kernel_rfl
theorem ok_internal_stringslite_IndexByte (K : Nat) : FnOk Try.prog 155 (sp_internal_stringslite_IndexByte (internal_stringslite_IndexByte K)) :=
  fn_ok (cf := cf_internal_stringslite_IndexByte K) (en := en_internal_stringslite_IndexByte K K) (c := bodyOf Try.f155) Try.func155 (by kernel_rfl) (by kernel_rfl) tysOk (fns_ok (l := [(159, sp_internal_bytealg_IndexByteString (internal_bytealg_IndexByteString K))]) ⟨ok_internal_bytealg_IndexByteString K, trivial⟩) (by kernel_rfl) rfl (Nat.le_of_ble_eq_true (by kernel_rfl)) (by kernel_rfl) (of_decide_eq_true (by kernel_rfl)) (by decide) (fun C hP O => lpOk_of (en := en_internal_stringslite_IndexByte K K) (S := hasK su_internal_stringslite_IndexByte) (fun i => hasK_lk (sg_internal_stringslite_IndexByte K K) i) _ (by rw [show partsOf (hasK su_internal_stringslite_IndexByte) (bodyOf Try.f155) = [] from by kernel_rfl]; exact trivial)) (fun x y h => by rw [← e_internal_stringslite_IndexByte]; exact h)
noncomputable def as_internal_stringslite_Index : Ty := (.pair .str (.pair .str .unit))
noncomputable def sp_internal_stringslite_Index (F : (ByteArray × ByteArray × Unit) → Option Int) : FnSpec := ⟨as_internal_stringslite_Index, [false, false], (.int .i64), F⟩
noncomputable def internal_stringslite_Index (K : Nat) (x : (ByteArray × ByteArray × Unit)) : Option Int :=
    (if (decide ((x.2.1.size : Int) = (0 : Int))) = true then
    some (0 : Int)
    else
    (if (cmpS .eql x.2.1 x.1) = true then
    some (0 : Int)
    else
    (if (decide ((x.2.1.size : Int) = (1 : Int))) = true then
    (if (bnds (0 : Int) (x.2.1.size : Int)) = true then
    (internal_stringslite_IndexByte K (x.1, (byteAt x.2.1 (0 : Int)), ())).bind fun y1 =>
    some y1
    else
    none)
    else
    (if (decide ((x.2.1.size : Int) ≥ (x.1.size : Int))) = true then
    some (-1 : Int)
    else
    none))))
noncomputable def rv_internal_stringslite_Index : Lv := [(4, (.v (.int .i64)))]
noncomputable def sg_internal_stringslite_Index {R : Type} (K : Nat) (k : Nat) : List (Nat × SegS R) := []
noncomputable def su_internal_stringslite_Index : List (Nat × Unit) := []
noncomputable def en_internal_stringslite_Index {R : Type} (K : Nat) (k : Nat) : Env R := { L := lk [], X := lk [], S := lk (sg_internal_stringslite_Index K k), rv := rv_internal_stringslite_Index }
noncomputable def cf_internal_stringslite_Index (K : Nat) : Cfg := { ty := lk tys, fn := lk [(155, sp_internal_stringslite_IndexByte (internal_stringslite_IndexByte K))], prot := 0, nt := Try.f154.ntmps }
noncomputable def c_internal_stringslite_Index_L15 : Code := nthC (partsOf (hasK su_internal_stringslite_Index) (bodyOf Try.f154)) 0
theorem e_internal_stringslite_Index (K : Nat) (x : den as_internal_stringslite_Index) : internal_stringslite_Index K x = evFn (cf_internal_stringslite_Index K) as_internal_stringslite_Index [false, false] (.int .i64) (en_internal_stringslite_Index K K) Try.f154.results.toList (bodyOf Try.f154) x := by kernel_rfl
theorem ok_internal_stringslite_Index (K : Nat) : FnOk Try.prog 154 (sp_internal_stringslite_Index (internal_stringslite_Index K)) :=
  fn_ok (cf := cf_internal_stringslite_Index K) (en := en_internal_stringslite_Index K K) (c := bodyOf Try.f154) Try.func154 (by kernel_rfl) (by kernel_rfl) tysOk (fns_ok (l := [(155, sp_internal_stringslite_IndexByte (internal_stringslite_IndexByte K))]) ⟨ok_internal_stringslite_IndexByte K, trivial⟩) (by kernel_rfl) rfl (Nat.le_of_ble_eq_true (by kernel_rfl)) (by kernel_rfl) (of_decide_eq_true (by kernel_rfl)) (by decide) (fun C hP O => lpOk_of (en := en_internal_stringslite_Index K K) (S := hasK su_internal_stringslite_Index) (fun i => hasK_lk (sg_internal_stringslite_Index K K) i) _ (by rw [show partsOf (hasK su_internal_stringslite_Index) (bodyOf Try.f154) = [(true, c_internal_stringslite_Index_L15)] from by kernel_rfl]; exact (lpL_none (by kernel_rfl) trivial))) (fun x y h => by rw [← e_internal_stringslite_Index]; exact h)
noncomputable def as_internal_stringslite_Cut : Ty := (.pair .str (.pair .str .unit))
noncomputable def sp_internal_stringslite_Cut (F : (ByteArray × ByteArray × Unit) → Option (ByteArray × ByteArray × Bool × Unit)) : FnSpec := ⟨as_internal_stringslite_Cut, [false, false], (.tup (.pair .str (.pair .str (.pair .bool .unit)))), F⟩
noncomputable def internal_stringslite_Cut (K : Nat) (x : (ByteArray × ByteArray × Unit)) : Option (ByteArray × ByteArray × Bool × Unit) :=
    (internal_stringslite_Index K (x.1, x.2.1, ())).bind fun y1 =>
    (if (decide (y1 ≥ (0 : Int))) = true then
    (if (decide (0 ≤ (0 : Int)) && decide ((0 : Int) ≤ y1) && decide (y1 ≤ (x.1.size : Int))) = true then
    (if (decide (0 ≤ (IntKind.i64.wrap (y1 + (x.2.1.size : Int)))) && decide ((IntKind.i64.wrap (y1 + (x.2.1.size : Int))) ≤ (x.1.size : Int)) && decide ((x.1.size : Int) ≤ (x.1.size : Int))) = true then
    let x2 := (x.1.extract (IntKind.i64.wrap (y1 + (x.2.1.size : Int))).toNat (x.1.size : Int).toNat)
    some ((x.1.extract (0 : Int).toNat y1.toNat), x2, true, ())
    else
    none)
    else
    none)
    else
    some (x.1, (⟨#[]⟩ : ByteArray), false, ()))
noncomputable def rv_internal_stringslite_Cut : Lv := [(4, (.v .str)), (5, (.v .str)), (6, (.v .bool))]
noncomputable def sg_internal_stringslite_Cut {R : Type} (K : Nat) (k : Nat) : List (Nat × SegS R) := []
noncomputable def su_internal_stringslite_Cut : List (Nat × Unit) := []
noncomputable def en_internal_stringslite_Cut {R : Type} (K : Nat) (k : Nat) : Env R := { L := lk [], X := lk [], S := lk (sg_internal_stringslite_Cut K k), rv := rv_internal_stringslite_Cut }
noncomputable def cf_internal_stringslite_Cut (K : Nat) : Cfg := { ty := lk tys, fn := lk [(154, sp_internal_stringslite_Index (internal_stringslite_Index K))], prot := 0, nt := Try.f148.ntmps }
theorem e_internal_stringslite_Cut (K : Nat) (x : den as_internal_stringslite_Cut) : internal_stringslite_Cut K x = evFn (cf_internal_stringslite_Cut K) as_internal_stringslite_Cut [false, false] (.tup (.pair .str (.pair .str (.pair .bool .unit)))) (en_internal_stringslite_Cut K K) Try.f148.results.toList (bodyOf Try.f148) x := by kernel_rfl
theorem ok_internal_stringslite_Cut (K : Nat) : FnOk Try.prog 148 (sp_internal_stringslite_Cut (internal_stringslite_Cut K)) :=
  fn_ok (cf := cf_internal_stringslite_Cut K) (en := en_internal_stringslite_Cut K K) (c := bodyOf Try.f148) Try.func148 (by kernel_rfl) (by kernel_rfl) tysOk (fns_ok (l := [(154, sp_internal_stringslite_Index (internal_stringslite_Index K))]) ⟨ok_internal_stringslite_Index K, trivial⟩) (by kernel_rfl) rfl (Nat.le_of_ble_eq_true (by kernel_rfl)) (by kernel_rfl) (of_decide_eq_true (by kernel_rfl)) (by decide) (fun C hP O => lpOk_of (en := en_internal_stringslite_Cut K K) (S := hasK su_internal_stringslite_Cut) (fun i => hasK_lk (sg_internal_stringslite_Cut K K) i) _ (by rw [show partsOf (hasK su_internal_stringslite_Cut) (bodyOf Try.f148) = [] from by kernel_rfl]; exact trivial)) (fun x y h => by rw [← e_internal_stringslite_Cut]; exact h)
noncomputable def as_strings_Cut : Ty := (.pair .str (.pair .str .unit))
noncomputable def sp_strings_Cut (F : (ByteArray × ByteArray × Unit) → Option (ByteArray × ByteArray × Bool × Unit)) : FnSpec := ⟨as_strings_Cut, [false, false], (.tup (.pair .str (.pair .str (.pair .bool .unit)))), F⟩
noncomputable def strings_Cut (K : Nat) (x : (ByteArray × ByteArray × Unit)) : Option (ByteArray × ByteArray × Bool × Unit) :=
    (internal_stringslite_Cut K (x.1, x.2.1, ())).bind fun y1 =>
    some (y1.1, y1.2.1, y1.2.2.1, ())
noncomputable def rv_strings_Cut : Lv := [(4, (.v .str)), (5, (.v .str)), (6, (.v .bool))]
noncomputable def sg_strings_Cut {R : Type} (K : Nat) (k : Nat) : List (Nat × SegS R) := []
noncomputable def su_strings_Cut : List (Nat × Unit) := []
noncomputable def en_strings_Cut {R : Type} (K : Nat) (k : Nat) : Env R := { L := lk [], X := lk [], S := lk (sg_strings_Cut K k), rv := rv_strings_Cut }
noncomputable def cf_strings_Cut (K : Nat) : Cfg := { ty := lk tys, fn := lk [(148, sp_internal_stringslite_Cut (internal_stringslite_Cut K))], prot := 0, nt := Try.f136.ntmps }
theorem e_strings_Cut (K : Nat) (x : den as_strings_Cut) : strings_Cut K x = evFn (cf_strings_Cut K) as_strings_Cut [false, false] (.tup (.pair .str (.pair .str (.pair .bool .unit)))) (en_strings_Cut K K) Try.f136.results.toList (bodyOf Try.f136) x := by kernel_rfl
theorem ok_strings_Cut (K : Nat) : FnOk Try.prog 136 (sp_strings_Cut (strings_Cut K)) :=
  fn_ok (cf := cf_strings_Cut K) (en := en_strings_Cut K K) (c := bodyOf Try.f136) Try.func136 (by kernel_rfl) (by kernel_rfl) tysOk (fns_ok (l := [(148, sp_internal_stringslite_Cut (internal_stringslite_Cut K))]) ⟨ok_internal_stringslite_Cut K, trivial⟩) (by kernel_rfl) rfl (Nat.le_of_ble_eq_true (by kernel_rfl)) (by kernel_rfl) (of_decide_eq_true (by kernel_rfl)) (by decide) (fun C hP O => lpOk_of (en := en_strings_Cut K K) (S := hasK su_strings_Cut) (fun i => hasK_lk (sg_strings_Cut K K) i) _ (by rw [show partsOf (hasK su_strings_Cut) (bodyOf Try.f136) = [] from by kernel_rfl]; exact trivial)) (fun x y h => by rw [← e_strings_Cut]; exact h)
noncomputable def as_i_Func_text : Ty := (.pair (.st (.pair (.int .i64) (.pair (.int .i64) .unit))) .unit)
noncomputable def sp_i_Func_text (F : ((Int × Int × Unit) × Unit) → Option ByteArray) : FnSpec := ⟨as_i_Func_text, [false], .str, F⟩
noncomputable def i_Func_text_l3 {R : Type} (K : Nat) : Nat → (Int × Int × Unit) → (List Int) → Int → Int → ((List Int) → Option R) → Option R
  | 0, _, _, _, _, _ => none
  | k + 1, v1, v3, v11, v12, kx0 =>
    (if (decide (v12 < v11)) = true then
    (i_Func_at K (v1, v12, ())).bind fun y3 =>
    let l4 := [(IntKind.u8.wrap ((48 : Int) + (IntKind.u8.wrap y3)))]
    (if (decide (v3.length + l4.length ≤ lim)) = true then
    let l5 := (v3 ++ l4)
    i_Func_text_l3 K k v1 l5 v11 (IntKind.i64.wrap (v12 + (1 : Int))) kx0
    else
    none)
    else
    kx0 v3)
noncomputable def i_Func_text (K : Nat) (x : ((Int × Int × Unit) × Unit)) : Option ByteArray :=
    let l1 := [(IntKind.u8.wrap ((48 : Int) + (IntKind.u8.wrap x.1.1))), (58 : Int)]
    (i_Func_rows K (x.1, ())).bind fun y2 =>
    i_Func_text_l3 K K x.1 l1 y2 (0 : Int) (fun z6 =>
    some (bytesOf z6))
noncomputable def lv_i_Func_text_L3 : Lv := [(1, (.bx (.v (.st (.pair (.int .i64) (.pair (.int .i64) .unit)))))), (3, (.r (.int .u8))), (11, (.v (.int .i64))), (12, (.v (.int .i64)))]
noncomputable def lv_i_Func_text_X0 : Lv := [(3, (.r (.int .u8)))]
noncomputable def rv_i_Func_text : Lv := [(2, (.v .str))]
noncomputable def gi_Func_text_l3 {R : Type} (K : Nat) (k : Nat) (x : den lv_i_Func_text_L3.ty) (kx : Nat → St → Option R) (kr : St → Option R) : Option R := i_Func_text_l3 K k x.1 x.2.1 x.2.2.1 x.2.2.2.1 (fun z0 => kx 0 (mkSt lv_i_Func_text_X0 (z0, ())))
noncomputable def sg_i_Func_text {R : Type} (K : Nat) (k : Nat) : List (Nat × SegS R) := []
noncomputable def su_i_Func_text : List (Nat × Unit) := []
noncomputable def en_i_Func_text {R : Type} (K : Nat) (k : Nat) : Env R := { L := lk [(3, mkLoop lv_i_Func_text_L3 (gi_Func_text_l3 K k))], X := lk [(0, lv_i_Func_text_X0)], S := lk (sg_i_Func_text K k), rv := rv_i_Func_text }
noncomputable def cf_i_Func_text (K : Nat) : Cfg := { ty := lk tys, fn := lk [(112, sp_i_Func_at (i_Func_at K)), (113, sp_i_Func_rows (i_Func_rows K))], prot := 0, nt := Try.f138.ntmps }
noncomputable def c_i_Func_text_L3 : Code := nthC (partsOf (hasK su_i_Func_text) (bodyOf Try.f138)) 0
theorem ei_Func_text_l3 {R : Type} (K : Nat) (k : Nat) (x : den lv_i_Func_text_L3.ty) (kx : Nat → St → Option R) (kr : St → Option R) : gi_Func_text_l3 K (k + 1) x kx kr = evC (cf_i_Func_text K) (en_i_Func_text K k) c_i_Func_text_L3 (mkSt lv_i_Func_text_L3 x) (fun s => mkLoop lv_i_Func_text_L3 (gi_Func_text_l3 K k) s kx kr) kx kr := by kernel_rfl
theorem si_Func_text_l3 {R : Type} (K : Nat) (C : Cx) (hP : C.P = Try.prog) (O : CfgOk C (cf_i_Func_text K)) (k : Nat) : LpS C (R := R) (mkLoop lv_i_Func_text_L3 (gi_Func_text_l3 K k)) c_i_Func_text_L3 :=
  loop_sound O (by rw [hP]; kernel_rfl) (fun x kx kr => rfl) (ei_Func_text_l3 K) (fun k => lpOk_of (en := en_i_Func_text K k) (S := hasK su_i_Func_text) (fun i => hasK_lk (sg_i_Func_text K k) i) _ (by rw [show partsOf (hasK su_i_Func_text) c_i_Func_text_L3 = [] from by kernel_rfl]; exact trivial)) k
theorem e_i_Func_text (K : Nat) (x : den as_i_Func_text) : i_Func_text K x = evFn (cf_i_Func_text K) as_i_Func_text [false] .str (en_i_Func_text K K) Try.f138.results.toList (bodyOf Try.f138) x := by kernel_rfl
theorem ok_i_Func_text (K : Nat) : FnOk Try.prog 138 (sp_i_Func_text (i_Func_text K)) :=
  fn_ok (cf := cf_i_Func_text K) (en := en_i_Func_text K K) (c := bodyOf Try.f138) Try.func138 (by kernel_rfl) (by kernel_rfl) tysOk (fns_ok (l := [(112, sp_i_Func_at (i_Func_at K)), (113, sp_i_Func_rows (i_Func_rows K))]) ⟨ok_i_Func_at K, ⟨ok_i_Func_rows K, trivial⟩⟩) (by kernel_rfl) rfl (Nat.le_of_ble_eq_true (by kernel_rfl)) (by kernel_rfl) (of_decide_eq_true (by kernel_rfl)) (by decide) (fun C hP O => lpOk_of (en := en_i_Func_text K K) (S := hasK su_i_Func_text) (fun i => hasK_lk (sg_i_Func_text K K) i) _ (by rw [show partsOf (hasK su_i_Func_text) (bodyOf Try.f138) = [(true, c_i_Func_text_L3)] from by kernel_rfl]; exact (lpL_loop (f := mkLoop lv_i_Func_text_L3 (gi_Func_text_l3 K K)) (by kernel_rfl) (si_Func_text_l3 K C hP O K) trivial))) (fun x y h => by rw [← e_i_Func_text]; exact h)
noncomputable def as_i_readFunc : Ty := (.pair .str .unit)
noncomputable def sp_i_readFunc (F : (ByteArray × Unit) → Option ((Int × Int × Unit) × Bool × Unit)) : FnSpec := ⟨as_i_readFunc, [false], (.tup (.pair (.st (.pair (.int .i64) (.pair (.int .i64) .unit))) (.pair .bool .unit))), F⟩
noncomputable def i_readFunc_l6 {R : Type} (K : Nat) : Nat → ByteArray → (Int × Int × Unit) → ByteArray → (Int × Int × Unit) → Int → Int → (ByteArray → (Int × Int × Unit) → (Int × Int × Unit) → Option R) → Option R
  | 0, _, _, _, _, _, _, _ => none
  | k + 1, v0, v2, v5, v7, v31, v32, kx0 =>
    (if (decide (v32 < v31)) = true then
    (if (bnds v32 (v5.size : Int)) = true then
    (if (decide ((byteAt v5 v32) = (49 : Int))) = true then
    (if (decide ((0 : Int) ≤ v32)) = true then
    i_readFunc_l6 K k v0 v2 v5 (v7.1, (bitI .or .i64 v7.2.1 (shlI .i64 (1 : Int) v32)), ()) v31 (IntKind.i64.wrap (v32 + (1 : Int))) kx0
    else
    none)
    else
    i_readFunc_l6 K k v0 v2 v5 v7 v31 (IntKind.i64.wrap (v32 + (1 : Int))) kx0)
    else
    none)
    else
    kx0 v0 v2 v7)
noncomputable def i_readFunc_j4 {R : Type} (K : Nat) (k : Nat) (v0 : ByteArray) (v2 : (Int × Int × Unit)) (v4 : ByteArray) (v5 : ByteArray) (kn : Option R) (kr : ((Int × Int × Unit) → Bool → Option R)) : Option R :=
    (if (bnds (0 : Int) (v4.size : Int)) = true then
    let x3 := (IntKind.i64.wrap ((IntKind.i64.wrap (byteAt v4 (0 : Int))) - (48 : Int)))
    i_readFunc_l6 K k v0 v2 v5 (x3, ((0 : Int), (0 : Int), ()).2.1, ()) (v5.size : Int) (0 : Int) (fun z4 z5 z6 =>
    (i_IsFunc K (z6, ())).bind fun y7 =>
    (if (!y7) = true then
    kr ((0 : Int), (0 : Int), ()) false
    else
    (i_Func_text K (z6, ())).bind fun y8 =>
    (if (cmpS .neq y8 z4) = true then
    kr ((0 : Int), (0 : Int), ()) false
    else
    kr z6 true)))
    else
    none)
noncomputable def i_readFunc (K : Nat) (x : (ByteArray × Unit)) : Option ((Int × Int × Unit) × Bool × Unit) :=
    (strings_Cut K (x.1, (⟨#[58]⟩ : ByteArray), ())).bind fun y1 =>
    (if (!decide ((y1.1.size : Int) = (1 : Int))) = true then
    some (((0 : Int), (0 : Int), ()), false, ())
    else
    (i_rowsOf K ((4 : Int), ())).bind fun y2 =>
    (if (decide ((y1.2.1.size : Int) > y2)) = true then
    some (((0 : Int), (0 : Int), ()), false, ())
    else
    i_readFunc_j4 K K x.1 ((0 : Int), (0 : Int), ()) y1.1 y1.2.1 none (fun z9 z10 =>
    some (z9, z10, ()))))
noncomputable def lv_i_readFunc_J4 : Lv := [(0, (.v .str)), (2, (.bx (.v (.st (.pair (.int .i64) (.pair (.int .i64) .unit)))))), (4, (.v .str)), (5, (.v .str))]
noncomputable def lv_i_readFunc_L6 : Lv := [(0, (.v .str)), (2, (.bx (.v (.st (.pair (.int .i64) (.pair (.int .i64) .unit)))))), (5, (.v .str)), (7, (.bx (.v (.st (.pair (.int .i64) (.pair (.int .i64) .unit)))))), (31, (.v (.int .i64))), (32, (.v (.int .i64)))]
noncomputable def lv_i_readFunc_N4 : Lv := []
noncomputable def lv_i_readFunc_X0 : Lv := [(0, (.v .str)), (2, (.bx (.v (.st (.pair (.int .i64) (.pair (.int .i64) .unit)))))), (7, (.bx (.v (.st (.pair (.int .i64) (.pair (.int .i64) .unit))))))]
noncomputable def rv_i_readFunc : Lv := [(2, (.bx (.v (.st (.pair (.int .i64) (.pair (.int .i64) .unit)))))), (3, (.v .bool))]
noncomputable def gi_readFunc_l6 {R : Type} (K : Nat) (k : Nat) (x : den lv_i_readFunc_L6.ty) (kx : Nat → St → Option R) (kr : St → Option R) : Option R := i_readFunc_l6 K k x.1 x.2.1 x.2.2.1 x.2.2.2.1 x.2.2.2.2.1 x.2.2.2.2.2.1 (fun z0 z1 z2 => kx 0 (mkSt lv_i_readFunc_X0 (z0, z1, z2, ())))
noncomputable def gi_readFunc_j4 {R : Type} (K : Nat) (k : Nat) (x : den lv_i_readFunc_J4.ty) (kn : den lv_i_readFunc_N4.ty → Option R) (kx : Nat → St → Option R) (kr : St → Option R) : Option R := i_readFunc_j4 K k x.1 x.2.1 x.2.2.1 x.2.2.2.1 (kn ()) (fun z0 z1 => kr (mkSt rv_i_readFunc (z0, z1, ())))
noncomputable def sg_i_readFunc {R : Type} (K : Nat) (k : Nat) : List (Nat × SegS R) := [(4, mkSeg lv_i_readFunc_J4 lv_i_readFunc_N4 (gi_readFunc_j4 K k))]
noncomputable def su_i_readFunc : List (Nat × Unit) := [(4, ())]
noncomputable def en_i_readFunc {R : Type} (K : Nat) (k : Nat) : Env R := { L := lk [(6, mkLoop lv_i_readFunc_L6 (gi_readFunc_l6 K k))], X := lk [(0, lv_i_readFunc_X0)], S := lk (sg_i_readFunc K k), rv := rv_i_readFunc }
noncomputable def cf_i_readFunc (K : Nat) : Cfg := { ty := lk tys, fn := lk [(90, sp_i_rowsOf (i_rowsOf K)), (136, sp_strings_Cut (strings_Cut K)), (137, sp_i_IsFunc (i_IsFunc K)), (138, sp_i_Func_text (i_Func_text K))], prot := 0, nt := Try.f120.ntmps }
noncomputable def c_i_readFunc_J4 : Code := nthC (partsOf (hasK su_i_readFunc) (bodyOf Try.f120)) 0
noncomputable def c_i_readFunc_L6 : Code := nthC (partsOf (hasK su_i_readFunc) c_i_readFunc_J4) 0
theorem ei_readFunc_l6 {R : Type} (K : Nat) (k : Nat) (x : den lv_i_readFunc_L6.ty) (kx : Nat → St → Option R) (kr : St → Option R) : gi_readFunc_l6 K (k + 1) x kx kr = evC (cf_i_readFunc K) (en_i_readFunc K k) c_i_readFunc_L6 (mkSt lv_i_readFunc_L6 x) (fun s => mkLoop lv_i_readFunc_L6 (gi_readFunc_l6 K k) s kx kr) kx kr := by kernel_rfl
theorem si_readFunc_l6 {R : Type} (K : Nat) (C : Cx) (hP : C.P = Try.prog) (O : CfgOk C (cf_i_readFunc K)) (k : Nat) : LpS C (R := R) (mkLoop lv_i_readFunc_L6 (gi_readFunc_l6 K k)) c_i_readFunc_L6 :=
  loop_sound O (by rw [hP]; kernel_rfl) (fun x kx kr => rfl) (ei_readFunc_l6 K) (fun k => lpOk_of (en := en_i_readFunc K k) (S := hasK su_i_readFunc) (fun i => hasK_lk (sg_i_readFunc K k) i) _ (by rw [show partsOf (hasK su_i_readFunc) c_i_readFunc_L6 = [] from by kernel_rfl]; exact trivial)) k
theorem ei_readFunc_j4 {R : Type} (K : Nat) (k : Nat) (x : den lv_i_readFunc_J4.ty) (kn : den lv_i_readFunc_N4.ty → Option R) (kx : Nat → St → Option R) (kr : St → Option R) : gi_readFunc_j4 K k x kn kx kr = evC (cf_i_readFunc K) (en_i_readFunc K k) c_i_readFunc_J4 (mkSt lv_i_readFunc_J4 x) (cutK lv_i_readFunc_N4 kn) kx kr := by kernel_rfl
theorem si_readFunc_j4 {R : Type} (K : Nat) (C : Cx) (hP : C.P = Try.prog) (O : CfgOk C (cf_i_readFunc K)) (k : Nat) : SgS C (R := R) (mkSeg lv_i_readFunc_J4 lv_i_readFunc_N4 (gi_readFunc_j4 K k)) c_i_readFunc_J4 :=
  seg_sound O (by rw [hP]; kernel_rfl) (ei_readFunc_j4 K k) (lpOk_of (en := en_i_readFunc K k) (S := hasK su_i_readFunc) (fun i => hasK_lk (sg_i_readFunc K k) i) _ (by rw [show partsOf (hasK su_i_readFunc) c_i_readFunc_J4 = [(true, c_i_readFunc_L6)] from by kernel_rfl]; exact (lpL_loop (f := mkLoop lv_i_readFunc_L6 (gi_readFunc_l6 K k)) (by kernel_rfl) (si_readFunc_l6 K C hP O k) trivial)))
theorem e_i_readFunc (K : Nat) (x : den as_i_readFunc) : i_readFunc K x = evFn (cf_i_readFunc K) as_i_readFunc [false] (.tup (.pair (.st (.pair (.int .i64) (.pair (.int .i64) .unit))) (.pair .bool .unit))) (en_i_readFunc K K) Try.f120.results.toList (bodyOf Try.f120) x := by kernel_rfl
theorem ok_i_readFunc (K : Nat) : FnOk Try.prog 120 (sp_i_readFunc (i_readFunc K)) :=
  fn_ok (cf := cf_i_readFunc K) (en := en_i_readFunc K K) (c := bodyOf Try.f120) Try.func120 (by kernel_rfl) (by kernel_rfl) tysOk (fns_ok (l := [(90, sp_i_rowsOf (i_rowsOf K)), (136, sp_strings_Cut (strings_Cut K)), (137, sp_i_IsFunc (i_IsFunc K)), (138, sp_i_Func_text (i_Func_text K))]) ⟨ok_i_rowsOf K, ⟨ok_strings_Cut K, ⟨ok_i_IsFunc K, ⟨ok_i_Func_text K, trivial⟩⟩⟩⟩) (by kernel_rfl) rfl (Nat.le_of_ble_eq_true (by kernel_rfl)) (by kernel_rfl) (of_decide_eq_true (by kernel_rfl)) (by decide) (fun C hP O => lpOk_of (en := en_i_readFunc K K) (S := hasK su_i_readFunc) (fun i => hasK_lk (sg_i_readFunc K K) i) _ (by rw [show partsOf (hasK su_i_readFunc) (bodyOf Try.f120) = [(false, c_i_readFunc_J4)] from by kernel_rfl]; exact (lpL_seg (f := mkSeg lv_i_readFunc_J4 lv_i_readFunc_N4 (gi_readFunc_j4 K K)) (by kernel_rfl) (si_readFunc_j4 K C hP O K) trivial))) (fun x y h => by rw [← e_i_readFunc]; exact h)
noncomputable def as_i_namedFunc : Ty := (.pair .str .unit)
noncomputable def sp_i_namedFunc (F : (ByteArray × Unit) → Option ((Int × Int × Unit) × Bool × Unit)) : FnSpec := ⟨as_i_namedFunc, [false], (.tup (.pair (.st (.pair (.int .i64) (.pair (.int .i64) .unit))) (.pair .bool .unit))), F⟩
noncomputable def i_namedFunc_l2 {R : Type} (K : Nat) : Nat → ByteArray → (Int × Int × Unit) → (List (ByteArray × ByteArray × Unit)) → Int → Int → ((Int × Int × Unit) → Option R) → ((Int × Int × Unit) → Bool → Option R) → Option R
  | 0, _, _, _, _, _, _, _ => none
  | k + 1, v0, v2, v6, v7, v8, kx0, kr =>
    (if (decide (v8 < v7)) = true then
    (if (bnds v8 (v6.length : Int)) = true then
    let x2 := (cmpS .eql ((v6.getD v8.toNat (ByteArray.empty, ByteArray.empty, ())).1) v0)
    (if x2 = true then
    let x3 := (v6.getD v8.toNat (ByteArray.empty, ByteArray.empty, ())).2.1
    (i_readFunc K (x3, ())).bind fun y4 =>
    kr y4.1 y4.2.1
    else
    i_namedFunc_l2 K k v0 v2 v6 v7 (IntKind.i64.wrap (v8 + (1 : Int))) kx0 kr)
    else
    none)
    else
    kx0 v2)
noncomputable def i_namedFunc (K : Nat) (x : (ByteArray × Unit)) : Option ((Int × Int × Unit) × Bool × Unit) :=
    (i_names K ()).bind fun y1 =>
    i_namedFunc_l2 K K x.1 ((0 : Int), (0 : Int), ()) y1 (y1.length : Int) (0 : Int) (fun z5 =>
    some (((0 : Int), (0 : Int), ()), false, ())) (fun z6 z7 =>
    some (z6, z7, ()))
noncomputable def lv_i_namedFunc_L2 : Lv := [(0, (.v .str)), (2, (.bx (.v (.st (.pair (.int .i64) (.pair (.int .i64) .unit)))))), (6, (.r (.st (.pair .str (.pair .str .unit))))), (7, (.v (.int .i64))), (8, (.v (.int .i64)))]
noncomputable def lv_i_namedFunc_X0 : Lv := [(2, (.bx (.v (.st (.pair (.int .i64) (.pair (.int .i64) .unit))))))]
noncomputable def rv_i_namedFunc : Lv := [(2, (.bx (.v (.st (.pair (.int .i64) (.pair (.int .i64) .unit)))))), (3, (.v .bool))]
noncomputable def gi_namedFunc_l2 {R : Type} (K : Nat) (k : Nat) (x : den lv_i_namedFunc_L2.ty) (kx : Nat → St → Option R) (kr : St → Option R) : Option R := i_namedFunc_l2 K k x.1 x.2.1 x.2.2.1 x.2.2.2.1 x.2.2.2.2.1 (fun z0 => kx 0 (mkSt lv_i_namedFunc_X0 (z0, ()))) (fun z0 z1 => kr (mkSt rv_i_namedFunc (z0, z1, ())))
noncomputable def sg_i_namedFunc {R : Type} (K : Nat) (k : Nat) : List (Nat × SegS R) := []
noncomputable def su_i_namedFunc : List (Nat × Unit) := []
noncomputable def en_i_namedFunc {R : Type} (K : Nat) (k : Nat) : Env R := { L := lk [(2, mkLoop lv_i_namedFunc_L2 (gi_namedFunc_l2 K k))], X := lk [(0, lv_i_namedFunc_X0)], S := lk (sg_i_namedFunc K k), rv := rv_i_namedFunc }
noncomputable def cf_i_namedFunc (K : Nat) : Cfg := { ty := lk tys, fn := lk [(119, sp_i_names (i_names K)), (120, sp_i_readFunc (i_readFunc K))], prot := 0, nt := Try.f69.ntmps }
noncomputable def c_i_namedFunc_L2 : Code := nthC (partsOf (hasK su_i_namedFunc) (bodyOf Try.f69)) 0
theorem ei_namedFunc_l2 {R : Type} (K : Nat) (k : Nat) (x : den lv_i_namedFunc_L2.ty) (kx : Nat → St → Option R) (kr : St → Option R) : gi_namedFunc_l2 K (k + 1) x kx kr = evC (cf_i_namedFunc K) (en_i_namedFunc K k) c_i_namedFunc_L2 (mkSt lv_i_namedFunc_L2 x) (fun s => mkLoop lv_i_namedFunc_L2 (gi_namedFunc_l2 K k) s kx kr) kx kr := by kernel_rfl
theorem si_namedFunc_l2 {R : Type} (K : Nat) (C : Cx) (hP : C.P = Try.prog) (O : CfgOk C (cf_i_namedFunc K)) (k : Nat) : LpS C (R := R) (mkLoop lv_i_namedFunc_L2 (gi_namedFunc_l2 K k)) c_i_namedFunc_L2 :=
  loop_sound O (by rw [hP]; kernel_rfl) (fun x kx kr => rfl) (ei_namedFunc_l2 K) (fun k => lpOk_of (en := en_i_namedFunc K k) (S := hasK su_i_namedFunc) (fun i => hasK_lk (sg_i_namedFunc K k) i) _ (by rw [show partsOf (hasK su_i_namedFunc) c_i_namedFunc_L2 = [] from by kernel_rfl]; exact trivial)) k
theorem e_i_namedFunc (K : Nat) (x : den as_i_namedFunc) : i_namedFunc K x = evFn (cf_i_namedFunc K) as_i_namedFunc [false] (.tup (.pair (.st (.pair (.int .i64) (.pair (.int .i64) .unit))) (.pair .bool .unit))) (en_i_namedFunc K K) Try.f69.results.toList (bodyOf Try.f69) x := by kernel_rfl
theorem ok_i_namedFunc (K : Nat) : FnOk Try.prog 69 (sp_i_namedFunc (i_namedFunc K)) :=
  fn_ok (cf := cf_i_namedFunc K) (en := en_i_namedFunc K K) (c := bodyOf Try.f69) Try.func69 (by kernel_rfl) (by kernel_rfl) tysOk (fns_ok (l := [(119, sp_i_names (i_names K)), (120, sp_i_readFunc (i_readFunc K))]) ⟨ok_i_names K, ⟨ok_i_readFunc K, trivial⟩⟩) (by kernel_rfl) rfl (Nat.le_of_ble_eq_true (by kernel_rfl)) (by kernel_rfl) (of_decide_eq_true (by kernel_rfl)) (by decide) (fun C hP O => lpOk_of (en := en_i_namedFunc K K) (S := hasK su_i_namedFunc) (fun i => hasK_lk (sg_i_namedFunc K K) i) _ (by rw [show partsOf (hasK su_i_namedFunc) (bodyOf Try.f69) = [(true, c_i_namedFunc_L2)] from by kernel_rfl]; exact (lpL_loop (f := mkLoop lv_i_namedFunc_L2 (gi_namedFunc_l2 K K)) (by kernel_rfl) (si_namedFunc_l2 K C hP O K) trivial))) (fun x y h => by rw [← e_i_namedFunc]; exact h)
noncomputable def as_i_easyRow : Ty := (.pair (.st (.pair (.int .i64) (.pair (.int .i64) .unit))) .unit)
noncomputable def sp_i_easyRow (F : ((Int × Int × Unit) × Unit) → Option (List Int)) : FnSpec := ⟨as_i_easyRow, [false], (.sl (.int .i64)), F⟩
noncomputable def i_easyRow_l3 {R : Type} (K : Nat) : Nat → (Int × Int × Unit) → (List Int) → (List ByteArray) → Int → Int → ((List Int) → Option R) → Option R
  | 0, _, _, _, _, _, _ => none
  | k + 1, v1, v3, v19, v20, v21, kx0 =>
    (if (decide (v21 < v20)) = true then
    (if (bnds v21 (v19.length : Int)) = true then
    (i_namedFunc K ((v19.getD v21.toNat ByteArray.empty), ())).bind fun y8 =>
    (i_Func_keeps K (y8.1, v1, ())).bind fun y9 =>
    (i_one K (y9, ())).bind fun y10 =>
    (if (decide (v3.length + ([y10]).length ≤ lim)) = true then
    let l11 := (v3 ++ [y10])
    i_easyRow_l3 K k v1 l11 v19 v20 (IntKind.i64.wrap (v21 + (1 : Int))) kx0
    else
    none)
    else
    none)
    else
    kx0 v3)
noncomputable def i_easyRow (K : Nat) (x : ((Int × Int × Unit) × Unit)) : Option (List Int) :=
    (i_Relation_has K (x.1, (0 : Int), ())).bind fun y1 =>
    (i_one K (y1, ())).bind fun y2 =>
    (i_rowsOf K (x.1.1, ())).bind fun y3 =>
    (i_Relation_has K (x.1, (IntKind.i64.wrap (y3 - (1 : Int))), ())).bind fun y4 =>
    (i_one K (y4, ())).bind fun y5 =>
    let l6 := [y2, y5]
    let l7 := [(⟨#[97, 110, 100]⟩ : ByteArray), (⟨#[111, 114]⟩ : ByteArray), (⟨#[109, 97, 106, 111, 114, 105, 116, 121]⟩ : ByteArray), (⟨#[109, 105, 110, 111, 114, 105, 116, 121]⟩ : ByteArray)]
    i_easyRow_l3 K K x.1 l6 l7 (l7.length : Int) (0 : Int) (fun z12 =>
    some z12)
noncomputable def lv_i_easyRow_L3 : Lv := [(1, (.bx (.v (.st (.pair (.int .i64) (.pair (.int .i64) .unit)))))), (3, (.r (.int .i64))), (19, (.r .str)), (20, (.v (.int .i64))), (21, (.v (.int .i64)))]
noncomputable def lv_i_easyRow_X0 : Lv := [(3, (.r (.int .i64)))]
noncomputable def rv_i_easyRow : Lv := [(2, (.r (.int .i64)))]
noncomputable def gi_easyRow_l3 {R : Type} (K : Nat) (k : Nat) (x : den lv_i_easyRow_L3.ty) (kx : Nat → St → Option R) (kr : St → Option R) : Option R := i_easyRow_l3 K k x.1 x.2.1 x.2.2.1 x.2.2.2.1 x.2.2.2.2.1 (fun z0 => kx 0 (mkSt lv_i_easyRow_X0 (z0, ())))
noncomputable def sg_i_easyRow {R : Type} (K : Nat) (k : Nat) : List (Nat × SegS R) := []
noncomputable def su_i_easyRow : List (Nat × Unit) := []
noncomputable def en_i_easyRow {R : Type} (K : Nat) (k : Nat) : Env R := { L := lk [(3, mkLoop lv_i_easyRow_L3 (gi_easyRow_l3 K k))], X := lk [(0, lv_i_easyRow_X0)], S := lk (sg_i_easyRow K k), rv := rv_i_easyRow }
noncomputable def cf_i_easyRow (K : Nat) : Cfg := { ty := lk tys, fn := lk [(61, sp_i_one (i_one K)), (69, sp_i_namedFunc (i_namedFunc K)), (90, sp_i_rowsOf (i_rowsOf K)), (93, sp_i_Relation_has (i_Relation_has K)), (133, sp_i_Func_keeps (i_Func_keeps K))], prot := 0, nt := Try.f109.ntmps }
noncomputable def c_i_easyRow_L3 : Code := nthC (partsOf (hasK su_i_easyRow) (bodyOf Try.f109)) 0
theorem ei_easyRow_l3 {R : Type} (K : Nat) (k : Nat) (x : den lv_i_easyRow_L3.ty) (kx : Nat → St → Option R) (kr : St → Option R) : gi_easyRow_l3 K (k + 1) x kx kr = evC (cf_i_easyRow K) (en_i_easyRow K k) c_i_easyRow_L3 (mkSt lv_i_easyRow_L3 x) (fun s => mkLoop lv_i_easyRow_L3 (gi_easyRow_l3 K k) s kx kr) kx kr := by kernel_rfl
theorem si_easyRow_l3 {R : Type} (K : Nat) (C : Cx) (hP : C.P = Try.prog) (O : CfgOk C (cf_i_easyRow K)) (k : Nat) : LpS C (R := R) (mkLoop lv_i_easyRow_L3 (gi_easyRow_l3 K k)) c_i_easyRow_L3 :=
  loop_sound O (by rw [hP]; kernel_rfl) (fun x kx kr => rfl) (ei_easyRow_l3 K) (fun k => lpOk_of (en := en_i_easyRow K k) (S := hasK su_i_easyRow) (fun i => hasK_lk (sg_i_easyRow K k) i) _ (by rw [show partsOf (hasK su_i_easyRow) c_i_easyRow_L3 = [] from by kernel_rfl]; exact trivial)) k
theorem e_i_easyRow (K : Nat) (x : den as_i_easyRow) : i_easyRow K x = evFn (cf_i_easyRow K) as_i_easyRow [false] (.sl (.int .i64)) (en_i_easyRow K K) Try.f109.results.toList (bodyOf Try.f109) x := by kernel_rfl
theorem ok_i_easyRow (K : Nat) : FnOk Try.prog 109 (sp_i_easyRow (i_easyRow K)) :=
  fn_ok (cf := cf_i_easyRow K) (en := en_i_easyRow K K) (c := bodyOf Try.f109) Try.func109 (by kernel_rfl) (by kernel_rfl) tysOk (fns_ok (l := [(61, sp_i_one (i_one K)), (69, sp_i_namedFunc (i_namedFunc K)), (90, sp_i_rowsOf (i_rowsOf K)), (93, sp_i_Relation_has (i_Relation_has K)), (133, sp_i_Func_keeps (i_Func_keeps K))]) ⟨ok_i_one K, ⟨ok_i_namedFunc K, ⟨ok_i_rowsOf K, ⟨ok_i_Relation_has K, ⟨ok_i_Func_keeps K, trivial⟩⟩⟩⟩⟩) (by kernel_rfl) rfl (Nat.le_of_ble_eq_true (by kernel_rfl)) (by kernel_rfl) (of_decide_eq_true (by kernel_rfl)) (by decide) (fun C hP O => lpOk_of (en := en_i_easyRow K K) (S := hasK su_i_easyRow) (fun i => hasK_lk (sg_i_easyRow K K) i) _ (by rw [show partsOf (hasK su_i_easyRow) (bodyOf Try.f109) = [(true, c_i_easyRow_L3)] from by kernel_rfl]; exact (lpL_loop (f := mkLoop lv_i_easyRow_L3 (gi_easyRow_l3 K K)) (by kernel_rfl) (si_easyRow_l3 K C hP O K) trivial))) (fun x y h => by rw [← e_i_easyRow]; exact h)
noncomputable def as_i_EasyRow : Ty := (.pair (.st (.pair (.int .i64) (.pair (.int .i64) .unit))) .unit)
noncomputable def sp_i_EasyRow (F : ((Int × Int × Unit) × Unit) → Option ((List Int) × Int × Unit)) : FnSpec := ⟨as_i_EasyRow, [false], (.tup (.pair (.sl (.int .i64)) (.pair (.int .i64) .unit))), F⟩
noncomputable def i_EasyRow (K : Nat) (x : ((Int × Int × Unit) × Unit)) : Option ((List Int) × Int × Unit) :=
    (i_IsRelation K (x.1, ())).bind fun y1 =>
    (if (!y1) = true then
    some (([] : List Int), (1 : Int), ())
    else
    (i_easyRow K (x.1, ())).bind fun y2 =>
    some (y2, (0 : Int), ()))
noncomputable def rv_i_EasyRow : Lv := [(2, (.r (.int .i64))), (3, (.v (.int .i64)))]
noncomputable def sg_i_EasyRow {R : Type} (K : Nat) (k : Nat) : List (Nat × SegS R) := []
noncomputable def su_i_EasyRow : List (Nat × Unit) := []
noncomputable def en_i_EasyRow {R : Type} (K : Nat) (k : Nat) : Env R := { L := lk [], X := lk [], S := lk (sg_i_EasyRow K k), rv := rv_i_EasyRow }
noncomputable def cf_i_EasyRow (K : Nat) : Cfg := { ty := lk tys, fn := lk [(108, sp_i_IsRelation (i_IsRelation K)), (109, sp_i_easyRow (i_easyRow K))], prot := 0, nt := Try.f51.ntmps }
theorem e_i_EasyRow (K : Nat) (x : den as_i_EasyRow) : i_EasyRow K x = evFn (cf_i_EasyRow K) as_i_EasyRow [false] (.tup (.pair (.sl (.int .i64)) (.pair (.int .i64) .unit))) (en_i_EasyRow K K) Try.f51.results.toList (bodyOf Try.f51) x := by kernel_rfl
theorem ok_i_EasyRow (K : Nat) : FnOk Try.prog 51 (sp_i_EasyRow (i_EasyRow K)) :=
  fn_ok (cf := cf_i_EasyRow K) (en := en_i_EasyRow K K) (c := bodyOf Try.f51) Try.func51 (by kernel_rfl) (by kernel_rfl) tysOk (fns_ok (l := [(108, sp_i_IsRelation (i_IsRelation K)), (109, sp_i_easyRow (i_easyRow K))]) ⟨ok_i_IsRelation K, ⟨ok_i_easyRow K, trivial⟩⟩) (by kernel_rfl) rfl (Nat.le_of_ble_eq_true (by kernel_rfl)) (by kernel_rfl) (of_decide_eq_true (by kernel_rfl)) (by decide) (fun C hP O => lpOk_of (en := en_i_EasyRow K K) (S := hasK su_i_EasyRow) (fun i => hasK_lk (sg_i_EasyRow K K) i) _ (by rw [show partsOf (hasK su_i_EasyRow) (bodyOf Try.f51) = [] from by kernel_rfl]; exact trivial)) (fun x y h => by rw [← e_i_EasyRow]; exact h)
noncomputable def as_w_FnExactEasyRow : Ty := (.pair (.st (.pair (.int .i64) (.pair (.int .i64) .unit))) .unit)
noncomputable def sp_w_FnExactEasyRow (F : ((Int × Int × Unit) × Unit) → Option Bool) : FnSpec := ⟨as_w_FnExactEasyRow, [false], .bool, F⟩
noncomputable def w_FnExactEasyRow_j16 {R : Type} (K : Nat) (k : Nat) (v5 : (List Int)) (v7 : Int) (kn : Option R) (kr : (Bool → Option R)) : Option R :=
    (w_heldInt64S K (v5, (1 : Int), ())).bind fun y11 =>
    (if (decide (y11 < (0 : Int))) = true then
    kr false
    else
    (if (!decide (y11 = v7)) = true then
    kr false
    else
    kr true))
noncomputable def w_FnExactEasyRow_j5 {R : Type} (K : Nat) (k : Nat) (v1 : (Int × Int × Unit)) (v3 : (List Int)) (v4 : Int) (v5 : (List Int)) (kn : Option R) (kr : (Bool → Option R)) : Option R :=
    (w_markInt64S K (v5, (1 : Int), ())).bind fun y6 =>
    (w_heldInt64S K (y6.2.1, (1 : Int), ())).bind fun y7 =>
    (if (decide (y7 < (0 : Int))) = true then
    kr false
    else
    (if (!decide (y7 = y6.1)) = true then
    kr false
    else
    (w_toRelation K (v1, ())).bind fun y8 =>
    (i_EasyRow K (y8, ())).bind fun y9 =>
    (w_eqInt64S K (y9.1, v3, ())).bind fun y10 =>
    (if (!y10) = true then
    kr false
    else
    (if (!decide (y9.2.1 = v4)) = true then
    kr false
    else
    w_FnExactEasyRow_j16 K k y6.2.1 y6.1 none (fun z12 =>
    kr z12)))))
noncomputable def w_FnExactEasyRow (K : Nat) (x : ((Int × Int × Unit) × Unit)) : Option Bool :=
    (w_toRelation K (x.1, ())).bind fun y1 =>
    (s_EasyRow K (y1, ())).bind fun y2 =>
    (w_toRelation K (x.1, ())).bind fun y3 =>
    (i_EasyRow K (y3, ())).bind fun y4 =>
    (w_eqInt64S K (y4.1, y2.1, ())).bind fun y5 =>
    (if (!y5) = true then
    some false
    else
    (if (!decide (y4.2.1 = y2.2.1)) = true then
    some false
    else
    w_FnExactEasyRow_j5 K K x.1 y2.1 y2.2.1 y4.1 none (fun z13 =>
    some z13)))
noncomputable def lv_w_FnExactEasyRow_J5 : Lv := [(1, (.bx (.v (.st (.pair (.int .i64) (.pair (.int .i64) .unit)))))), (3, (.r (.int .i64))), (4, (.v (.int .i64))), (5, (.r (.int .i64)))]
noncomputable def lv_w_FnExactEasyRow_J16 : Lv := [(5, (.r (.int .i64))), (7, (.v (.int .i64)))]
noncomputable def lv_w_FnExactEasyRow_N5 : Lv := []
noncomputable def lv_w_FnExactEasyRow_N16 : Lv := []
noncomputable def rv_w_FnExactEasyRow : Lv := [(2, (.v .bool))]
noncomputable def gw_FnExactEasyRow_j16 {R : Type} (K : Nat) (k : Nat) (x : den lv_w_FnExactEasyRow_J16.ty) (kn : den lv_w_FnExactEasyRow_N16.ty → Option R) (kx : Nat → St → Option R) (kr : St → Option R) : Option R := w_FnExactEasyRow_j16 K k x.1 x.2.1 (kn ()) (fun z0 => kr (mkSt rv_w_FnExactEasyRow (z0, ())))
noncomputable def gw_FnExactEasyRow_j5 {R : Type} (K : Nat) (k : Nat) (x : den lv_w_FnExactEasyRow_J5.ty) (kn : den lv_w_FnExactEasyRow_N5.ty → Option R) (kx : Nat → St → Option R) (kr : St → Option R) : Option R := w_FnExactEasyRow_j5 K k x.1 x.2.1 x.2.2.1 x.2.2.2.1 (kn ()) (fun z0 => kr (mkSt rv_w_FnExactEasyRow (z0, ())))
noncomputable def sg_w_FnExactEasyRow {R : Type} (K : Nat) (k : Nat) : List (Nat × SegS R) := [(16, mkSeg lv_w_FnExactEasyRow_J16 lv_w_FnExactEasyRow_N16 (gw_FnExactEasyRow_j16 K k)), (5, mkSeg lv_w_FnExactEasyRow_J5 lv_w_FnExactEasyRow_N5 (gw_FnExactEasyRow_j5 K k))]
noncomputable def su_w_FnExactEasyRow : List (Nat × Unit) := [(16, ()), (5, ())]
noncomputable def en_w_FnExactEasyRow {R : Type} (K : Nat) (k : Nat) : Env R := { L := lk [], X := lk [], S := lk (sg_w_FnExactEasyRow K k), rv := rv_w_FnExactEasyRow }
noncomputable def cf_w_FnExactEasyRow (K : Nat) : Cfg := { ty := lk tys, fn := lk [(17, sp_w_eqInt64S (w_eqInt64S K)), (18, sp_w_markInt64S (w_markInt64S K)), (19, sp_w_heldInt64S (w_heldInt64S K)), (49, sp_s_EasyRow (s_EasyRow K)), (50, sp_w_toRelation (w_toRelation K)), (51, sp_i_EasyRow (i_EasyRow K))], prot := 0, nt := Try.f14.ntmps }
noncomputable def c_w_FnExactEasyRow_J5 : Code := nthC (partsOf (hasK su_w_FnExactEasyRow) (bodyOf Try.f14)) 0
noncomputable def c_w_FnExactEasyRow_J16 : Code := nthC (partsOf (hasK su_w_FnExactEasyRow) c_w_FnExactEasyRow_J5) 0
theorem ew_FnExactEasyRow_j16 {R : Type} (K : Nat) (k : Nat) (x : den lv_w_FnExactEasyRow_J16.ty) (kn : den lv_w_FnExactEasyRow_N16.ty → Option R) (kx : Nat → St → Option R) (kr : St → Option R) : gw_FnExactEasyRow_j16 K k x kn kx kr = evC (cf_w_FnExactEasyRow K) (en_w_FnExactEasyRow K k) c_w_FnExactEasyRow_J16 (mkSt lv_w_FnExactEasyRow_J16 x) (cutK lv_w_FnExactEasyRow_N16 kn) kx kr := by kernel_rfl
theorem sw_FnExactEasyRow_j16 {R : Type} (K : Nat) (C : Cx) (hP : C.P = Try.prog) (O : CfgOk C (cf_w_FnExactEasyRow K)) (k : Nat) : SgS C (R := R) (mkSeg lv_w_FnExactEasyRow_J16 lv_w_FnExactEasyRow_N16 (gw_FnExactEasyRow_j16 K k)) c_w_FnExactEasyRow_J16 :=
  seg_sound O (by rw [hP]; kernel_rfl) (ew_FnExactEasyRow_j16 K k) (lpOk_of (en := en_w_FnExactEasyRow K k) (S := hasK su_w_FnExactEasyRow) (fun i => hasK_lk (sg_w_FnExactEasyRow K k) i) _ (by rw [show partsOf (hasK su_w_FnExactEasyRow) c_w_FnExactEasyRow_J16 = [] from by kernel_rfl]; exact trivial))
theorem ew_FnExactEasyRow_j5 {R : Type} (K : Nat) (k : Nat) (x : den lv_w_FnExactEasyRow_J5.ty) (kn : den lv_w_FnExactEasyRow_N5.ty → Option R) (kx : Nat → St → Option R) (kr : St → Option R) : gw_FnExactEasyRow_j5 K k x kn kx kr = evC (cf_w_FnExactEasyRow K) (en_w_FnExactEasyRow K k) c_w_FnExactEasyRow_J5 (mkSt lv_w_FnExactEasyRow_J5 x) (cutK lv_w_FnExactEasyRow_N5 kn) kx kr := by kernel_rfl
theorem sw_FnExactEasyRow_j5 {R : Type} (K : Nat) (C : Cx) (hP : C.P = Try.prog) (O : CfgOk C (cf_w_FnExactEasyRow K)) (k : Nat) : SgS C (R := R) (mkSeg lv_w_FnExactEasyRow_J5 lv_w_FnExactEasyRow_N5 (gw_FnExactEasyRow_j5 K k)) c_w_FnExactEasyRow_J5 :=
  seg_sound O (by rw [hP]; kernel_rfl) (ew_FnExactEasyRow_j5 K k) (lpOk_of (en := en_w_FnExactEasyRow K k) (S := hasK su_w_FnExactEasyRow) (fun i => hasK_lk (sg_w_FnExactEasyRow K k) i) _ (by rw [show partsOf (hasK su_w_FnExactEasyRow) c_w_FnExactEasyRow_J5 = [(false, c_w_FnExactEasyRow_J16)] from by kernel_rfl]; exact (lpL_seg (f := mkSeg lv_w_FnExactEasyRow_J16 lv_w_FnExactEasyRow_N16 (gw_FnExactEasyRow_j16 K k)) (by kernel_rfl) (sw_FnExactEasyRow_j16 K C hP O k) trivial)))
theorem e_w_FnExactEasyRow (K : Nat) (x : den as_w_FnExactEasyRow) : w_FnExactEasyRow K x = evFn (cf_w_FnExactEasyRow K) as_w_FnExactEasyRow [false] .bool (en_w_FnExactEasyRow K K) Try.f14.results.toList (bodyOf Try.f14) x := by kernel_rfl
theorem ok_w_FnExactEasyRow (K : Nat) : FnOk Try.prog 14 (sp_w_FnExactEasyRow (w_FnExactEasyRow K)) :=
  fn_ok (cf := cf_w_FnExactEasyRow K) (en := en_w_FnExactEasyRow K K) (c := bodyOf Try.f14) Try.func14 (by kernel_rfl) (by kernel_rfl) tysOk (fns_ok (l := [(17, sp_w_eqInt64S (w_eqInt64S K)), (18, sp_w_markInt64S (w_markInt64S K)), (19, sp_w_heldInt64S (w_heldInt64S K)), (49, sp_s_EasyRow (s_EasyRow K)), (50, sp_w_toRelation (w_toRelation K)), (51, sp_i_EasyRow (i_EasyRow K))]) ⟨ok_w_eqInt64S K, ⟨ok_w_markInt64S K, ⟨ok_w_heldInt64S K, ⟨ok_s_EasyRow K, ⟨ok_w_toRelation K, ⟨ok_i_EasyRow K, trivial⟩⟩⟩⟩⟩⟩) (by kernel_rfl) rfl (Nat.le_of_ble_eq_true (by kernel_rfl)) (by kernel_rfl) (of_decide_eq_true (by kernel_rfl)) (by decide) (fun C hP O => lpOk_of (en := en_w_FnExactEasyRow K K) (S := hasK su_w_FnExactEasyRow) (fun i => hasK_lk (sg_w_FnExactEasyRow K K) i) _ (by rw [show partsOf (hasK su_w_FnExactEasyRow) (bodyOf Try.f14) = [(false, c_w_FnExactEasyRow_J5)] from by kernel_rfl]; exact (lpL_seg (f := mkSeg lv_w_FnExactEasyRow_J5 lv_w_FnExactEasyRow_N5 (gw_FnExactEasyRow_j5 K K)) (by kernel_rfl) (sw_FnExactEasyRow_j5 K C hP O K) trivial))) (fun x y h => by rw [← e_w_FnExactEasyRow]; exact h)
end Go.Proofs.Ytieiajeggahipaa.E
namespace Go.Proofs.Ytieiajeggahipaa.E
open Go Go.Proofs
set_option linter.unusedVariables false
set_option linter.unusedSimpArgs false
variable {K : Nat} {R : Type}
def nmAnd : ByteArray := ⟨#[97, 110, 100]⟩
def nmOr : ByteArray := ⟨#[111, 114]⟩
def nmMaj : ByteArray := ⟨#[109, 97, 106, 111, 114, 105, 116, 121]⟩
def nmMin : ByteArray := ⟨#[109, 105, 110, 111, 114, 105, 116, 121]⟩
/-- The four functions by their names, at some count of rounds. -/
def namedI (K : Nat) : Prop := i_namedFunc K (nmAnd, ()) = some ((2, 8, ()), true, ()) ∧ i_namedFunc K (nmOr, ()) = some ((2, 14, ()), true, ()) ∧ i_namedFunc K (nmMaj, ()) = some ((3, 232, ()), true, ()) ∧ i_namedFunc K (nmMin, ()) = some ((3, 150, ()), true, ())
def namedS (K : Nat) : Prop := s_NamedFunc K (nmAnd, ()) = some ((2, 8, ()), 0, ()) ∧ s_NamedFunc K (nmOr, ()) = some ((2, 14, ()), 0, ()) ∧ s_NamedFunc K (nmMaj, ()) = some ((3, 232, ()), 0, ()) ∧ s_NamedFunc K (nmMin, ()) = some ((3, 150, ()), 0, ())
theorem named_i : namedI 9223372036854775808 := ⟨by decide +kernel, by decide +kernel, by decide +kernel, by decide +kernel⟩
theorem named_s : namedS 9223372036854775808 := ⟨by decide +kernel, by decide +kernel, by decide +kernel, by decide +kernel⟩
def b1 (b : Bool) : Int := if b = true then 1 else 0
def rowE (n B : Nat) : List Int := [b1 (B.testBit 0), b1 (B.testBit (2 ^ n - 1)), b1 (keepV 8 n B (relL B n) 2 []), b1 (keepV 14 n B (relL B n) 2 []), b1 (keepV 232 n B (relL B n) 3 []), b1 (keepV 150 n B (relL B n) 3 [])]
theorem i_easyRow_eq {n B : Nat} (hn : n ≤ 4) (hB : B < 9223372036854775808) (hK : 4611686018427387904 ≤ K) (hN : namedI K) : i_easyRow K (((n : Int), (B : Int), ()), ()) = some (rowE n B) := by
  obtain ⟨n1, n2, n3, n4⟩ := hN
  have hp := pw4 hn
  have hq := pw_pos n
  have k1 := i_keeps_eq (K := K) (n := n) (B := B) (fb := 8) (a := 2) hn (by decide) (by decide) hB hK
  have k2 := i_keeps_eq (K := K) (n := n) (B := B) (fb := 14) (a := 2) hn (by decide) (by decide) hB hK
  have k3 := i_keeps_eq (K := K) (n := n) (B := B) (fb := 232) (a := 3) hn (by decide) (by decide) hB hK
  have k4 := i_keeps_eq (K := K) (n := n) (B := B) (fb := 150) (a := 3) hn (by decide) (by decide) hB hK
  have h0 := i_Relation_has_eq (K := K) (n := (n : Int)) 0 hB
  have h1 := i_Relation_has_eq (K := K) (n := (n : Int)) (2 ^ n - 1) hB
  have e1 : IntKind.i64.wrap (((2 ^ n : Nat) : Int) - 1) = ((2 ^ n - 1 : Nat) : Int) := by rw [w64 (by omega) (by omega)]; omega
  rw [show ((0 : Nat) : Int) = 0 from rfl] at h0
  obtain ⟨k, hk⟩ : ∃ k, K = k + 6 := ⟨K - 6, by omega⟩
  have l3 : ∀ b c : Int, i_easyRow_l3 K K ((n : Int), (B : Int), ()) [b, c] [nmAnd, nmOr, nmMaj, nmMin] (4 : Int) (0 : Int) (fun z12 => some z12) = some [b, c, b1 (keepV 8 n B (relL B n) 2 []), b1 (keepV 14 n B (relL B n) 2 []), b1 (keepV 232 n B (relL B n) 3 []), b1 (keepV 150 n B (relL B n) 3 [])] := fun b c => by
    rw [show i_easyRow_l3 K K = i_easyRow_l3 (R := List Int) K (k + 6) from by rw [← hk]]
    have b4 : ∀ i : Int, 0 ≤ i → i < 4 → bnds i ((([nmAnd, nmOr, nmMaj, nmMin] : List ByteArray).length : Nat) : Int) = true := fun i h h2 => bnds_t h h2
    have lm : ∀ (l : List Int) (y : Int), l.length ≤ 6 → decide (l.length + [y].length ≤ lim) = true := fun l y h => lim_len (by omega)
    have w1 : IntKind.i64.wrap ((0 : Int) + 1) = 1 := by decide
    have w2 : IntKind.i64.wrap ((1 : Int) + 1) = 2 := by decide
    have w3 : IntKind.i64.wrap ((2 : Int) + 1) = 3 := by decide
    have w4 : IntKind.i64.wrap ((3 : Int) + 1) = 4 := by decide
    have g0 : ([nmAnd, nmOr, nmMaj, nmMin] : List ByteArray).getD (0 : Int).toNat ByteArray.empty = nmAnd := rfl
    have g1 : ([nmAnd, nmOr, nmMaj, nmMin] : List ByteArray).getD (1 : Int).toNat ByteArray.empty = nmOr := rfl
    have g2 : ([nmAnd, nmOr, nmMaj, nmMin] : List ByteArray).getD (2 : Int).toNat ByteArray.empty = nmMaj := rfl
    have g3 : ([nmAnd, nmOr, nmMaj, nmMin] : List ByteArray).getD (3 : Int).toNat ByteArray.empty = nmMin := rfl
    rw [i_easyRow_l3, ite_t (by decide), ite_t (b4 _ (by decide) (by decide)), g0, n1, some_bind']
    simp only
    rw [show i_Func_keeps K ((2, 8, ()), ((n : Int), (B : Int), ()), ()) = _ from k1, some_bind', i_one_eq, some_bind', ite_t (lm _ _ (by simp)), w1]
    rw [i_easyRow_l3, ite_t (by decide), ite_t (b4 _ (by decide) (by decide)), g1, n2, some_bind']
    simp only
    rw [show i_Func_keeps K ((2, 14, ()), ((n : Int), (B : Int), ()), ()) = _ from k2, some_bind', i_one_eq, some_bind', ite_t (lm _ _ (by simp)), w2]
    rw [i_easyRow_l3, ite_t (by decide), ite_t (b4 _ (by decide) (by decide)), g2, n3, some_bind']
    simp only
    rw [show i_Func_keeps K ((3, 232, ()), ((n : Int), (B : Int), ()), ()) = _ from k3, some_bind', i_one_eq, some_bind', ite_t (lm _ _ (by simp)), w3]
    rw [i_easyRow_l3, ite_t (by decide), ite_t (b4 _ (by decide) (by decide)), g3, n4, some_bind']
    simp only
    rw [show i_Func_keeps K ((3, 150, ()), ((n : Int), (B : Int), ()), ()) = _ from k4, some_bind', i_one_eq, some_bind', ite_t (lm _ _ (by simp)), w4]
    rw [i_easyRow_l3, ite_f (by decide)]
    rfl
  simp only [i_easyRow, h0, some_bind', i_one_eq, i_rowsOf_eq (show n < 63 by omega), e1, h1]
  exact l3 _ _
theorem s_l09Row_eq {n B : Nat} (hn : n ≤ 4) (hB : B < 9223372036854775808) (hK : 4611686018427387904 ≤ K) (hN : namedS K) : s_l09Row K (((n : Int), (B : Int), ()), ()) = some (rowE n B) := by
  obtain ⟨n1, n2, n3, n4⟩ := hN
  have hp := pw4 hn
  have hq := pw_pos n
  have k1 := s_l06Keeps_eq (K := K) (n := n) (B := B) (fb := 8) (a := 2) hn (by decide) (by decide) hB hK
  have k2 := s_l06Keeps_eq (K := K) (n := n) (B := B) (fb := 14) (a := 2) hn (by decide) (by decide) hB hK
  have k3 := s_l06Keeps_eq (K := K) (n := n) (B := B) (fb := 232) (a := 3) hn (by decide) (by decide) hB hK
  have k4 := s_l06Keeps_eq (K := K) (n := n) (B := B) (fb := 150) (a := 3) hn (by decide) (by decide) hB hK
  have h0 := s_l09Has_eq (K := K) (n := (n : Int)) (j := 0) hB (by decide)
  have h1 := s_l09Has_eq (K := K) (n := (n : Int)) (j := 2 ^ n - 1) hB (by omega)
  have e1 : IntKind.i64.wrap (((2 ^ n : Nat) : Int) - 1) = ((2 ^ n - 1 : Nat) : Int) := by rw [w64 (by omega) (by omega)]; omega
  rw [show ((0 : Nat) : Int) = 0 from rfl] at h0
  obtain ⟨k, hk⟩ : ∃ k, K = k + 6 := ⟨K - 6, by omega⟩
  have l8 : ∀ b c : Bool, s_l09Row_j6 K K ((n : Int), (B : Int), ()) [b1 b, b1 c, 0, 0, 0, 0] none (fun z => some z) = some [b1 b, b1 c, b1 (keepV 8 n B (relL B n) 2 []), b1 (keepV 14 n B (relL B n) 2 []), b1 (keepV 232 n B (relL B n) 3 []), b1 (keepV 150 n B (relL B n) 3 [])] := fun b c => by
    show s_l09Row_l8 K K ((n : Int), (B : Int), ()) [b1 b, b1 c, 0, 0, 0, 0] [nmAnd, nmOr, nmMaj, nmMin] (0 : Int) (fun z => some z) = _
    rw [show s_l09Row_l8 K K = s_l09Row_l8 (R := List Int) K (k + 6) from by rw [← hk]]
    have b4 : ∀ i : Int, 0 ≤ i → i < 4 → bnds i ((([nmAnd, nmOr, nmMaj, nmMin] : List ByteArray).length : Nat) : Int) = true := fun i h h2 => bnds_t h h2
    have w1 : IntKind.i64.wrap ((0 : Int) + 1) = 1 := by decide
    have w2 : IntKind.i64.wrap ((1 : Int) + 1) = 2 := by decide
    have w3 : IntKind.i64.wrap ((2 : Int) + 1) = 3 := by decide
    have w4 : IntKind.i64.wrap ((3 : Int) + 1) = 4 := by decide
    have v0 : IntKind.i64.wrap ((0 : Int) + 2) = 2 := by decide
    have v1 : IntKind.i64.wrap ((1 : Int) + 2) = 3 := by decide
    have v2 : IntKind.i64.wrap ((2 : Int) + 2) = 4 := by decide
    have v3 : IntKind.i64.wrap ((3 : Int) + 2) = 5 := by decide
    have g0 : ([nmAnd, nmOr, nmMaj, nmMin] : List ByteArray).getD (0 : Int).toNat ByteArray.empty = nmAnd := rfl
    have g1 : ([nmAnd, nmOr, nmMaj, nmMin] : List ByteArray).getD (1 : Int).toNat ByteArray.empty = nmOr := rfl
    have g2 : ([nmAnd, nmOr, nmMaj, nmMin] : List ByteArray).getD (2 : Int).toNat ByteArray.empty = nmMaj := rfl
    have g3 : ([nmAnd, nmOr, nmMaj, nmMin] : List ByteArray).getD (3 : Int).toNat ByteArray.empty = nmMin := rfl
    have st : ∀ (kb : Bool) (l : List Int) (i : Int) (j : Nat) (F : List Int → Option (List Int)), l.length = 6 → i = (j : Int) → j < 6 → l.getD j 0 = 0 → (if kb = true then (if bnds i (l.length : Int) = true then F (l.set i.toNat 1) else none) else F l) = F (l.set j (b1 kb)) := fun kb l i j F hl hi hj hg => by
      subst hi
      cases kb
      · rw [if_neg (by decide)]
        congr 1
        apply List.ext_getElem
        · simp
        · intro q h1 h2
          rw [List.getElem_set]
          split
          · rename_i e; subst e
            rw [List.getD_eq_getElem?_getD, List.getElem?_eq_getElem h1] at hg
            exact hg
          · rfl
      · rw [if_pos rfl, if_pos (bnds_n (by omega))]; rfl
    rw [s_l09Row_l8, ite_t (by decide), ite_t (b4 _ (by decide) (by decide)), g0, n1, some_bind']
    try simp only
    rw [show s_l06Keeps K ((2, 8, ()), ((n : Int), (B : Int), ()), ()) = _ from k1, some_bind', st _ _ _ 2 (fun l => s_l09Row_l8 K (k + 5) ((n : Int), (B : Int), ()) l [nmAnd, nmOr, nmMaj, nmMin] (IntKind.i64.wrap (0 + 1)) fun z => some z) rfl (by rw [v0]; rfl) (by decide) rfl, w1]
    try simp only
    rw [s_l09Row_l8, ite_t (by decide), ite_t (b4 _ (by decide) (by decide)), g1, n2, some_bind']
    try simp only
    rw [show s_l06Keeps K ((2, 14, ()), ((n : Int), (B : Int), ()), ()) = _ from k2, some_bind', st _ _ _ 3 (fun l => s_l09Row_l8 K (k + 4) ((n : Int), (B : Int), ()) l [nmAnd, nmOr, nmMaj, nmMin] (IntKind.i64.wrap (1 + 1)) fun z => some z) rfl (by rw [v1]; rfl) (by decide) rfl, w2]
    try simp only
    rw [s_l09Row_l8, ite_t (by decide), ite_t (b4 _ (by decide) (by decide)), g2, n3, some_bind']
    try simp only
    rw [show s_l06Keeps K ((3, 232, ()), ((n : Int), (B : Int), ()), ()) = _ from k3, some_bind', st _ _ _ 4 (fun l => s_l09Row_l8 K (k + 3) ((n : Int), (B : Int), ()) l [nmAnd, nmOr, nmMaj, nmMin] (IntKind.i64.wrap (2 + 1)) fun z => some z) rfl (by rw [v2]; rfl) (by decide) rfl, w3]
    try simp only
    rw [s_l09Row_l8, ite_t (by decide), ite_t (b4 _ (by decide) (by decide)), g3, n4, some_bind']
    try simp only
    rw [show s_l06Keeps K ((3, 150, ()), ((n : Int), (B : Int), ()), ()) = _ from k4, some_bind', st _ _ _ 5 (fun l => s_l09Row_l8 K (k + 2) ((n : Int), (B : Int), ()) l [nmAnd, nmOr, nmMaj, nmMin] (IntKind.i64.wrap (3 + 1)) fun z => some z) rfl (by rw [v3]; rfl) (by decide) rfl, w4]
    try simp only
    rw [s_l09Row_l8, ite_f (by decide)]
    rfl
  simp only [s_l09Row, h0, some_bind']
  rw [show lim = 1099511627776 from rfl, ite_t (by decide)]
  simp only [s_l09Row_j4, s_l01Rows_eq (show n < 63 by omega), some_bind', e1, h1]
  rw [rowE]
  have q := l8
  cases B.testBit 0 <;> cases B.testBit (2 ^ n - 1)
  · exact q false false
  · exact q false true
  · exact q true false
  · exact q true true
def easyR (r : DF) : List Int × Int × Unit := if isF 1 r = true then (rowE r.1.toNat r.2.1.toNat, 0, ()) else ([], 1, ())
theorem i_EasyRow_eq {r : DF} (hK : 4611686018427387904 ≤ K) (hN : namedI K) : i_EasyRow K (r, ()) = some (easyR r) := by
  simp only [i_EasyRow, i_IsRelation_eq, some_bind', easyR]
  cases h : isF 1 r
  · rfl
  · obtain ⟨n, b, rfl, h1, h2, _⟩ := isF_nat h (by decide)
    rw [i_easyRow_eq h1 (bits_lt h1 h2) hK hN, some_bind']; rfl
theorem s_EasyRow_eq {r : DF} (hK : 4611686018427387904 ≤ K) (hN : namedS K) : s_EasyRow K (r, ()) = some (easyR r) := by
  simp only [s_EasyRow, s_l06Is_eq, some_bind', easyR]
  cases h : isF 1 r
  · rfl
  · obtain ⟨n, b, rfl, h1, h2, _⟩ := isF_nat h (by decide)
    rw [s_l09Row_eq h1 (bits_lt h1 h2) hK hN, some_bind']; rfl
theorem law_EasyRow {r : DF} : w_FnExactEasyRow 9223372036854775808 (r, ()) = some true := by
  have hK : 4611686018427387904 ≤ 9223372036854775808 := by decide
  have hi := i_EasyRow_eq (r := r) hK named_i
  have hs := s_EasyRow_eq (r := r) hK named_s
  obtain ⟨q, hq, e⟩ : ∃ q : List Int × Int × Unit, q.1.length ≤ 1099511627776 ∧ q = easyR r := ⟨easyR r, by unfold easyR; split <;> simp [rowE], rfl⟩
  rw [← e] at hi hs
  obtain ⟨h1, h2⟩ := mk_held hq hK
  have h3 : w_eqInt64S 9223372036854775808 (q.1, q.1, ()) = some true := w_eqInt64S_refl (by omega) hK
  simp only [w_FnExactEasyRow, w_toRelation_eq, hi, hs, h3, h1, h2, some_bind', w_FnExactEasyRow_j5, w_FnExactEasyRow_j16, mark_pos, decide_true, Bool.not_true, Bool.false_eq_true, if_false]
end Go.Proofs.Ytieiajeggahipaa.E
namespace Go.Proofs.Ytieiajeggahipaa.E
open Go Go.Proofs
/-- FnExactEasyRow, in plain numbers and lists: no condition. -/
theorem PuFnExactEasyRow (x : den as_w_FnExactEasyRow) (h : okD as_w_FnExactEasyRow x) : ∃ K, w_FnExactEasyRow K x = some true := by
  obtain ⟨r, u⟩ := x
  exact ⟨9223372036854775808, law_EasyRow⟩
end Go.Proofs.Ytieiajeggahipaa.E
