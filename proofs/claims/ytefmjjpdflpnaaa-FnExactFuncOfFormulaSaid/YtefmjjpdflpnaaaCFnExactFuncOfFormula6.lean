/-
  What the Go functions that FnExactFuncOfFormula reaches hand back, each as a plain function with a proof that the call does so, and plain lemmas on them. Conditions: those of each theorem.
-/
import Derived.Test.YtefmjjpdflpnaaaCFnExactFuncOfFormula5
namespace Go.Proofs.Ytefmjjpdflpnaaa.E
open Go Go.Proofs
set_option linter.unusedVariables false
set_option linter.unusedSimpArgs false
set_option maxRecDepth 100000
variable {K : Nat} {R : Type}
/-! formulas, as they are read -/
inductive FrB where
  | mk (c : UInt8) (ps : List FrB)
/-- how many places a byte has; -1 if it is none of a formula -/
def plcI (x : Int) : Int := if x = 97 ∨ x = 98 ∨ x = 99 ∨ x = 100 ∨ x = 48 ∨ x = 49 then 0 else if x = 33 then 1 else if x = 38 ∨ x = 124 ∨ x = 94 then 2 else if x = 63 ∨ x = 77 then 3 else -1
theorem s_places_eq (x : Int) : s_l05Places K (x, ()) = some (plcI x) := by
  simp only [s_l05Places, s_l05Places_j9, s_l05Places_j15, s_l05Places_j18, gN_eq, plcI, decide_eq_true_eq]
  by_cases h1 : x = 97
  · simp [h1]
  by_cases h2 : x = 98
  · simp [h2]
  by_cases h3 : x = 99
  · simp [h3]
  by_cases h4 : x = 100
  · simp [h4]
  by_cases h5 : x = 48
  · simp [h5]
  by_cases h6 : x = 49
  · simp [h6]
  by_cases h7 : x = 33
  · simp [h7]
  by_cases h8 : x = 38
  · simp [h8]
  by_cases h9 : x = 124
  · simp [h9]
  by_cases h10 : x = 94
  · simp [h10]
  by_cases h11 : x = 63
  · simp [h11]
  by_cases h12 : x = 77
  · simp [h12]
  simp [h1, h2, h3, h4, h5, h6, h7, h8, h9, h10, h11, h12]
theorem plcI_lt (x : Int) : plcI x < 4 ∧ -1 ≤ plcI x := by
  unfold plcI
  split
  · decide
  · split
    · decide
    · split
      · decide
      · split <;> decide
/-- some formulas, one behind the other -/
def rdN (rd : List UInt8 → Option (FrB × List UInt8)) : Nat → List UInt8 → Option (List FrB × List UInt8)
  | 0, l => some ([], l)
  | m + 1, l => match rd l with
    | none => none
    | some (f, l') => match rdN rd m l' with
      | none => none
      | some (fs, l'') => some (f :: fs, l'')
/-- the formula at the beginning, and the rest -/
def rdF : Nat → List UInt8 → Option (FrB × List UInt8)
  | 0, _ => none
  | _ + 1, [] => none
  | k + 1, c :: l => if plcI (c.toNat : Int) < 0 then none else match rdN (rdF k) (plcI (c.toNat : Int)).toNat l with
    | none => none
    | some (ps, l') => some (.mk c ps, l')
theorem rdN_suf {rd : List UInt8 → Option (FrB × List UInt8)} (h : ∀ l f l', rd l = some (f, l') → l' <:+ l) : ∀ (m : Nat) (l : List UInt8) (fs : List FrB) (l' : List UInt8), rdN rd m l = some (fs, l') → l' <:+ l
  | 0, l, fs, l', e => by
    rw [rdN] at e
    obtain ⟨_, rfl⟩ := Prod.mk.inj (Option.some.inj e)
    exact List.suffix_refl _
  | m + 1, l, fs, l', e => by
    rw [rdN] at e
    cases h1 : rd l with
    | none => rw [h1] at e; cases e
    | some p =>
      obtain ⟨f, l1⟩ := p
      rw [h1] at e
      dsimp only at e
      cases h2 : rdN rd m l1 with
      | none => rw [h2] at e; cases e
      | some q =>
        obtain ⟨gs, l2⟩ := q
        rw [h2] at e
        obtain ⟨_, rfl⟩ := Prod.mk.inj (Option.some.inj e)
        exact (rdN_suf h m l1 gs l2 h2).trans (h l f l1 h1)
theorem rdF_suf : ∀ (k : Nat) (l : List UInt8) (f : FrB) (l' : List UInt8), rdF k l = some (f, l') → l' <:+ l ∧ l'.length < l.length
  | 0, _, _, _, e => by cases e
  | k + 1, [], _, _, e => by cases e
  | k + 1, c :: l, f, l', e => by
    rw [rdF] at e
    split at e
    · cases e
    · cases h2 : rdN (rdF k) (plcI (c.toNat : Int)).toNat l with
      | none => rw [h2] at e; cases e
      | some q =>
        obtain ⟨gs, l2⟩ := q
        rw [h2] at e
        obtain ⟨_, rfl⟩ := Prod.mk.inj (Option.some.inj e)
        have := rdN_suf (fun l f l' h => (rdF_suf k l f l' h).1) _ _ _ _ h2
        exact ⟨this.trans (List.suffix_cons _ _), by have := this.length_le; simp; omega⟩
/-- where a rest begins -/
def posR (L l : List UInt8) : Int := ((L.length - l.length : Nat) : Int)
def endV (L : List UInt8) (o : Option (FrB × List UInt8)) : Int := match o with
  | some p => posR L p.2
  | none => -1
theorem size_tl (t : ByteArray) : t.size = t.data.toList.length := by
  show t.data.size = _
  rw [Array.length_toList]
theorem byteAt_pos {t : ByteArray} {l : List UInt8} {c : UInt8} (h : (c :: l) <:+ t.data.toList) : byteAt t (posR t.data.toList (c :: l)) = ((c.toNat : Nat) : Int) ∧ posR t.data.toList l = posR t.data.toList (c :: l) + 1 ∧ posR t.data.toList (c :: l) < (t.size : Int) := by
  obtain ⟨p, hp⟩ := h
  have hs := size_tl t
  have hl : t.data.toList.length = p.length + (l.length + 1) := by rw [← hp]; simp
  refine ⟨?_, ?_, ?_⟩
  · unfold byteAt posR
    rw [Int.toNat_natCast, hl, List.length_cons, show p.length + (l.length + 1) - (l.length + 1) = p.length by omega]
    have : t.data.getD p.length 0 = c := by
      rw [Array.getD_eq_getD_getElem?, ← Array.getElem?_toList, ← hp]; simp
    rw [this]
  · unfold posR; rw [hl, List.length_cons]; omega
  · unfold posR; rw [hs, hl, List.length_cons]; omega
theorem posR_nn (L l : List UInt8) : 0 ≤ posR L l := by unfold posR; omega
theorem end_l7 {t : ByteArray} {k : Nat} (hr : ∀ l, l <:+ t.data.toList → l.length < k → s_l05End K k (t, posR t.data.toList l, ()) = some (endV t.data.toList (rdF k l))) (kx kr : Int → Option R) : ∀ (m k2 : Nat) (l : List UInt8), l <:+ t.data.toList → l.length < k → m < k2 → m < 10 →
    s_l05End_l7 K (s_l05End K k) k2 t (posR t.data.toList l) (m : Int) kx kr = match rdN (rdF k) m l with | some p => kx (posR t.data.toList p.2) | none => kr (-1)
  | _, 0, _, _, _, h, _ => by omega
  | 0, k2 + 1, l, _, _, _, _ => by
    simp only [s_l05End_l7]
    rw [ite_f (by rfl)]; rfl
  | m + 1, k2 + 1, l, hl, hk, hm, h10 => by
    simp only [s_l05End_l7]
    rw [ite_t (decide_eq_true (by omega)), hr l hl hk, some_bind', w64 (by omega) (by omega), show ((m + 1 : Nat) : Int) - 1 = (m : Int) by omega, rdN]
    cases h1 : rdF k l with
    | none => exact ite_t (by rfl)
    | some p =>
      obtain ⟨f, l'⟩ := p
      obtain ⟨s1, s2⟩ := rdF_suf k l f l' h1
      have ih := end_l7 hr kx kr m k2 l' (s1.trans hl) (by omega) (by omega) (by omega)
      show (if decide (posR t.data.toList l' < 0) = true then kr (-1) else s_l05End_l7 K (s_l05End K k) k2 t (posR t.data.toList l') (m : Int) kx kr) = _
      rw [ite_f (decide_eq_false (by have := posR_nn t.data.toList l'; omega)), ih]
      dsimp only
      cases rdN (rdF k) m l' with
      | none => rfl
      | some q => rfl
theorem end_eq {t : ByteArray} (hs : t.size < 4611686018427387904) (hK : 100 ≤ K) : ∀ (k : Nat) (l : List UInt8), l <:+ t.data.toList → l.length < k → s_l05End K k (t, posR t.data.toList l, ()) = some (endV t.data.toList (rdF k l))
  | 0, _, _, h => by omega
  | k + 1, [], hl, h => by
    rw [s_l05End]
    simp only [s_l05End_b]
    rw [ite_t (decide_eq_true (by unfold posR; rw [size_tl]; simp))]; rfl
  | k + 1, c :: l, hl, h => by
    obtain ⟨b1, b2, b3⟩ := byteAt_pos hl
    have hsz := size_tl t
    have hp0 := posR_nn t.data.toList (c :: l)
    have hl2 : l <:+ t.data.toList := (List.suffix_cons c l).trans hl
    rw [s_l05End]
    simp only [s_l05End_b]
    rw [ite_f (decide_eq_false (by omega)), ite_t (bnds_t hp0 b3), b1, s_places_eq, some_bind', rdF]
    obtain ⟨p1, p2⟩ := plcI_lt ((c.toNat : Nat) : Int)
    by_cases hneg : plcI ((c.toNat : Nat) : Int) < 0
    · rw [ite_t (decide_eq_true hneg), if_pos hneg]; rfl
    · rw [ite_f (decide_eq_false hneg), if_neg hneg]
      obtain ⟨m, hm⟩ := Int.eq_ofNat_of_zero_le (show 0 ≤ plcI ((c.toNat : Nat) : Int) by omega)
      have h7 := end_l7 (K := K) (R := Int) (t := t) (k := k) (fun l h1 h2 => end_eq hs hK k l h1 h2) (fun z3 => some z3) (fun z4 => some z4) m K l hl2 (by simp at h; omega) (by omega) (by omega)
      rw [hm, w64 (by omega) (by omega), ← b2]
      refine h7.trans ?_
      show _ = some (endV _ (match rdN (rdF k) ((m : Nat) : Int).toNat l with | none => none | some (ps, l') => some (FrB.mk c ps, l')))
      rw [Int.toNat_natCast]
      cases rdN (rdF k) m l with
      | none => rfl
      | some q => rfl
theorem rdN_congr {rd rd' : List UInt8 → Option (FrB × List UInt8)} {B : Nat} (h : ∀ l, l.length < B → rd l = rd' l) (hs : ∀ l f l', rd l = some (f, l') → l'.length < l.length) : ∀ (m : Nat) (l : List UInt8), l.length < B → rdN rd m l = rdN rd' m l
  | 0, _, _ => rfl
  | m + 1, l, hl => by
    rw [rdN, rdN, ← h l hl]
    cases h1 : rd l with
    | none => rfl
    | some p =>
      obtain ⟨f, l'⟩ := p
      dsimp only
      rw [rdN_congr h hs m l' (by have := hs l f l' h1; omega)]
theorem rdF_fuel : ∀ (k k' : Nat) (l : List UInt8), l.length < k → l.length < k' → rdF k l = rdF k' l
  | 0, _, _, h, _ => by omega
  | _, 0, _, _, h => by omega
  | k + 1, k' + 1, [], _, _ => rfl
  | k + 1, k' + 1, c :: l, h, h' => by
    simp only [List.length_cons] at h h'
    rw [rdF, rdF, rdN_congr (rd' := rdF k') (B := l.length + 1) (fun y hy => rdF_fuel k k' y (by omega) (by omega)) (fun y f y' e => (rdF_suf k y f y' e).2) _ _ (Nat.lt_succ_self _)]
/-- the formula of a text -/
def rdT (L : List UInt8) : Option FrB := if 1 ≤ L.length ∧ L.length ≤ 60 then (match rdF (L.length + 1) L with
  | some (f, []) => some f
  | _ => none) else none
theorem s_is_eq {t : ByteArray} (hs : t.size < 4611686018427387904) (hK : 4611686018427387904 ≤ K) : s_l05Is K (t, ()) = some (rdT t.data.toList).isSome := by
  have hsz := size_tl t
  simp only [s_l05Is]
  unfold rdT
  by_cases h1 : 1 ≤ t.data.toList.length
  · rw [ite_t (decide_eq_true (by omega))]
    by_cases h60 : t.data.toList.length ≤ 60
    · rw [ite_t (decide_eq_true (by omega)), if_pos ⟨h1, h60⟩]
      have he := end_eq (K := K) (t := t) hs (by omega) K t.data.toList (List.suffix_refl _) (by omega)
      rw [show posR t.data.toList t.data.toList = 0 by unfold posR; omega, rdF_fuel K (t.data.toList.length + 1) _ (by omega) (by omega)] at he
      rw [he, some_bind']
      cases hr : rdF (t.data.toList.length + 1) t.data.toList with
      | none => exact congrArg some (decide_eq_false (by show ¬ (-1 : Int) = _; omega))
      | some p =>
        obtain ⟨f, l'⟩ := p
        obtain ⟨q1, q2⟩ := rdF_suf _ _ _ _ hr
        cases l' with
        | nil => exact congrArg some (decide_eq_true (by show posR _ [] = _; unfold posR; rw [hsz]; simp))
        | cons c l' => exact congrArg some (decide_eq_false (by
            show ¬ posR _ (c :: l') = _
            have := q1.length_le
            unfold posR
            simp only [List.length_cons] at this ⊢
            omega))
    · rw [ite_f (decide_eq_false (by omega)), if_neg (fun h => h60 h.2)]; rfl
  · rw [ite_f (decide_eq_false (by omega)), if_neg (fun h => h1 h.1)]; rfl
/-- the number of a variable; -1 if a byte is none -/
def varI (x : Int) : Int := if 97 ≤ x ∧ x ≤ 100 then x - 97 else -1
def mostV : Int → List UInt8 → Int
  | v, [] => v
  | v, c :: l => mostV (if varI (c.toNat : Int) > v then varI (c.toNat : Int) else v) l
theorem most_l3 {t : ByteArray} (hs : t.size < 4611686018427387904) (kx : Int → Option R) : ∀ (l : List UInt8) (k : Nat) (v : Int), l <:+ t.data.toList → l.length < k → -1 ≤ v → s_l05Most_l3 K k t v (posR t.data.toList l) kx = kx (mostV v l)
  | _, 0, _, _, h, _ => by omega
  | [], k + 1, v, _, _, _ => by
    simp only [s_l05Most_l3]
    rw [ite_f (decide_eq_false (by unfold posR; rw [size_tl]; simp))]; rfl
  | c :: l, k + 1, v, hl, hk, hv => by
    obtain ⟨b1, b2, b3⟩ := byteAt_pos hl
    have hsz := size_tl t
    have hp0 := posR_nn t.data.toList (c :: l)
    have hl2 : l <:+ t.data.toList := (List.suffix_cons c l).trans hl
    have hc : ((c.toNat : Nat) : Int) < 256 := by have := c.toNat_lt; omega
    simp only [s_l05Most_l3, s_l05Most_j6, s_l05Most_j4, gN_eq]
    rw [ite_t (decide_eq_true b3), ite_t (bnds_t hp0 b3), ite_t (bnds_t hp0 b3), ite_t (bnds_t hp0 b3), b1, w64 (x := posR t.data.toList (c :: l) + 1) (by omega) (by omega), ← b2, mostV]
    by_cases h1 : (97 : Int) ≤ ((c.toNat : Nat) : Int)
    · rw [ite_t (decide_eq_true h1)]
      by_cases h2 : ((c.toNat : Nat) : Int) ≤ 100
      · have hw : IntKind.i64.wrap (IntKind.u8.wrap (((c.toNat : Nat) : Int) - 97)) = ((c.toNat : Nat) : Int) - 97 := by
          generalize ((c.toNat : Nat) : Int) = x at h1 h2
          have : x = 97 ∨ x = 98 ∨ x = 99 ∨ x = 100 := by omega
          rcases this with rfl | rfl | rfl | rfl <;> decide
        rw [ite_t (decide_eq_true h2), hw, show varI ((c.toNat : Nat) : Int) = ((c.toNat : Nat) : Int) - 97 from if_pos ⟨h1, h2⟩, most_l3 hs kx l k _ hl2 (by simp at hk; omega) (by simp only [maxL]; split <;> omega)]
        rfl
      · rw [ite_f (decide_eq_false h2), show varI ((c.toNat : Nat) : Int) = -1 from if_neg (fun h => h2 h.2), most_l3 hs kx l k v hl2 (by simp at hk; omega) hv, if_neg (by omega)]
    · rw [ite_f (decide_eq_false h1), show varI ((c.toNat : Nat) : Int) = -1 from if_neg (fun h => h1 h.1), most_l3 hs kx l k v hl2 (by simp at hk; omega) hv, if_neg (by omega)]
theorem s_most_eq {t : ByteArray} (hs : t.size < 4611686018427387904) (hK : 4611686018427387904 ≤ K) : s_l05Most K (t, ()) = some (mostV (-1) t.data.toList) := by
  have hsz := size_tl t
  simp only [s_l05Most]
  have := most_l3 (K := K) (t := t) hs (fun z => some z) t.data.toList K (-1) (List.suffix_refl _) (by omega) (by decide)
  rw [show posR t.data.toList t.data.toList = 0 by unfold posR; omega] at this
  exact this
def varsOk (n : Int) (l : List UInt8) : Bool := l.all fun c => decide (varI (c.toNat : Int) < n)
theorem most_vars {n : Int} : ∀ (l : List UInt8) (v : Int), decide (mostV v l < n) = (decide (v < n) && varsOk n l)
  | [], v => by rw [mostV, varsOk, List.all_nil, Bool.and_true]
  | c :: l, v => by
    rw [mostV, most_vars l, varsOk, varsOk, List.all_cons, ← Bool.and_assoc]
    congr 1
    by_cases h : varI (c.toNat : Int) > v
    · rw [if_pos h]
      by_cases h2 : varI (c.toNat : Int) < n
      · rw [decide_eq_true h2, decide_eq_true (show v < n by omega)]; rfl
      · rw [decide_eq_false h2, Bool.and_false]
    · rw [if_neg h]
      by_cases h2 : v < n
      · rw [decide_eq_true h2, decide_eq_true (show varI (c.toNat : Int) < n by omega)]; rfl
      · rw [decide_eq_false h2, Bool.false_and]
variable {K : Nat} {R : Type}
/-! formulas: the spec's functions -/
/-- What is read does not hang on the rest. -/
theorem rdN_loc {rd : List UInt8 → Option (FrB × List UInt8)} (h : ∀ l f l', rd l = some (f, l') → ∃ a, l = a ++ l' ∧ ∀ r, rd (a ++ r) = some (f, r)) : ∀ (m : Nat) (l : List UInt8) (fs : List FrB) (l' : List UInt8), rdN rd m l = some (fs, l') → ∃ a, l = a ++ l' ∧ ∀ r, rdN rd m (a ++ r) = some (fs, r)
  | 0, l, fs, l', e => by
    rw [rdN] at e
    obtain ⟨rfl, rfl⟩ := Prod.mk.inj (Option.some.inj e)
    exact ⟨[], rfl, fun r => rfl⟩
  | m + 1, l, fs, l', e => by
    rw [rdN] at e
    cases h1 : rd l with
    | none => rw [h1] at e; cases e
    | some p =>
      obtain ⟨f, l1⟩ := p
      rw [h1] at e
      dsimp only at e
      cases h2 : rdN rd m l1 with
      | none => rw [h2] at e; cases e
      | some q =>
        obtain ⟨gs, l2⟩ := q
        rw [h2] at e
        obtain ⟨rfl, rfl⟩ := Prod.mk.inj (Option.some.inj e)
        obtain ⟨a, rfl, ha⟩ := h l f l1 h1
        obtain ⟨b, rfl, hb⟩ := rdN_loc h m _ _ _ h2
        refine ⟨a ++ b, by simp, fun r => ?_⟩
        rw [rdN, List.append_assoc, ha]
        dsimp only
        rw [hb]
theorem rdF_loc : ∀ (k : Nat) (l : List UInt8) (f : FrB) (l' : List UInt8), rdF k l = some (f, l') → ∃ a, l = a ++ l' ∧ ∀ r, rdF k (a ++ r) = some (f, r)
  | 0, _, _, _, e => by cases e
  | k + 1, [], _, _, e => by cases e
  | k + 1, c :: l, f, l', e => by
    rw [rdF] at e
    split at e
    · cases e
    · rename_i hn
      cases h2 : rdN (rdF k) (plcI (c.toNat : Int)).toNat l with
      | none => rw [h2] at e; cases e
      | some q =>
        obtain ⟨gs, l2⟩ := q
        rw [h2] at e
        obtain ⟨rfl, rfl⟩ := Prod.mk.inj (Option.some.inj e)
        obtain ⟨a, rfl, ha⟩ := rdN_loc (fun l f l' h => rdF_loc k l f l' h) _ _ _ _ h2
        refine ⟨c :: a, rfl, fun r => ?_⟩
        rw [List.cons_append, rdF, if_neg hn, ha]
/-- the bits of a gate, with its arity -/
def gateB (c : UInt8) : Nat × Nat := if c = 33 then (1, 1) else if c = 38 then (2, 8) else if c = 124 then (2, 14) else if c = 94 then (2, 6) else if c = 63 then (3, 216) else if c = 77 then (3, 232) else (0, 0)
def leafB (n : Nat) (c : UInt8) : Nat := if c = 48 then 0 else if c = 49 then 2 ^ 2 ^ n - 1 else projN n (c.toNat - 97)
mutual
/-- the bits of the function of a formula -/
def ofF (n : Nat) : FrB → Nat
  | .mk c ps => if plcI (c.toNat : Int) = 0 then leafB n c else putN (gateB c).2 n (ofL n ps)
def ofL (n : Nat) : List FrB → List Nat
  | [] => []
  | f :: fs => ofF n f :: ofL n fs
end
theorem packL_snoc : ∀ (l : List Nat) (x j : Nat), packL (l ++ [x]) j = packL l j + x * pw (j + l.length)
  | [], x, j => by simp [packL]
  | y :: l, x, j => by
    rw [List.cons_append, packL, packL, packL_snoc l x (j + 1), List.length_cons, show j + 1 + l.length = j + (l.length + 1) by omega]
    omega
theorem packL_mk (g : Nat → Bool) : ∀ N, packL ((List.range N).map fun r => (g r).toNat) 0 = mkB g N
  | 0 => rfl
  | N + 1 => by
    rw [List.range_succ, List.map_append, List.map_cons, List.map_nil, packL_snoc, packL_mk g N, mkB]
    simp only [List.length_map, List.length_range, Nat.zero_add, pw]
    cases g N <;> simp
theorem s_of_mk {n : Nat} (hn : n ≤ 4) (g : Nat → Bool) (hK : 100 ≤ K) : s_l01Of K ((n : Int), up ((List.range (2 ^ n)).map fun r => (g r).toNat), ()) = some (fN n (mkB g (2 ^ n))) := by
  rw [s_l01Of_eq hn (by simp [pw]) (fun x hx => by
    obtain ⟨r, _, rfl⟩ := List.mem_map.1 hx
    cases g r <;> simp) hK, packL_mk]; rfl
theorem bt_nat (b j : Nat) : bt b j = (((b.testBit j).toNat : Nat) : Int) := by unfold bt; cases b.testBit j <;> rfl
theorem up_sn (l : List Nat) (x : Nat) : up l ++ [((x : Nat) : Int)] = up (l ++ [x]) := by simp [up]
theorem sproj_l3 {n v : Nat} (hn : n ≤ 4) (hv : v < 63) (v4 : DF) (kx : Int → DF → List Int → Option R) : ∀ (m i k : Nat), i + m = 2 ^ n → m < k →
    s_l01Projection_l3 K k (n : Int) (v : Int) v4 (up ((List.range i).map fun r => (r.testBit v).toNat)) (i : Int) kx = kx (n : Int) v4 (up ((List.range (2 ^ n)).map fun r => (r.testBit v).toNat))
  | _, _, 0, _, h => by omega
  | 0, i, k + 1, e, _ => by
    obtain rfl : i = 2 ^ n := by omega
    simp only [s_l01Projection_l3]
    rw [s_l01Rows_eq (by omega), some_bind', ite_f (decide_eq_false (by omega))]
  | m + 1, i, k + 1, e, hk => by
    have hp : 2 ^ n ≤ 16 := Nat.pow_le_pow_right (by decide) hn
    have ih := sproj_l3 hn hv v4 kx m (i + 1) k (by omega) (by omega)
    have hlim : (1099511627776 : Nat) = lim := rfl
    simp only [s_l01Projection_l3]
    rw [s_l01Rows_eq (by omega), some_bind', ite_t (decide_eq_true (by omega)), ite_t (u64_dec _), u64n (by omega), bitI_bt v (by omega), bt_nat, ite_t (decide_eq_true (by simp [up]; omega)), up_sn, w64s (by omega)]
    rw [List.range_succ, List.map_append] at ih
    exact ih
theorem s_proj_eq {n v : Nat} (hn : n ≤ 4) (hv : v < 63) (hK : 100 ≤ K) : s_l01Projection K ((n : Int), (v : Int), ()) = some (fN n (projN n v)) := by
  have hp : 2 ^ n ≤ 16 := Nat.pow_le_pow_right (by decide) hn
  simp only [s_l01Projection]
  refine (sproj_l3 (K := K) hn hv _ _ (2 ^ n) 0 K (by omega) (by omega)).trans ?_
  rw [s_of_mk hn (fun r => r.testBit v) hK, some_bind']; rfl
theorem s_const_eq {n v : Nat} (hn : n ≤ 4) (hv : v ≤ 1) : s_l01Constant K ((n : Int), (v : Int), ()) = some (fN n (if v = 0 then 0 else 2 ^ 2 ^ n - 1)) := by
  have hp : 2 ^ 2 ^ n ≤ 65536 := Nat.le_trans (Nat.pow_le_pow_right (by decide) (Nat.pow_le_pow_right (by decide) hn)) (show 2 ^ 2 ^ 4 ≤ 65536 by decide)
  have h1 := Nat.two_pow_pos (2 ^ n)
  simp only [s_l01Constant]
  rw [s_l01All_eq hn, some_bind']
  have hv : v = 0 ∨ v = 1 := by omega
  rcases hv with rfl | rfl
  · rw [show ((0 : Nat) : Int) * (((2 ^ 2 ^ n : Nat) : Int) - 1) = ((0 : Nat) : Int) by simp, w64n (n := 0) (by decide)]; rfl
  · rw [show ((1 : Nat) : Int) * (((2 ^ 2 ^ n : Nat) : Int) - 1) = ((2 ^ 2 ^ n - 1 : Nat) : Int) by omega, w64n (by omega)]; rfl
theorem sputl_l7 {n r : Nat} (l : List Nat) (hl : l.length ≤ 4) (hx : ∀ x ∈ l, x < 65536) (hr : r < 100) (v2 v4 : DF) (v5 : Int) (v6 : List Int) (kx : List DF → DF → DF → Int → List Int → Int → Int → Option R) : ∀ (m i k : Nat), i + m = l.length → m < k →
    s_l01Put_l7 K k (fnsN n l) v2 v4 v5 v6 (r : Int) ((mkB (fun i => (l.getD i 0).testBit r) i : Nat) : Int) (i : Int) kx = kx (fnsN n l) v2 v4 v5 v6 (r : Int) ((packN l r : Nat) : Int)
  | _, _, 0, _, h => by omega
  | 0, i, k + 1, e, _ => by
    obtain rfl : i = l.length := by omega
    simp only [s_l01Put_l7, fns_len]; rw [ite_f (decide_eq_false (by omega))]; rfl
  | m + 1, i, k + 1, e, hk => by
    have ih := sputl_l7 (n := n) l hl hx hr v2 v4 v5 v6 kx m (i + 1) k (by omega) (by omega)
    rw [mkB_succ] at ih
    have hx1 := getD_all (by decide) hx i
    have hlt := mkB_lt (fun i => (l.getD i 0).testBit r) i
    have hp : 2 ^ i ≤ 2 ^ 4 := Nat.pow_le_pow_right (n := 2) (by decide) (by omega)
    have hd : dg ((l.getD i 0).testBit r) i ≤ 16 := by unfold dg; split <;> omega
    simp only [s_l01Put_l7, fns_len]
    rw [ite_t (decide_eq_true (by omega)), ite_t (bnds_n (by omega)), fns_get n l i (by omega), fN, s_l01At_eq (by omega) (by omega), some_bind', ite_t (u64_dec _), u64n (by omega), shl_bt (by omega), ← Int.natCast_add, w64n (by omega), w64s (by omega), ih]
theorem sputl_l3 {n a b : Nat} (hn : n ≤ 4) (hb : b < 65536) (l : List Nat) (hl : l.length ≤ 4) (hx : ∀ x ∈ l, x < 65536) (v4 : DF) (kx : DF → Int → List Int → Option R) : ∀ (m i k : Nat), i + m = 2 ^ n → m + 100 < k →
    s_l01Put_l3 K k (fnsN n l) (fN a b) v4 (n : Int) (up ((List.range i).map fun r => (b.testBit (packN l r)).toNat)) (i : Int) kx = kx v4 (n : Int) (up ((List.range (2 ^ n)).map fun r => (b.testBit (packN l r)).toNat))
  | _, _, 0, _, h => by omega
  | 0, i, k + 1, e, _ => by
    obtain rfl : i = 2 ^ n := by omega
    simp only [s_l01Put_l3]
    rw [s_l01Rows_eq (by omega), some_bind', ite_f (decide_eq_false (by omega))]
  | m + 1, i, k + 1, e, hk => by
    have hp : 2 ^ n ≤ 16 := Nat.pow_le_pow_right (by decide) hn
    have ih := sputl_l3 (a := a) hn hb l hl hx v4 kx m (i + 1) k (by omega) (by omega)
    have hlim : (1099511627776 : Nat) = lim := rfl
    have h16 : packN l i < 16 := Nat.lt_of_lt_of_le (packN_lt l i) (Nat.pow_le_pow_right (by decide) hl)
    have h7 := fun kx => sputl_l7 (K := K) (R := R) (n := n) (r := i) l hl hx (by omega) (fN a b) v4 (n : Int) (up ((List.range i).map fun r => (b.testBit (packN l r)).toNat)) kx l.length 0 k (by omega) (by omega)
    simp only [mkB] at h7
    rw [show ((0 : Nat) : Int) = 0 from rfl] at h7
    simp only [s_l01Put_l3]
    rw [s_l01Rows_eq (by omega), some_bind', ite_t (decide_eq_true (by omega))]
    refine (h7 _).trans ?_
    rw [fN, s_l01At_eq (by omega) (by omega), some_bind', bt_nat, ite_t (decide_eq_true (by simp [up]; omega)), up_sn, w64s (by omega)]
    rw [List.range_succ, List.map_append] at ih
    exact ih
theorem s_put_eq {n a b : Nat} (hn : n ≤ 4) (hb : b < 65536) (l : List Nat) (hl : l.length ≤ 4) (h0 : 0 < l.length) (hx : ∀ x ∈ l, x < 65536) (hK : 1000 ≤ K) : s_l01Put K (fN a b, fnsN n l, ()) = some (fN n (putN b n l)) := by
  have hp : 2 ^ n ≤ 16 := Nat.pow_le_pow_right (by decide) hn
  simp only [s_l01Put]
  have hg : (fnsN n l).getD (0 : Int).toNat ((0 : Int), (0 : Int), ()) = fN n (l.getD 0 0) := fns_get n l 0 h0
  rw [ite_t (by rw [fns_len]; exact bnds_n h0), hg]
  refine (sputl_l3 (K := K) (a := a) hn hb l hl hx _ _ (2 ^ n) 0 K (by omega) (by omega)).trans ?_
  rw [s_of_mk hn (fun r => b.testBit (packN l r)) (by omega), some_bind']; rfl
def BKf : Nat := 9223372036854775808
theorem BKf_ge : 4611686018427387904 ≤ BKf := by decide
theorem s_gate_eq (c : UInt8) (h : 0 < plcI (c.toNat : Int)) : s_l05Gate BKf ((c.toNat : Int), ()) = some (fN (gateB c).1 (gateB c).2) := by
  have hn : c.toNat = 33 ∨ c.toNat = 38 ∨ c.toNat = 124 ∨ c.toNat = 94 ∨ c.toNat = 63 ∨ c.toNat = 77 := by
    unfold plcI at h
    split at h
    · omega
    · split at h
      · omega
      · split at h
        · omega
        · split at h
          · omega
          · omega
  have e : c = UInt8.ofNat c.toNat := by simp
  rw [e]
  rcases hn with h | h | h | h | h | h <;> rw [h] <;> decide +kernel
/-- parts, one behind the other -/
theorem rdF_head {k : Nat} {c : UInt8} {l l' : List UInt8} {f : FrB} (h : rdF (k + 1) (c :: l) = some (f, l')) : ∃ ps, f = .mk c ps ∧ 0 ≤ plcI (c.toNat : Int) ∧ rdN (rdF k) (plcI (c.toNat : Int)).toNat l = some (ps, l') := by
  rw [rdF] at h
  split at h
  · cases h
  · cases h2 : rdN (rdF k) (plcI (c.toNat : Int)).toNat l with
    | none => rw [h2] at h; cases h
    | some q =>
      obtain ⟨gs, l2⟩ := q
      rw [h2] at h
      obtain ⟨rfl, rfl⟩ := Prod.mk.inj (Option.some.inj h)
      exact ⟨gs, rfl, by omega, rfl⟩
def toB (a : List UInt8) : ByteArray := ⟨a.toArray⟩
theorem toB_l (a : List UInt8) : (toB a).data.toList = a := rfl
theorem toB_size (a : List UInt8) : (toB a).size = a.length := rfl
theorem extract_l {t : ByteArray} {x a l : List UInt8} (h : x ++ a ++ l = t.data.toList) : t.extract x.length (x.length + a.length) = toB a := by
  have ht : t.data = (x ++ a ++ l).toArray := by rw [h]
  apply ByteArray.ext
  rw [ByteArray.data_extract, ht]
  apply Array.ext'
  simp [toB]
/-- texts that are read as formulas -/
def txtOk (k N : Nat) (T : ByteArray) (f : FrB) : Prop := rdF k T.data.toList = some (f, []) ∧ T.data.toList.length < k ∧ T.size ≤ N
inductive txtsOk (k N : Nat) : List ByteArray → List FrB → Prop
  | nil : txtsOk k N [] []
  | cons {T : ByteArray} {f : FrB} {Ts : List ByteArray} {fs : List FrB} (h : txtOk k N T f) (r : txtsOk k N Ts fs) : txtsOk k N (T :: Ts) (f :: fs)
theorem parts_l2 {t : ByteArray} (hs : t.size < 4611686018427387904) (hK : 4611686018427387904 ≤ K) (kx : List ByteArray → Option R) {k : Nat} : ∀ (ps : List FrB) (l : List UInt8) (out : List ByteArray) (k2 : Nat), l <:+ t.data.toList → l.length < k → rdN (rdF k) ps.length l = some (ps, []) → ps.length < k2 → out.length + ps.length ≤ 100 →
    ∃ Ts, txtsOk k t.size Ts ps ∧ s_l05Parts_l2 K k2 t out (posR t.data.toList l) kx = kx (out ++ Ts)
  | _, _, _, 0, _, _, _, h, _ => by omega
  | [], l, out, k2 + 1, hl, hk, e, _, _ => by
    obtain ⟨_, rfl⟩ := Prod.mk.inj (Option.some.inj e)
    refine ⟨[], .nil, ?_⟩
    simp only [s_l05Parts_l2]
    rw [ite_f (decide_eq_false (by unfold posR; rw [size_tl]; simp)), List.append_nil]
  | f :: ps, l, out, k2 + 1, hl, hk, e, hk2, h100 => by
    have hsz := size_tl t
    have hlim : (1099511627776 : Nat) = lim := rfl
    rw [List.length_cons, rdN] at e
    cases h1 : rdF k l with
    | none => rw [h1] at e; cases e
    | some p =>
      obtain ⟨g, l1⟩ := p
      rw [h1] at e
      dsimp only at e
      cases h2 : rdN (rdF k) ps.length l1 with
      | none => rw [h2] at e; cases e
      | some q =>
        obtain ⟨gs, l2⟩ := q
        rw [h2] at e
        obtain ⟨e3, rfl⟩ := Prod.mk.inj (Option.some.inj e)
        obtain ⟨rfl, rfl⟩ := List.cons.inj e3
        obtain ⟨s1, s2⟩ := rdF_suf k l g l1 h1
        obtain ⟨a, rfl, ha⟩ := rdF_loc k l g l1 h1
        obtain ⟨x, hx⟩ := hl
        have hl1 : l1 <:+ t.data.toList := ⟨x ++ a, by rw [← hx]; simp⟩
        obtain ⟨Ts, t1, t2⟩ := parts_l2 hs hK kx gs l1 (out ++ [toB a]) k2 hl1 (by omega) h2 (by simp at hk2; omega) (by simp at h100 ⊢; omega)
        have hlen : t.data.toList.length = x.length + (a.length + l1.length) := by rw [← hx]; simp
        have hp1 : posR t.data.toList (a ++ l1) = ((x.length : Nat) : Int) := by unfold posR; rw [hlen, List.length_append]; omega
        have hp2 : posR t.data.toList l1 = ((x.length + a.length : Nat) : Int) := by unfold posR; rw [hlen]; omega
        have ha0 : 0 < a.length := by rw [List.length_append] at s2; omega
        have hal : (a ++ l1).length ≤ t.size := by rw [List.length_append]; omega
        refine ⟨toB a :: Ts, .cons ⟨by have := ha []; rw [List.append_nil] at this; exact this, by rw [toB_l]; simp at hk; omega, by rw [toB_size]; omega⟩ t1, ?_⟩
        have he := end_eq (K := K) (t := t) hs (by omega) K (a ++ l1) ⟨x, hx⟩ (by omega)
        rw [rdF_fuel K k _ (by omega) hk, h1] at he
        have he : s_l05End K K (t, posR t.data.toList (a ++ l1), ()) = some (posR t.data.toList l1) := he
        simp only [s_l05Parts_l2]
        rw [ite_t (decide_eq_true (by rw [hp1]; omega)), he, some_bind', ite_t (by
          rw [decide_eq_true (posR_nn _ _), decide_eq_true (show posR t.data.toList (a ++ l1) ≤ posR t.data.toList l1 by rw [hp1, hp2]; omega), decide_eq_true (show posR t.data.toList l1 ≤ (t.size : Int) by rw [hp2]; omega)]; rfl),
          show t.extract (posR t.data.toList (a ++ l1)).toNat (posR t.data.toList l1).toNat = toB a by rw [hp1, hp2, Int.toNat_natCast, Int.toNat_natCast]; exact extract_l (l := l1) (by rw [← hx]; simp),
          ite_t (decide_eq_true (by simp at h100 ⊢; omega)), t2]
        simp
theorem rdN_len {rd : List UInt8 → Option (FrB × List UInt8)} : ∀ (m : Nat) (l : List UInt8) (fs : List FrB) (l' : List UInt8), rdN rd m l = some (fs, l') → fs.length = m
  | 0, l, fs, l', e => by
    obtain ⟨rfl, _⟩ := Prod.mk.inj (Option.some.inj e)
    rfl
  | m + 1, l, fs, l', e => by
    rw [rdN] at e
    cases h1 : rd l with
    | none => rw [h1] at e; cases e
    | some p =>
      obtain ⟨f, l1⟩ := p
      rw [h1] at e
      dsimp only at e
      cases h2 : rdN rd m l1 with
      | none => rw [h2] at e; cases e
      | some q =>
        obtain ⟨gs, l2⟩ := q
        rw [h2] at e
        obtain ⟨rfl, _⟩ := Prod.mk.inj (Option.some.inj e)
        rw [List.length_cons, rdN_len m _ _ _ h2]
theorem ofF_lt (n : Nat) : ∀ f, ofF n f < 2 ^ 2 ^ n
  | .mk c ps => by
    have := Nat.two_pow_pos (2 ^ n)
    rw [ofF]
    split
    · unfold leafB
      split
      · exact this
      · split
        · omega
        · exact projN_lt _ _
    · exact putN_lt _ _ _
theorem ofL_lt (n : Nat) : ∀ fs, ∀ x ∈ ofL n fs, x < 2 ^ 2 ^ n
  | [], x, h => by rw [ofL] at h; cases h
  | f :: fs, x, h => by
    rw [ofL] at h
    rcases List.mem_cons.1 h with rfl | h
    · exact ofF_lt n f
    · exact ofL_lt n fs x h
theorem ofL_len (n : Nat) : ∀ fs, (ofL n fs).length = fs.length
  | [] => by rw [ofL]; rfl
  | f :: fs => by rw [ofL, List.length_cons, ofL_len n fs, List.length_cons]
theorem txts_len {k N : Nat} : ∀ {Ts : List ByteArray} {fs : List FrB}, txtsOk k N Ts fs → Ts.length = fs.length
  | _, _, .nil => rfl
  | _, _, .cons _ r => by rw [List.length_cons, List.length_cons, txts_len r]
theorem func_l8 {n k N : Nat} {r : (Int × ByteArray × Unit) → Option DF} (hr : ∀ T f, txtOk k N T f → r ((n : Int), T, ()) = some (fN n (ofF n f))) (v4 : DF) (v5 : Int) (kx : DF → Int → List DF → Option R) {Tall : List ByteArray} (h100 : Tall.length ≤ 100) : ∀ (Tr : List ByteArray) (fr : List FrB), txtsOk k N Tr fr → ∀ (Tp : List ByteArray) (acc : List Nat) (k2 : Nat), Tall = Tp ++ Tr → acc.length = Tp.length → Tr.length < k2 →
    s_l05Func_l8 K r k2 (n : Int) v4 v5 Tall (fnsN n acc) (Tp.length : Int) kx = kx v4 v5 (fnsN n (acc ++ ofL n fr))
  | _, _, _, _, _, 0, _, _, h => by omega
  | [], fr, h, Tp, acc, k2 + 1, e, ha, hk => by
    cases h
    simp only [s_l05Func_l8]
    rw [ite_f (by rw [e]; exact nlt_len), ofL, List.append_nil]
  | T :: Tr, fr, h, Tp, acc, k2 + 1, e, ha, hk => by
    cases h with
    | @cons _ f _ fs h1 h2 =>
      have hlen : Tall.length = Tp.length + (Tr.length + 1) := by rw [e]; simp
      have hlim : (1099511627776 : Nat) = lim := rfl
      have ih := func_l8 hr v4 v5 kx h100 Tr fs h2 (Tp ++ [T]) (acc ++ [ofF n f]) k2 (by rw [e]; simp) (by simp [ha]) (by simp at hk; omega)
      simp only [s_l05Func_l8]
      rw [ite_t (by rw [e]; exact lt_len), ite_t (by rw [e]; exact bnds_mid), show Tall.getD ((Tp.length : Nat) : Int).toNat ByteArray.empty = T by rw [e]; exact getD_midI Tp Tr _ _, hr T f h1, some_bind', ite_t (decide_eq_true (by rw [fns_len]; simp only [List.length_cons, List.length_nil]; omega)), fns_snoc, w64s (by omega), ← snoc_len Tp T, ih, ofL, List.append_assoc]; rfl
theorem u8d {x y : Nat} (h : y ≤ x) (hx : x < 256) : IntKind.i64.wrap (IntKind.u8.wrap ((x : Int) - (y : Int))) = ((x - y : Nat) : Int) := by
  have e : ((x : Int) - (y : Int)) = ((x - y : Nat) : Int) := by omega
  rw [e]
  have e2 : IntKind.u8.wrap ((x - y : Nat) : Int) = ((x - y : Nat) : Int) := by
    have : x - y < 256 := by omega
    generalize x - y = z at this
    show ((z : Nat) : Int) % 2 ^ IntKind.u8.bits = _
    rw [show (2 : Int) ^ IntKind.u8.bits = 256 from rfl]
    omega
  rw [e2, w64n (by omega)]
theorem gate_lt (c : UInt8) : (gateB c).2 < 65536 := by unfold gateB; (repeat' split) <;> decide
theorem func_eq {n : Nat} (hn : n ≤ 4) : ∀ (k : Nat) (T : ByteArray) (f : FrB), txtOk k 4611686018427387903 T f → s_l05Func BKf k ((n : Int), T, ()) = some (fN n (ofF n f))
  | 0, T, f, h => by have := h.2.1; omega
  | k + 1, T, f, h => by
    obtain ⟨h1, h2, h3⟩ := h
    have hK := BKf_ge
    have hsz := size_tl T
    have hp : 2 ^ 2 ^ n ≤ 65536 := Nat.le_trans (Nat.pow_le_pow_right (by decide) (Nat.pow_le_pow_right (by decide) hn)) (show 2 ^ 2 ^ 4 ≤ 65536 by decide)
    cases hL : T.data.toList with
    | nil => rw [hL] at h1; cases h1
    | cons c l =>
      have hsuf : (c :: l) <:+ T.data.toList := by rw [hL]; exact List.suffix_refl _
      obtain ⟨b1, b2, b3⟩ := byteAt_pos hsuf
      have hp0 : posR T.data.toList (c :: l) = 0 := by unfold posR; rw [hL]; omega
      rw [hp0] at b1 b2 b3
      rw [hL] at h1 h2
      obtain ⟨ps, rfl, p1, p2⟩ := rdF_head h1
      have hc : c.toNat < 256 := c.toNat_lt
      have hplt := plcI_lt ((c.toNat : Nat) : Int)
      rw [s_l05Func]
      simp only [s_l05Func_b]
      rw [ite_t (bnds_t (by decide) b3), b1]
      by_cases c0 : ((c.toNat : Nat) : Int) = 48
      · have hc0 : c = 48 := UInt8.toNat_inj.1 (by show c.toNat = 48; omega)
        rw [ite_t (decide_eq_true c0)]
        simp only [s_l05Func_j3, gN_eq]
        rw [c0, show IntKind.i64.wrap (IntKind.u8.wrap ((48 : Int) - 48)) = ((0 : Nat) : Int) by decide, s_const_eq hn (by decide), some_bind', hc0]
        rw [ofF, if_pos (by decide), leafB, if_pos rfl]; rfl
      · rw [ite_f (decide_eq_false c0)]
        have hc0 : ¬ c = 48 := fun e => c0 (by rw [e]; rfl)
        by_cases c1 : ((c.toNat : Nat) : Int) = 49
        · have hc1 : c = 49 := UInt8.toNat_inj.1 (by show c.toNat = 49; omega)
          rw [ite_t (decide_eq_true c1)]
          simp only [s_l05Func_j3, gN_eq]
          rw [c1, show IntKind.i64.wrap (IntKind.u8.wrap ((49 : Int) - 48)) = ((1 : Nat) : Int) by decide, s_const_eq hn (by decide), some_bind', hc1]
          show some (fN n (2 ^ 2 ^ n - 1)) = some (fN n (ofF n (.mk 49 ps)))
          rw [ofF, if_pos (show plcI (((49 : UInt8).toNat : Nat) : Int) = 0 by decide), leafB, if_neg (by decide), if_pos rfl]
        · rw [ite_f (decide_eq_false c1)]
          have hc1 : ¬ c = 49 := fun e => c1 (by rw [e]; rfl)
          simp only [s_l05Func_j4, gN_eq]
          rw [s_places_eq, some_bind']
          by_cases z : plcI ((c.toNat : Nat) : Int) = 0
          · have h97 : 97 ≤ c.toNat := by
              unfold plcI at z
              split at z
              · omega
              · split at z
                · omega
                · split at z
                  · omega
                  · split at z <;> omega
            rw [ite_t (decide_eq_true z), show ((c.toNat : Nat) : Int) - 97 = ((c.toNat : Nat) : Int) - ((97 : Nat) : Int) from rfl, u8d h97 hc]
            have hv : c.toNat - 97 < 63 ∨ 63 ≤ c.toNat - 97 := by omega
            have h100 : c.toNat ≤ 100 := by
              unfold plcI at z
              split at z
              · omega
              · split at z
                · omega
                · split at z
                  · omega
                  · split at z <;> omega
            rw [s_proj_eq hn (by omega) (by omega), some_bind', ofF, if_pos z, leafB, if_neg hc0, if_neg hc1]
          · rw [ite_f (decide_eq_false z)]
            obtain ⟨m, hm⟩ := Int.eq_ofNat_of_zero_le p1
            rw [hm, Int.toNat_natCast] at p2
            have hlen := rdN_len _ _ _ _ p2
            have hl2 : l <:+ T.data.toList := by rw [hL]; exact List.suffix_cons _ _
            simp only [s_l05Func_j6]
            obtain ⟨Ts, t1, t2⟩ := parts_l2 (K := BKf) (t := T) (k := k) (by omega) hK (fun z5 => some z5) ps l [] BKf hl2 (by simp at h2; omega) (by rw [hlen]; exact p2) (by omega) (by simp; omega)
            have htl := txts_len t1
            have hpt : s_l05Parts BKf (T, ()) = some Ts := by
              simp only [s_l05Parts]
              rw [show (1 : Int) = posR T.data.toList l by omega]
              exact t2
            rw [hpt, some_bind']
            refine (func_l8 (K := BKf) (n := n) (k := k) (N := T.size) (r := s_l05Func BKf k) (fun T' f' h' => func_eq hn k T' f' ⟨h'.1, h'.2.1, by have := h'.2.2; omega⟩) ((0 : Int), (0 : Int), ()) ((c.toNat : Nat) : Int) _ (Tall := Ts) (by omega) Ts ps t1 [] [] BKf rfl rfl (by omega)).trans ?_
            rw [List.nil_append, s_gate_eq c (by omega), some_bind', s_put_eq hn (gate_lt c) (ofL n ps) (by rw [ofL_len]; omega) (by rw [ofL_len]; omega) (fun x hx => Nat.lt_of_lt_of_le (ofL_lt n ps x hx) hp) (by omega), some_bind', ofF, if_neg z]
/-- what both packages' FuncOfFormula answer -/
def fofV (n : Int) (L : List UInt8) : DF × Int × Unit := match rdT L with
  | none => (((0 : Int), (0 : Int), ()), 6, ())
  | some f => if 0 ≤ n ∧ n ≤ 4 then (if varsOk n L = true then (fN n.toNat (ofF n.toNat f), 0, ()) else (((0 : Int), (0 : Int), ()), 2, ())) else (((0 : Int), (0 : Int), ()), 2, ())
theorem s_fof_eq (n : Int) {t : ByteArray} (hs : t.size < 4611686018427387903) : s_FuncOfFormula BKf (n, t, ()) = some (fofV n t.data.toList) := by
  have hK := BKf_ge
  have hsz := size_tl t
  simp only [s_FuncOfFormula]
  rw [s_is_eq (by omega) hK, some_bind', fofV]
  cases hr : rdT t.data.toList with
  | none => rfl
  | some f =>
    rw [ite_f (by rfl), s_l01In_eq, some_bind']
    dsimp only
    by_cases hn : 0 ≤ n ∧ n ≤ 4
    · rw [decide_eq_true hn.1, decide_eq_true hn.2, ite_f (by rfl), if_pos hn, s_most_eq (by omega) hK, some_bind']
      have hm := most_vars (n := n) t.data.toList (-1)
      rw [decide_eq_true (show (-1 : Int) < n by omega), Bool.true_and] at hm
      cases hv : varsOk n t.data.toList
      · rw [hv] at hm
        have := of_decide_eq_false hm
        rw [ite_t (decide_eq_true (by omega))]; rfl
      · rw [hv] at hm
        have := of_decide_eq_true hm
        rw [ite_f (decide_eq_false (by omega)), if_pos rfl]
        obtain ⟨m, rfl⟩ := Int.eq_ofNat_of_zero_le hn.1
        have ht : txtOk BKf 4611686018427387903 t f := by
          unfold rdT at hr
          split at hr
          · have hBK : BKf = 9223372036854775808 := rfl
            refine ⟨?_, by omega, by omega⟩
            rw [rdF_fuel BKf (t.data.toList.length + 1) _ (by omega) (by omega)]
            cases h1 : rdF (t.data.toList.length + 1) t.data.toList with
            | none => rw [h1] at hr; cases hr
            | some p =>
              obtain ⟨g, l'⟩ := p
              rw [h1] at hr
              cases l' with
              | nil => cases hr; rfl
              | cons _ _ => cases hr
          · cases hr
        rw [func_eq (by omega) BKf t f ht, some_bind', Int.toNat_natCast]
    · rw [ite_t (by
        by_cases h2 : 0 ≤ n
        · rw [decide_eq_true h2, decide_eq_false (fun h => hn ⟨h2, h⟩)]; rfl
        · rw [decide_eq_false h2]; rfl), if_neg hn]
end Go.Proofs.Ytefmjjpdflpnaaa.E
namespace Go.Proofs.Ytefmjjpdflpnaaa.E
open Go Go.Proofs Go.Proofs.Ytefmjjpdflpnaaa
set_option maxRecDepth 100000
set_option linter.unusedVariables false
noncomputable def as_internal_bytealg_IndexByteString : Ty := (.pair .str (.pair (.int .u8) .unit))
noncomputable def sp_internal_bytealg_IndexByteString (F : (ByteArray × Int × Unit) → Option Int) : FnSpec := ⟨as_internal_bytealg_IndexByteString, [false, false], (.int .i64), F⟩
noncomputable def internal_bytealg_IndexByteString (K : Nat) (x : ByteArray × Int × Unit) : Option Int := some (Lib.indexByte x.1.data.toList x.2.1.toNat.toUInt8)
theorem ok_internal_bytealg_IndexByteString (K : Nat) : FnOk Try.prog 99 (sp_internal_bytealg_IndexByteString (internal_bytealg_IndexByteString K)) := indexByte_ok Try.func99 (by kernel_rfl) (by kernel_rfl) (by kernel_rfl) (by kernel_rfl)
noncomputable def C_internal_bytealg_IndexByteString (K : Nat) : CB Try.prog := .f _ _ (ok_internal_bytealg_IndexByteString K)
noncomputable def as_internal_stringslite_IndexByte : Ty := (.pair .str (.pair (.int .u8) .unit))
noncomputable def sp_internal_stringslite_IndexByte (F : (ByteArray × Int × Unit) → Option Int) : FnSpec := ⟨as_internal_stringslite_IndexByte, [false, false], (.int .i64), F⟩
noncomputable def internal_stringslite_IndexByte (K : Nat) (x : (ByteArray × Int × Unit)) : Option Int :=
    (internal_bytealg_IndexByteString K (x.1, x.2.1, ())).bind fun y1 =>
    some y1
noncomputable def rv_internal_stringslite_IndexByte : Lv := [(4, (.v (.int .i64)))]
theorem ok_internal_stringslite_IndexByte (K : Nat) : FnOk Try.prog 93 (sp_internal_stringslite_IndexByte (internal_stringslite_IndexByte K)) :=
  fn_okD tysOk [C_internal_bytealg_IndexByteString K] 0 [] [] rv_internal_stringslite_IndexByte K Try.func93 (by kernel_rfl) trivial (fun _ => by kernel_rfl)
noncomputable def C_internal_stringslite_IndexByte (K : Nat) : CB Try.prog := .f _ _ (ok_internal_stringslite_IndexByte K)
noncomputable def as_strings_IndexByte : Ty := (.pair .str (.pair (.int .u8) .unit))
noncomputable def sp_strings_IndexByte (F : (ByteArray × Int × Unit) → Option Int) : FnSpec := ⟨as_strings_IndexByte, [false, false], (.int .i64), F⟩
noncomputable def strings_IndexByte (K : Nat) (x : (ByteArray × Int × Unit)) : Option Int :=
    (internal_stringslite_IndexByte K (x.1, x.2.1, ())).bind fun y1 =>
    some y1
noncomputable def rv_strings_IndexByte : Lv := [(4, (.v (.int .i64)))]
theorem ok_strings_IndexByte (K : Nat) : FnOk Try.prog 71 (sp_strings_IndexByte (strings_IndexByte K)) :=
  fn_okD tysOk [C_internal_stringslite_IndexByte K] 0 [] [] rv_strings_IndexByte K Try.func71 (by kernel_rfl) trivial (fun _ => by kernel_rfl)
noncomputable def C_strings_IndexByte (K : Nat) : CB Try.prog := .f _ _ (ok_strings_IndexByte K)
noncomputable def as_i_placesOf : Ty := (.pair (.int .u8) .unit)
noncomputable def sp_i_placesOf (F : (Int × Unit) → Option Int) : FnSpec := ⟨as_i_placesOf, [false], (.int .i64), F⟩
noncomputable def i_placesOf_j7 {R : Type} (K : Nat) (k : Nat) (v0 : Int) (kn : Option R) (kr : (Int → Option R)) : Option R :=
    gN K ((if (decide (v0 = (63 : Int))) = true then
    kr (3 : Int)
    else
    (if (decide (v0 = (77 : Int))) = true then
    kr (3 : Int)
    else
    kn)))
noncomputable def i_placesOf_j3 {R : Type} (K : Nat) (k : Nat) (v0 : Int) (kn : Option R) (kr : (Int → Option R)) : Option R :=
    gN K ((if (decide (v0 = (33 : Int))) = true then
    kr (1 : Int)
    else
    (if (decide (v0 = (38 : Int))) = true then
    kr (2 : Int)
    else
    (if (decide (v0 = (124 : Int))) = true then
    kr (2 : Int)
    else
    (if (decide (v0 = (94 : Int))) = true then
    kr (2 : Int)
    else
    i_placesOf_j7 K k v0 kn (fun z2 =>
    kr z2))))))
noncomputable def i_placesOf_j9 {R : Type} (K : Nat) (k : Nat)  (kn : Option R) (kr : (Int → Option R)) : Option R :=
    kr (-1 : Int)
noncomputable def i_placesOf (K : Nat) (x : (Int × Unit)) : Option Int :=
    (strings_IndexByte K ((⟨#[97, 98, 99, 100]⟩ : ByteArray), x.1, ())).bind fun y1 =>
    (if (decide (y1 ≥ (0 : Int))) = true then
    some (0 : Int)
    else
    (if (decide (x.1 = (48 : Int))) = true then
    some (0 : Int)
    else
    (if (decide (x.1 = (49 : Int))) = true then
    some (0 : Int)
    else
    i_placesOf_j3 K K x.1 (i_placesOf_j9 K K none (fun z3 =>
    some z3)) (fun z4 =>
    some z4))))
noncomputable def rv_i_placesOf : Lv := [(2, (.v (.int .i64)))]
noncomputable def D_i_placesOf (K : Nat) : List (PD (den (.int .i64))) := [.J 3 [(0, (.v (.int .u8)))] [] K (fun k x kn kx kr => i_placesOf_j3 K k x.1 (kn ()) (fun z0 => kr (mkSt rv_i_placesOf (z0, ())))),
  .J 7 [(0, (.v (.int .u8)))] [] K (fun k x kn kx kr => i_placesOf_j7 K k x.1 (kn ()) (fun z0 => kr (mkSt rv_i_placesOf (z0, ())))),
  .J 9 [] [] 0 (fun k x kn kx kr => i_placesOf_j9 K k (kn ()) (fun z0 => kr (mkSt rv_i_placesOf (z0, ()))))]
theorem ok_i_placesOf (K : Nat) : FnOk Try.prog 84 (sp_i_placesOf (i_placesOf K)) :=
  fn_okD tysOk [C_strings_IndexByte K] 0 (D_i_placesOf K) [] rv_i_placesOf K Try.func84 (by kernel_rfl) ⟨fun _ _ _ _ _ => by kernel_rfl, ⟨fun _ _ _ _ _ => by kernel_rfl, ⟨fun _ _ _ _ _ => by kernel_rfl, trivial⟩⟩⟩ (fun _ => by kernel_rfl)
noncomputable def C_i_placesOf (K : Nat) : CB Try.prog := .f _ _ (ok_i_placesOf K)
noncomputable def i_readFormula_l6 {R : Type} (K : Nat) (r : (ByteArray × Unit) → Option (dq1 × ByteArray × Bool × Unit)) : Nat → Int → (List Frm) → Int → (List Frm) → ByteArray → Int → Int → (Int → (List Frm) → Int → (List Frm) → ByteArray → Option R) → (Int → (List Frm) → ByteArray → Bool → Option R) → Option R
  | 0, _, _, _, _, _, _, _, _, _ => none
  | k + 1, v2_0, v2_1, v5_0, v5_1, v6, v25, v26, kx0, kr =>
    (if (decide (v26 < v25)) = true then
    (r (v6, ())).bind fun y3 =>
    (if (!y3.2.2.1) = true then
    kr (0 : Int) ([] : List Frm) (⟨#[]⟩ : ByteArray) false
    else
    let l4 := [(Frm.mk y3.1.1 y3.1.2.1)]
    (if (decide (v5_1.length + l4.length ≤ lim)) = true then
    let l5 := (v5_1 ++ l4)
    i_readFormula_l6 K r k v2_0 v2_1 v5_0 l5 y3.2.1 v25 (IntKind.i64.wrap (v26 + (1 : Int))) kx0 kr
    else
    none))
    else
    kx0 v2_0 v2_1 v5_0 v5_1 v6)
noncomputable def i_readFormula_j3 {R : Type} (K : Nat) (r : (ByteArray × Unit) → Option (dq1 × ByteArray × Bool × Unit)) (k : Nat) (v0 : ByteArray) (v2_0 : Int) (v2_1 : (List Frm)) (kn : Option R) (kr : (Int → (List Frm) → ByteArray → Bool → Option R)) : Option R :=
    (if (bnds (0 : Int) (v0.size : Int)) = true then
    (if (decide (0 ≤ (1 : Int)) && decide ((1 : Int) ≤ (v0.size : Int)) && decide ((v0.size : Int) ≤ (v0.size : Int))) = true then
    (i_placesOf K ((byteAt v0 (0 : Int)), ())).bind fun y2 =>
    i_readFormula_l6 K r k v2_0 v2_1 (byteAt v0 (0 : Int)) ([] : List Frm) (v0.extract (1 : Int).toNat (v0.size : Int).toNat) y2 (0 : Int) (fun z6 z7 z8 z9 z10 =>
    kr z8 z9 z10 true) (fun z11 z12 z13 z14 =>
    kr z11 z12 z13 z14)
    else
    none)
    else
    none)
noncomputable def i_readFormula_b (K : Nat) (r : (ByteArray × Unit) → Option (dq1 × ByteArray × Bool × Unit)) (x : (ByteArray × Unit)) : Option (dq1 × ByteArray × Bool × Unit) :=
    (if (cmpS .eql x.1 (⟨#[]⟩ : ByteArray)) = true then
    some (((0 : Int), ([] : List Frm), ()), (⟨#[]⟩ : ByteArray), false, ())
    else
    (if (bnds (0 : Int) (x.1.size : Int)) = true then
    (i_placesOf K ((byteAt x.1 (0 : Int)), ())).bind fun y1 =>
    (if (decide (y1 < (0 : Int))) = true then
    some (((0 : Int), ([] : List Frm), ()), (⟨#[]⟩ : ByteArray), false, ())
    else
    i_readFormula_j3 K r K x.1 (0 : Int) ([] : List Frm) none (fun z15 z16 z17 z18 =>
    some ((z15, z16, ()), z17, z18, ())))
    else
    none))
noncomputable def i_readFormula (K : Nat) : Nat → (ByteArray × Unit) → Option (dq1 × ByteArray × Bool × Unit)
  | 0 => fun _ => none
  | k + 1 => i_readFormula_b K (i_readFormula K k)
noncomputable def X0_i_readFormula : Lv := [(2, (.bx (.st (.pair (.v (.int .u8)) (.pair (.r (.st .frm)) .unit))))), (5, (.bx (.st (.pair (.v (.int .u8)) (.pair (.r (.st .frm)) .unit))))), (6, (.v .str))]
noncomputable def rv_i_readFormula : Lv := [(2, (.bx (.st (.pair (.v (.int .u8)) (.pair (.r (.st .frm)) .unit))))), (3, (.v .str)), (4, (.v .bool))]
noncomputable def D_i_readFormula (K : Nat) (r : (ByteArray × Unit) → Option (dq1 × ByteArray × Bool × Unit)) : List (PD (den (.tup (.pair tq1 (.pair .str (.pair .bool .unit)))))) := [.J 3 [(0, (.v .str)), (2, (.bx (.st (.pair (.v (.int .u8)) (.pair (.r (.st .frm)) .unit)))))] [] 0 (fun k x kn kx kr => i_readFormula_j3 K r k x.1 x.2.1.1 x.2.1.2.1 (kn ()) (fun z0 z1 z2 z3 => kr (mkSt rv_i_readFormula ((z0, z1, ()), z2, z3, ())))),
  .L 6 [(2, (.bx (.st (.pair (.v (.int .u8)) (.pair (.r (.st .frm)) .unit))))), (5, (.bx (.st (.pair (.v (.int .u8)) (.pair (.r (.st .frm)) .unit))))), (6, (.v .str)), (25, (.v (.int .i64))), (26, (.v (.int .i64)))] [] (fun k x kx kr => i_readFormula_l6 K r k x.1.1 x.1.2.1 x.2.1.1 x.2.1.2.1 x.2.2.1 x.2.2.2.1 x.2.2.2.2.1 (fun z0 z1 z2 z3 z4 => kx 0 (mkSt X0_i_readFormula ((z0, z1, ()), (z2, z3, ()), z4, ()))) (fun z0 z1 z2 z3 => kr (mkSt rv_i_readFormula ((z0, z1, ()), z2, z3, ()))))]
theorem okb_i_readFormula (K : Nat) (r : (ByteArray × Unit) → Option (dq1 × ByteArray × Bool × Unit)) (hr : FnOk Try.prog 53 (sp_i_readFormula r)) : FnOk Try.prog 53 (sp_i_readFormula (i_readFormula_b K r)) :=
  fn_okD tysOk [.f _ (sp_i_readFormula (r)) (hr), C_i_placesOf K] 0 (D_i_readFormula K r) [(0, X0_i_readFormula)] rv_i_readFormula K Try.func53 (by kernel_rfl) ⟨fun _ _ _ _ _ => by kernel_rfl, ⟨⟨fun _ _ _ _ => by kernel_rfl, fun _ _ _ => rfl⟩, trivial⟩⟩ (fun _ => by kernel_rfl)
theorem ok_i_readFormula (K : Nat) : ∀ k, FnOk Try.prog 53 (sp_i_readFormula (i_readFormula K k))
  | 0 => fnOk_none
  | k + 1 => okb_i_readFormula K (i_readFormula K k) (ok_i_readFormula K k)
noncomputable def as_i_parse : Ty := (.pair .str .unit)
noncomputable def sp_i_parse (F : (ByteArray × Unit) → Option (dq1 × Bool × Unit)) : FnSpec := ⟨as_i_parse, [false], (.tup (.pair tq1 (.pair .bool .unit))), F⟩
noncomputable def i_parse (K : Nat) (x : (ByteArray × Unit)) : Option (dq1 × Bool × Unit) :=
    (if (decide ((x.1.size : Int) > (60 : Int))) = true then
    some (((0 : Int), ([] : List Frm), ()), false, ())
    else
    (i_readFormula K K (x.1, ())).bind fun y1 =>
    (if y1.2.2.1 = true then
    some ((y1.1.1, y1.1.2.1, ()), (cmpS .eql y1.2.1 (⟨#[]⟩ : ByteArray)), ())
    else
    some ((y1.1.1, y1.1.2.1, ()), false, ())))
noncomputable def rv_i_parse : Lv := [(2, (.bx (.st (.pair (.v (.int .u8)) (.pair (.r (.st .frm)) .unit))))), (3, (.v .bool))]
theorem ok_i_parse (K : Nat) : FnOk Try.prog 25 (sp_i_parse (i_parse K)) :=
  fn_okD tysOk [.f _ (sp_i_readFormula (i_readFormula K K)) (ok_i_readFormula K K)] 0 [] [] rv_i_parse K Try.func25 (by kernel_rfl) trivial (fun _ => by kernel_rfl)
noncomputable def C_i_parse (K : Nat) : CB Try.prog := .f _ _ (ok_i_parse K)
noncomputable def as_i_isArity : Ty := (.pair (.int .i64) .unit)
noncomputable def sp_i_isArity (F : (Int × Unit) → Option Bool) : FnSpec := ⟨as_i_isArity, [false], .bool, F⟩
noncomputable def i_isArity (K : Nat) (x : (Int × Unit)) : Option Bool :=
    (i_within K (x.1, (0 : Int), (4 : Int), ())).bind fun y1 =>
    some y1
noncomputable def rv_i_isArity : Lv := [(2, (.v .bool))]
theorem ok_i_isArity (K : Nat) : FnOk Try.prog 26 (sp_i_isArity (i_isArity K)) :=
  fn_okD tysOk [C_i_within K] 0 [] [] rv_i_isArity K Try.func26 (by kernel_rfl) trivial (fun _ => by kernel_rfl)
noncomputable def C_i_isArity (K : Nat) : CB Try.prog := .f _ _ (ok_i_isArity K)
noncomputable def as_i_formula_variable : Ty := (.pair (.ptr (.st .frm)) .unit)
noncomputable def sp_i_formula_variable (F : (Frm × Unit) → Option Int) : FnSpec := ⟨as_i_formula_variable, [false], (.int .i64), F⟩
noncomputable def i_formula_variable (K : Nat) (x : (Frm × Unit)) : Option Int :=
    (strings_IndexByte K ((⟨#[97, 98, 99, 100]⟩ : ByteArray), (Frm.c x.1), ())).bind fun y1 =>
    some y1
noncomputable def rv_i_formula_variable : Lv := [(2, (.v (.int .i64)))]
theorem ok_i_formula_variable (K : Nat) : FnOk Try.prog 54 (sp_i_formula_variable (i_formula_variable K)) :=
  fn_okD tysOkR [C_strings_IndexByte K] 0 [] [] rv_i_formula_variable K Try.func54 (by kernel_rfl) trivial (fun _ => by kernel_rfl)
noncomputable def C_i_formula_variable (K : Nat) : CB Try.prog := .f _ _ (ok_i_formula_variable K)
noncomputable def as_slices_IndexFunc_impl_formula : Ty := (.pair (.sl (.st .frm)) (.pair (.fn (.pair (.st .frm) .unit) .bool) .unit))
noncomputable def sp_slices_IndexFunc_impl_formula (F : ((List Frm) × ((Frm × Unit) → Option Bool) × Unit) → Option Int) : FnSpec := ⟨as_slices_IndexFunc_impl_formula, [false, false], (.int .i64), F⟩
noncomputable def slices_IndexFunc_impl_formula_l2 {R : Type} (K : Nat) : Nat → (List Frm) → ((Frm × Unit) → Option Bool) → Int → Int → (Option R) → (Int → Option R) → Option R
  | 0, _, _, _, _, _, _ => none
  | k + 1, v0, v1, v7, v8, kx0, kr =>
    (if (decide (v8 < v7)) = true then
    (if (bnds v8 (v0.length : Int)) = true then
    (v1 ((v0.getD v8.toNat (Frm.mk 0 [])), ())).bind fun y1 =>
    (if y1 = true then
    kr v8
    else
    slices_IndexFunc_impl_formula_l2 K k v0 v1 v7 (IntKind.i64.wrap (v8 + (1 : Int))) kx0 kr)
    else
    none)
    else
    kx0)
noncomputable def slices_IndexFunc_impl_formula (K : Nat) (x : ((List Frm) × ((Frm × Unit) → Option Bool) × Unit)) : Option Int :=
    slices_IndexFunc_impl_formula_l2 K K x.1 x.2.1 (x.1.length : Int) (0 : Int) (some (-1 : Int)) (fun z2 =>
    some z2)
noncomputable def X0_slices_IndexFunc_impl_formula : Lv := []
noncomputable def rv_slices_IndexFunc_impl_formula : Lv := [(4, (.v (.int .i64)))]
noncomputable def D_slices_IndexFunc_impl_formula (K : Nat) : List (PD (den (.int .i64))) := [.L 2 [(0, (.v (.sl (.st .frm)))), (1, (.v (.fn (.pair (.st .frm) .unit) .bool))), (7, (.v (.int .i64))), (8, (.v (.int .i64)))] [] (fun k x kx kr => slices_IndexFunc_impl_formula_l2 K k x.1 x.2.1 x.2.2.1 x.2.2.2.1 (kx 0 (mkSt X0_slices_IndexFunc_impl_formula ())) (fun z0 => kr (mkSt rv_slices_IndexFunc_impl_formula (z0, ()))))]
theorem ok_slices_IndexFunc_impl_formula (K : Nat) : FnOk Try.prog 85 (sp_slices_IndexFunc_impl_formula (slices_IndexFunc_impl_formula K)) :=
  fn_okD tysOkR [] 0 (D_slices_IndexFunc_impl_formula K) [(0, X0_slices_IndexFunc_impl_formula)] rv_slices_IndexFunc_impl_formula K Try.func85 (by kernel_rfl) ⟨⟨fun _ _ _ _ => by kernel_rfl, fun _ _ _ => rfl⟩, trivial⟩ (fun _ => by kernel_rfl)
noncomputable def C_slices_IndexFunc_impl_formula (K : Nat) : CB Try.prog := .f _ _ (ok_slices_IndexFunc_impl_formula K)
noncomputable def as_slices_ContainsFunc_impl_formula : Ty := (.pair (.sl (.st .frm)) (.pair (.fn (.pair (.st .frm) .unit) .bool) .unit))
noncomputable def sp_slices_ContainsFunc_impl_formula (F : ((List Frm) × ((Frm × Unit) → Option Bool) × Unit) → Option Bool) : FnSpec := ⟨as_slices_ContainsFunc_impl_formula, [false, false], .bool, F⟩
noncomputable def slices_ContainsFunc_impl_formula (K : Nat) (x : ((List Frm) × ((Frm × Unit) → Option Bool) × Unit)) : Option Bool :=
    (slices_IndexFunc_impl_formula K (x.1, x.2.1, ())).bind fun y1 =>
    some (decide (y1 ≥ (0 : Int)))
noncomputable def rv_slices_ContainsFunc_impl_formula : Lv := [(4, (.v .bool))]
theorem ok_slices_ContainsFunc_impl_formula (K : Nat) : FnOk Try.prog 55 (sp_slices_ContainsFunc_impl_formula (slices_ContainsFunc_impl_formula K)) :=
  fn_okD tysOkR [C_slices_IndexFunc_impl_formula K] 0 [] [] rv_slices_ContainsFunc_impl_formula K Try.func55 (by kernel_rfl) trivial (fun _ => by kernel_rfl)
noncomputable def C_slices_ContainsFunc_impl_formula (K : Nat) : CB Try.prog := .f _ _ (ok_slices_ContainsFunc_impl_formula K)
noncomputable def as_i_formula_isOf : Ty := (.pair (.ptr (.st .frm)) (.pair (.int .i64) .unit))
noncomputable def sp_i_formula_isOf (F : (Frm × Int × Unit) → Option Bool) : FnSpec := ⟨as_i_formula_isOf, [false, false], .bool, F⟩
noncomputable def i_formula_isOf (K : Nat) (r : (Frm × Int × Unit) → Option Bool) (x : (Frm × Int × Unit)) : Option Bool :=
    (i_formula_variable K (x.1, ())).bind fun y1 =>
    (if (decide (y1 < x.2.1)) = true then
    (slices_ContainsFunc_impl_formula K ((Frm.ps x.1), (fun y3 => r (y3.1, x.2.1, ())), ())).bind fun y2 =>
    some (!y2)
    else
    some false)
noncomputable def rv_i_formula_isOf : Lv := [(4, (.v .bool))]
theorem ok_i_formula_isOf (K : Nat) (r : (Frm × Int × Unit) → Option Bool) (hr : FnOk Try.prog 56 (sp_i_formula_isOf_c1 r)) : FnOk Try.prog 27 (sp_i_formula_isOf (i_formula_isOf K r)) :=
  fn_okD tysOkR [C_i_formula_variable K, C_slices_ContainsFunc_impl_formula K, .f _ (sp_i_formula_isOf_c1 (r)) (hr)] 0 [] [] rv_i_formula_isOf K Try.func27 (by kernel_rfl) trivial (fun _ => by kernel_rfl)
noncomputable def as_i_constant : Ty := (.pair (.int .i64) (.pair (.int .i64) .unit))
noncomputable def sp_i_constant (F : (Int × Int × Unit) → Option dq0) : FnSpec := ⟨as_i_constant, [false, false], tq0, F⟩
noncomputable def i_constant (K : Nat) (x : (Int × Int × Unit)) : Option dq0 :=
    (i_funcsOf K (x.1, ())).bind fun y1 =>
    let x2 := (IntKind.i64.wrap ((IntKind.i64.wrap (y1 - (1 : Int))) * x.2.1))
    some ((x.1, ((0 : Int), (0 : Int), ()).2.1, ()).1, x2, ())
noncomputable def rv_i_constant : Lv := [(4, (.bx (.v tq0)))]
theorem ok_i_constant (K : Nat) : FnOk Try.prog 58 (sp_i_constant (i_constant K)) :=
  fn_okD tysOk [C_i_funcsOf K] 0 [] [] rv_i_constant K Try.func58 (by kernel_rfl) trivial (fun _ => by kernel_rfl)
noncomputable def C_i_constant (K : Nat) : CB Try.prog := .f _ _ (ok_i_constant K)
noncomputable def as_i_names : Ty := .unit
noncomputable def sp_i_names (F : Unit → Option (List dq2)) : FnSpec := ⟨as_i_names, [], (.sl tq2), F⟩
noncomputable def i_names (K : Nat) (x : Unit) : Option (List dq2) :=
    let x1 := (((⟨#[122, 101, 114, 111]⟩ : ByteArray), (ByteArray.empty, ByteArray.empty, ()).2.1, ()).1, (⟨#[48, 58, 48]⟩ : ByteArray), ())
    let x2 := (((⟨#[111, 110, 101]⟩ : ByteArray), (ByteArray.empty, ByteArray.empty, ()).2.1, ()).1, (⟨#[48, 58, 49]⟩ : ByteArray), ())
    let x3 := (((⟨#[105, 100]⟩ : ByteArray), (ByteArray.empty, ByteArray.empty, ()).2.1, ()).1, (⟨#[49, 58, 48, 49]⟩ : ByteArray), ())
    let x4 := (((⟨#[110, 111, 116]⟩ : ByteArray), (ByteArray.empty, ByteArray.empty, ()).2.1, ()).1, (⟨#[49, 58, 49, 48]⟩ : ByteArray), ())
    let x5 := (((⟨#[97, 110, 100]⟩ : ByteArray), (ByteArray.empty, ByteArray.empty, ()).2.1, ()).1, (⟨#[50, 58, 48, 48, 48, 49]⟩ : ByteArray), ())
    let x6 := (((⟨#[111, 114]⟩ : ByteArray), (ByteArray.empty, ByteArray.empty, ()).2.1, ()).1, (⟨#[50, 58, 48, 49, 49, 49]⟩ : ByteArray), ())
    let x7 := (((⟨#[120, 111, 114]⟩ : ByteArray), (ByteArray.empty, ByteArray.empty, ()).2.1, ()).1, (⟨#[50, 58, 48, 49, 49, 48]⟩ : ByteArray), ())
    let x8 := (((⟨#[110, 97, 110, 100]⟩ : ByteArray), (ByteArray.empty, ByteArray.empty, ()).2.1, ()).1, (⟨#[50, 58, 49, 49, 49, 48]⟩ : ByteArray), ())
    let x9 := (((⟨#[110, 111, 114]⟩ : ByteArray), (ByteArray.empty, ByteArray.empty, ()).2.1, ()).1, (⟨#[50, 58, 49, 48, 48, 48]⟩ : ByteArray), ())
    let x10 := (((⟨#[101, 113, 117, 97, 108]⟩ : ByteArray), (ByteArray.empty, ByteArray.empty, ()).2.1, ()).1, (⟨#[50, 58, 49, 48, 48, 49]⟩ : ByteArray), ())
    let x11 := (((⟨#[105, 109, 112, 108, 121]⟩ : ByteArray), (ByteArray.empty, ByteArray.empty, ()).2.1, ()).1, (⟨#[50, 58, 49, 48, 49, 49]⟩ : ByteArray), ())
    let x12 := (((⟨#[109, 97, 106, 111, 114, 105, 116, 121]⟩ : ByteArray), (ByteArray.empty, ByteArray.empty, ()).2.1, ()).1, (⟨#[51, 58, 48, 48, 48, 49, 48, 49, 49, 49]⟩ : ByteArray), ())
    let x13 := (((⟨#[109, 105, 110, 111, 114, 105, 116, 121]⟩ : ByteArray), (ByteArray.empty, ByteArray.empty, ()).2.1, ()).1, (⟨#[51, 58, 48, 49, 49, 48, 49, 48, 48, 49]⟩ : ByteArray), ())
    let x14 := (((⟨#[105, 102]⟩ : ByteArray), (ByteArray.empty, ByteArray.empty, ()).2.1, ()).1, (⟨#[51, 58, 48, 48, 48, 49, 49, 48, 49, 49]⟩ : ByteArray), ())
    let l15 := [x1, x2, x3, x4, x5, x6, x7, x8, x9, x10, x11, x12, x13, x14]
    some l15
noncomputable def rv_i_names : Lv := [(0, (.r tq2))]
theorem ok_i_names (K : Nat) : FnOk Try.prog 97 (sp_i_names (i_names K)) :=
  fn_okD tysOk [] 0 [] [] rv_i_names K Try.func97 (by kernel_rfl) trivial (fun _ => by kernel_rfl)
noncomputable def C_i_names (K : Nat) : CB Try.prog := .f _ _ (ok_i_names K)
noncomputable def as_i_IsFunc : Ty := (.pair tq0 .unit)
noncomputable def sp_i_IsFunc (F : (dq0 × Unit) → Option Bool) : FnSpec := ⟨as_i_IsFunc, [false], .bool, F⟩
noncomputable def i_IsFunc (K : Nat) (x : (dq0 × Unit)) : Option Bool :=
    (i_isArity K (x.1.1, ())).bind fun y1 =>
    (if y1 = true then
    (i_funcsOf K (x.1.1, ())).bind fun y2 =>
    (i_within K (x.1.2.1, (0 : Int), (IntKind.i64.wrap (y2 - (1 : Int))), ())).bind fun y3 =>
    some y3
    else
    some false)
noncomputable def rv_i_IsFunc : Lv := [(2, (.v .bool))]
theorem ok_i_IsFunc (K : Nat) : FnOk Try.prog 12 (sp_i_IsFunc (i_IsFunc K)) :=
  fn_okD tysOk [C_i_isArity K, C_i_within K, C_i_funcsOf K] 0 [] [] rv_i_IsFunc K Try.func12 (by kernel_rfl) trivial (fun _ => by kernel_rfl)
noncomputable def C_i_IsFunc (K : Nat) : CB Try.prog := .f _ _ (ok_i_IsFunc K)
noncomputable def as_internal_stringslite_Index : Ty := (.pair .str (.pair .str .unit))
noncomputable def sp_internal_stringslite_Index (F : (ByteArray × ByteArray × Unit) → Option Int) : FnSpec := ⟨as_internal_stringslite_Index, [false, false], (.int .i64), F⟩
noncomputable def internal_stringslite_Index_j4 {R : Type} (K : Nat) (k : Nat) (v0 : ByteArray) (v1 : ByteArray) (v5 : Int) (kn : Option R) (kr : (Int → Option R)) : Option R :=
    gN K ((if (decide (v5 = (1 : Int))) = true then
    (if (bnds (0 : Int) (v1.size : Int)) = true then
    (internal_stringslite_IndexByte K (v0, (byteAt v1 (0 : Int)), ())).bind fun y1 =>
    kr y1
    else
    none)
    else
    (if (decide (v5 ≥ (v0.size : Int))) = true then
    kr (-1 : Int)
    else
    none)))
noncomputable def internal_stringslite_Index (K : Nat) (x : (ByteArray × ByteArray × Unit)) : Option Int :=
    (if (decide ((x.2.1.size : Int) = (0 : Int))) = true then
    some (0 : Int)
    else
    (if (cmpS .eql x.2.1 x.1) = true then
    some (0 : Int)
    else
    internal_stringslite_Index_j4 K K x.1 x.2.1 (x.2.1.size : Int) none (fun z2 =>
    some z2)))
noncomputable def rv_internal_stringslite_Index : Lv := [(4, (.v (.int .i64)))]
noncomputable def D_internal_stringslite_Index (K : Nat) : List (PD (den (.int .i64))) := [.J 4 [(0, (.v .str)), (1, (.v .str)), (5, (.v (.int .i64)))] [] K (fun k x kn kx kr => internal_stringslite_Index_j4 K k x.1 x.2.1 x.2.2.1 (kn ()) (fun z0 => kr (mkSt rv_internal_stringslite_Index (z0, ()))))]
theorem ok_internal_stringslite_Index (K : Nat) : FnOk Try.prog 106 (sp_internal_stringslite_Index (internal_stringslite_Index K)) :=
  fn_okD tysOk [C_internal_stringslite_IndexByte K] 0 (D_internal_stringslite_Index K) [] rv_internal_stringslite_Index K Try.func106 (by kernel_rfl) ⟨fun _ _ _ _ _ => by kernel_rfl, trivial⟩ (fun _ => by kernel_rfl)
noncomputable def C_internal_stringslite_Index (K : Nat) : CB Try.prog := .f _ _ (ok_internal_stringslite_Index K)
noncomputable def as_internal_stringslite_Cut : Ty := (.pair .str (.pair .str .unit))
noncomputable def sp_internal_stringslite_Cut (F : (ByteArray × ByteArray × Unit) → Option (ByteArray × ByteArray × Bool × Unit)) : FnSpec := ⟨as_internal_stringslite_Cut, [false, false], (.tup (.pair .str (.pair .str (.pair .bool .unit)))), F⟩
noncomputable def internal_stringslite_Cut (K : Nat) (x : (ByteArray × ByteArray × Unit)) : Option (ByteArray × ByteArray × Bool × Unit) :=
    (internal_stringslite_Index K (x.1, x.2.1, ())).bind fun y1 =>
    (if (decide (y1 ≥ (0 : Int))) = true then
    (if (decide (0 ≤ (0 : Int)) && decide ((0 : Int) ≤ y1) && decide (y1 ≤ (x.1.size : Int))) = true then
    (if (decide (0 ≤ (IntKind.i64.wrap (y1 + (x.2.1.size : Int)))) && decide ((IntKind.i64.wrap (y1 + (x.2.1.size : Int))) ≤ (x.1.size : Int)) && decide ((x.1.size : Int) ≤ (x.1.size : Int))) = true then
    let x2 := (x.1.extract (IntKind.i64.wrap (y1 + (x.2.1.size : Int))).toNat (x.1.size : Int).toNat)
    some ((x.1.extract (0 : Int).toNat y1.toNat), x2, true, ())
    else
    none)
    else
    none)
    else
    some (x.1, (⟨#[]⟩ : ByteArray), false, ()))
noncomputable def rv_internal_stringslite_Cut : Lv := [(4, (.v .str)), (5, (.v .str)), (6, (.v .bool))]
theorem ok_internal_stringslite_Cut (K : Nat) : FnOk Try.prog 104 (sp_internal_stringslite_Cut (internal_stringslite_Cut K)) :=
  fn_okD tysOk [C_internal_stringslite_Index K] 0 [] [] rv_internal_stringslite_Cut K Try.func104 (by kernel_rfl) trivial (fun _ => by kernel_rfl)
noncomputable def C_internal_stringslite_Cut (K : Nat) : CB Try.prog := .f _ _ (ok_internal_stringslite_Cut K)
noncomputable def as_strings_Cut : Ty := (.pair .str (.pair .str .unit))
noncomputable def sp_strings_Cut (F : (ByteArray × ByteArray × Unit) → Option (ByteArray × ByteArray × Bool × Unit)) : FnSpec := ⟨as_strings_Cut, [false, false], (.tup (.pair .str (.pair .str (.pair .bool .unit)))), F⟩
noncomputable def strings_Cut (K : Nat) (x : (ByteArray × ByteArray × Unit)) : Option (ByteArray × ByteArray × Bool × Unit) :=
    (internal_stringslite_Cut K (x.1, x.2.1, ())).bind fun y1 =>
    some (y1.1, y1.2.1, y1.2.2.1, ())
noncomputable def rv_strings_Cut : Lv := [(4, (.v .str)), (5, (.v .str)), (6, (.v .bool))]
theorem ok_strings_Cut (K : Nat) : FnOk Try.prog 102 (sp_strings_Cut (strings_Cut K)) :=
  fn_okD tysOk [C_internal_stringslite_Cut K] 0 [] [] rv_strings_Cut K Try.func102 (by kernel_rfl) trivial (fun _ => by kernel_rfl)
noncomputable def C_strings_Cut (K : Nat) : CB Try.prog := .f _ _ (ok_strings_Cut K)
noncomputable def as_i_Func_rows : Ty := (.pair tq0 .unit)
noncomputable def sp_i_Func_rows (F : (dq0 × Unit) → Option Int) : FnSpec := ⟨as_i_Func_rows, [false], (.int .i64), F⟩
noncomputable def i_Func_rows (K : Nat) (x : (dq0 × Unit)) : Option Int :=
    (i_rowsOf K (x.1.1, ())).bind fun y1 =>
    some y1
noncomputable def rv_i_Func_rows : Lv := [(2, (.v (.int .i64)))]
theorem ok_i_Func_rows (K : Nat) : FnOk Try.prog 105 (sp_i_Func_rows (i_Func_rows K)) :=
  fn_okD tysOk [C_i_rowsOf K] 0 [] [] rv_i_Func_rows K Try.func105 (by kernel_rfl) trivial (fun _ => by kernel_rfl)
noncomputable def C_i_Func_rows (K : Nat) : CB Try.prog := .f _ _ (ok_i_Func_rows K)
noncomputable def as_i_Func_text : Ty := (.pair tq0 .unit)
noncomputable def sp_i_Func_text (F : (dq0 × Unit) → Option ByteArray) : FnSpec := ⟨as_i_Func_text, [false], .str, F⟩
noncomputable def i_Func_text_l3 {R : Type} (K : Nat) : Nat → dq0 → (List Int) → Int → Int → ((List Int) → Option R) → Option R
  | 0, _, _, _, _, _ => none
  | k + 1, v1, v3, v11, v12, kx0 =>
    (if (decide (v12 < v11)) = true then
    (i_Func_at K (v1, v12, ())).bind fun y3 =>
    let l4 := [(IntKind.u8.wrap ((48 : Int) + (IntKind.u8.wrap y3)))]
    (if (decide (v3.length + l4.length ≤ lim)) = true then
    let l5 := (v3 ++ l4)
    i_Func_text_l3 K k v1 l5 v11 (IntKind.i64.wrap (v12 + (1 : Int))) kx0
    else
    none)
    else
    kx0 v3)
noncomputable def i_Func_text (K : Nat) (x : (dq0 × Unit)) : Option ByteArray :=
    let l1 := [(IntKind.u8.wrap ((48 : Int) + (IntKind.u8.wrap x.1.1))), (58 : Int)]
    (i_Func_rows K (x.1, ())).bind fun y2 =>
    i_Func_text_l3 K K x.1 l1 y2 (0 : Int) (fun z6 =>
    some (bytesOf z6))
noncomputable def X0_i_Func_text : Lv := [(3, (.r (.int .u8)))]
noncomputable def rv_i_Func_text : Lv := [(2, (.v .str))]
noncomputable def D_i_Func_text (K : Nat) : List (PD (den .str)) := [.L 3 [(1, (.bx (.v tq0))), (3, (.r (.int .u8))), (11, (.v (.int .i64))), (12, (.v (.int .i64)))] [] (fun k x kx kr => i_Func_text_l3 K k x.1 x.2.1 x.2.2.1 x.2.2.2.1 (fun z0 => kx 0 (mkSt X0_i_Func_text (z0, ()))))]
theorem ok_i_Func_text (K : Nat) : FnOk Try.prog 103 (sp_i_Func_text (i_Func_text K)) :=
  fn_okD tysOk [C_i_Func_at K, C_i_Func_rows K] 0 (D_i_Func_text K) [(0, X0_i_Func_text)] rv_i_Func_text K Try.func103 (by kernel_rfl) ⟨⟨fun _ _ _ _ => by kernel_rfl, fun _ _ _ => rfl⟩, trivial⟩ (fun _ => by kernel_rfl)
noncomputable def C_i_Func_text (K : Nat) : CB Try.prog := .f _ _ (ok_i_Func_text K)
noncomputable def as_i_readFunc : Ty := (.pair .str .unit)
noncomputable def sp_i_readFunc (F : (ByteArray × Unit) → Option (dq0 × Bool × Unit)) : FnSpec := ⟨as_i_readFunc, [false], (.tup (.pair tq0 (.pair .bool .unit))), F⟩
noncomputable def i_readFunc_l6 {R : Type} (K : Nat) : Nat → ByteArray → dq0 → ByteArray → dq0 → Int → Int → (ByteArray → dq0 → dq0 → Option R) → Option R
  | 0, _, _, _, _, _, _, _ => none
  | k + 1, v0, v2, v5, v7, v31, v32, kx0 =>
    (if (decide (v32 < v31)) = true then
    (if (bnds v32 (v5.size : Int)) = true then
    (if (decide ((byteAt v5 v32) = (49 : Int))) = true then
    (if (decide ((0 : Int) ≤ v32)) = true then
    i_readFunc_l6 K k v0 v2 v5 (v7.1, (bitI .or .i64 v7.2.1 (shlI .i64 (1 : Int) v32)), ()) v31 (IntKind.i64.wrap (v32 + (1 : Int))) kx0
    else
    none)
    else
    i_readFunc_l6 K k v0 v2 v5 v7 v31 (IntKind.i64.wrap (v32 + (1 : Int))) kx0)
    else
    none)
    else
    kx0 v0 v2 v7)
noncomputable def i_readFunc_j4 {R : Type} (K : Nat) (k : Nat) (v0 : ByteArray) (v2 : dq0) (v4 : ByteArray) (v5 : ByteArray) (kn : Option R) (kr : (dq0 → Bool → Option R)) : Option R :=
    (if (bnds (0 : Int) (v4.size : Int)) = true then
    let x3 := (IntKind.i64.wrap ((IntKind.i64.wrap (byteAt v4 (0 : Int))) - (48 : Int)))
    i_readFunc_l6 K k v0 v2 v5 (x3, ((0 : Int), (0 : Int), ()).2.1, ()) (v5.size : Int) (0 : Int) (fun z4 z5 z6 =>
    (i_IsFunc K (z6, ())).bind fun y7 =>
    (if (!y7) = true then
    kr ((0 : Int), (0 : Int), ()) false
    else
    (i_Func_text K (z6, ())).bind fun y8 =>
    (if (cmpS .neq y8 z4) = true then
    kr ((0 : Int), (0 : Int), ()) false
    else
    kr z6 true)))
    else
    none)
noncomputable def i_readFunc (K : Nat) (x : (ByteArray × Unit)) : Option (dq0 × Bool × Unit) :=
    (strings_Cut K (x.1, (⟨#[58]⟩ : ByteArray), ())).bind fun y1 =>
    (if (!decide ((y1.1.size : Int) = (1 : Int))) = true then
    some (((0 : Int), (0 : Int), ()), false, ())
    else
    (i_rowsOf K ((4 : Int), ())).bind fun y2 =>
    (if (decide ((y1.2.1.size : Int) > y2)) = true then
    some (((0 : Int), (0 : Int), ()), false, ())
    else
    i_readFunc_j4 K K x.1 ((0 : Int), (0 : Int), ()) y1.1 y1.2.1 none (fun z9 z10 =>
    some (z9, z10, ()))))
noncomputable def X0_i_readFunc : Lv := [(0, (.v .str)), (2, (.bx (.v tq0))), (7, (.bx (.v tq0)))]
noncomputable def rv_i_readFunc : Lv := [(2, (.bx (.v tq0))), (3, (.v .bool))]
noncomputable def D_i_readFunc (K : Nat) : List (PD (den (.tup (.pair tq0 (.pair .bool .unit))))) := [.J 4 [(0, (.v .str)), (2, (.bx (.v tq0))), (4, (.v .str)), (5, (.v .str))] [] 0 (fun k x kn kx kr => i_readFunc_j4 K k x.1 x.2.1 x.2.2.1 x.2.2.2.1 (kn ()) (fun z0 z1 => kr (mkSt rv_i_readFunc (z0, z1, ())))),
  .L 6 [(0, (.v .str)), (2, (.bx (.v tq0))), (5, (.v .str)), (7, (.bx (.v tq0))), (31, (.v (.int .i64))), (32, (.v (.int .i64)))] [] (fun k x kx kr => i_readFunc_l6 K k x.1 x.2.1 x.2.2.1 x.2.2.2.1 x.2.2.2.2.1 x.2.2.2.2.2.1 (fun z0 z1 z2 => kx 0 (mkSt X0_i_readFunc (z0, z1, z2, ()))))]
theorem ok_i_readFunc (K : Nat) : FnOk Try.prog 98 (sp_i_readFunc (i_readFunc K)) :=
  fn_okD tysOk [C_i_IsFunc K, C_i_rowsOf K, C_strings_Cut K, C_i_Func_text K] 0 (D_i_readFunc K) [(0, X0_i_readFunc)] rv_i_readFunc K Try.func98 (by kernel_rfl) ⟨fun _ _ _ _ _ => by kernel_rfl, ⟨⟨fun _ _ _ _ => by kernel_rfl, fun _ _ _ => rfl⟩, trivial⟩⟩ (fun _ => by kernel_rfl)
noncomputable def C_i_readFunc (K : Nat) : CB Try.prog := .f _ _ (ok_i_readFunc K)
noncomputable def as_i_namedFunc : Ty := (.pair .str .unit)
noncomputable def sp_i_namedFunc (F : (ByteArray × Unit) → Option (dq0 × Bool × Unit)) : FnSpec := ⟨as_i_namedFunc, [false], (.tup (.pair tq0 (.pair .bool .unit))), F⟩
noncomputable def i_namedFunc_l2 {R : Type} (K : Nat) : Nat → ByteArray → dq0 → (List dq2) → Int → Int → (dq0 → Option R) → (dq0 → Bool → Option R) → Option R
  | 0, _, _, _, _, _, _, _ => none
  | k + 1, v0, v2, v6, v7, v8, kx0, kr =>
    (if (decide (v8 < v7)) = true then
    (if (bnds v8 (v6.length : Int)) = true then
    let x2 := (cmpS .eql ((v6.getD v8.toNat (ByteArray.empty, ByteArray.empty, ())).1) v0)
    (if x2 = true then
    let x3 := (v6.getD v8.toNat (ByteArray.empty, ByteArray.empty, ())).2.1
    (i_readFunc K (x3, ())).bind fun y4 =>
    kr y4.1 y4.2.1
    else
    i_namedFunc_l2 K k v0 v2 v6 v7 (IntKind.i64.wrap (v8 + (1 : Int))) kx0 kr)
    else
    none)
    else
    kx0 v2)
noncomputable def i_namedFunc (K : Nat) (x : (ByteArray × Unit)) : Option (dq0 × Bool × Unit) :=
    (i_names K ()).bind fun y1 =>
    i_namedFunc_l2 K K x.1 ((0 : Int), (0 : Int), ()) y1 (y1.length : Int) (0 : Int) (fun z5 =>
    some (((0 : Int), (0 : Int), ()), false, ())) (fun z6 z7 =>
    some (z6, z7, ()))
noncomputable def X0_i_namedFunc : Lv := [(2, (.bx (.v tq0)))]
noncomputable def rv_i_namedFunc : Lv := [(2, (.bx (.v tq0))), (3, (.v .bool))]
noncomputable def D_i_namedFunc (K : Nat) : List (PD (den (.tup (.pair tq0 (.pair .bool .unit))))) := [.L 2 [(0, (.v .str)), (2, (.bx (.v tq0))), (6, (.r tq2)), (7, (.v (.int .i64))), (8, (.v (.int .i64)))] [] (fun k x kx kr => i_namedFunc_l2 K k x.1 x.2.1 x.2.2.1 x.2.2.2.1 x.2.2.2.2.1 (fun z0 => kx 0 (mkSt X0_i_namedFunc (z0, ()))) (fun z0 z1 => kr (mkSt rv_i_namedFunc (z0, z1, ()))))]
theorem ok_i_namedFunc (K : Nat) : FnOk Try.prog 89 (sp_i_namedFunc (i_namedFunc K)) :=
  fn_okD tysOk [C_i_names K, C_i_readFunc K] 0 (D_i_namedFunc K) [(0, X0_i_namedFunc)] rv_i_namedFunc K Try.func89 (by kernel_rfl) ⟨⟨fun _ _ _ _ => by kernel_rfl, fun _ _ _ => rfl⟩, trivial⟩ (fun _ => by kernel_rfl)
end Go.Proofs.Ytefmjjpdflpnaaa.E
namespace Go.Proofs.Ytefmjjpdflpnaaa.E
open Go Go.Proofs Go.Proofs.Ytefmjjpdflpnaaa Go.RowKit Go.Maps
set_option maxRecDepth 100000
set_option maxHeartbeats 4000000
set_option linter.unusedVariables false
/-! the names of gates: a map by bytes that is filled once, and the function of a name -/
structure MapG (P : Program) (k e : TypeId) (w0 : World) (b n : Nat) (D : DataW Nat) (w : World) : Prop where
  own : w.ownsMap P k (plainElem P e) b n D
  le : w0.heap.size < b
  bel : Below w0.heap.size w0 w
  box : w.heap[w0.heap.size]? = some (.cells #[.int .i64 0, .int .i64 0] 23 (0, 0))
theorem wpList_insertG {P : Program} (w0 : World) {w : World} {ops : Array Oper} {rest : List Oper} {o : Oper} {a : Act} {Q : Exit → Act → World → Prop} (k e t : TypeId) (K : Keyed P k) (ht : P.underlying t = some (.map k e)) (hk : P.underlying k = some (.int .u8)) (he : P.underlying e = some .string)
    (b n : Nat) (D : DataW Nat) (hw : MapG P k e w0 b n D w) {m : Operand} (x : Int) (v : ByteArray) (hg : o.guard = none) (hop : o.op = Op.insert t m (.const (.int .u8 x)) (.const (.string v))) (hm : a.eval m = .map (some b)) (hx : (Lit.int .u8 x).wf = true) (hv : v.size ≤ maxLen) (hn : n < maxLen)
    (hK : ∀ w', MapG P k e w0 b (n + 1) (D.put (.int .u8 x) (.lit (.string v.data.toList))) w' → wpList P ops Q rest (a.put o.dst undef) w') : wpList P ops Q (o :: rest) a w := by
  refine wpList_plain hg fun K' hK' => ?_
  have hkey : keyOf P k (.int .u8 x) = some (.int .u8 x) := keyOf_int_mk hk hx
  obtain ⟨w', hrun, r1, r2⟩ := hw.own.update K ht hn hkey (plainElem_string he hv)
  unfold Oper.wp
  simp only [execOp, hop]
  rw [hm, show a.eval (.const (.int .u8 x)) = .int .u8 x from rfl, show a.eval (.const (.string v)) = .string v from rfl]
  simp [hrun, Result.andThen]
  exact hK' _ _ (hK w' ⟨r1, hw.le, hw.bel.grown r2 hw.bel.size (fun j hj => by cases hj; exact Nat.le_of_lt hw.le), (r2.block _ (Array.getElem?_eq_some_iff.1 hw.box).1 (fun e => by injection e with e; have := hw.le; omega)).trans hw.box⟩)
theorem lawB : Keyed Try.prog 5 := int_keyed Try.underlying5
def gateE : List (Int × List UInt8) := [(33, [110, 111, 116]), (38, [97, 110, 100]), (124, [111, 114]), (94, [120, 111, 114]), (63, [105, 102]), (77, [109, 97, 106, 111, 114, 105, 116, 121])]
def gateF (l : List (Int × List UInt8)) : DataW Nat := l.foldl (fun D p => D.put (.int .u8 p.1) (.lit (.string p.2))) (.map [])
/-- What such a map answers. -/
def gateL (l : List (Int × List UInt8)) (k : Int) : List UInt8 := l.foldl (fun v p => if k = p.1 then p.2 else v) []
def gateN (c : Int) : ByteArray := ⟨(gateL gateE c).toArray⟩
theorem isKey_int (x : Int) : WideAt.IsKeyLit (.int .u8 x) := trivial
theorem gate_at : ∀ (l : List (Int × List UInt8)) (D : DataW Nat) (k : Int) (v : List UInt8), IsMap D → D.atKey (.int .u8 k) (.lit (.string [])) = .lit (.string v) →
    (l.foldl (fun D p => D.put (.int .u8 p.1) (.lit (.string p.2))) D).atKey (.int .u8 k) (.lit (.string [])) = .lit (.string (l.foldl (fun v p => if k = p.1 then p.2 else v) v))
  | [], _, _, _, _, h => h
  | p :: l, D, k, v, hm, h => by
    rw [List.foldl_cons, List.foldl_cons]
    refine gate_at l _ k _ (hm.put _ _) ?_
    by_cases e : k = p.1
    · subst e; rw [if_pos rfl, atKey_put_same hm (isKey_int _)]
    · rw [if_neg e, atKey_put_other (fun h => e (by injection h)), h]
theorem zeroSg (w : World) : (zeroValue 9).run Try.prog w = .ok (.string ⟨#[]⟩) w := Try.zeroValue9 w
theorem wpList_lookG (w0 : World) {w : World} {ops : Array Oper} {rest : List Oper} {o : Oper} {a : Act} {Q : Exit → Act → World → Prop} (b : Nat) (hw : MapG Try.prog 5 9 w0 b 6 (gateF gateE) w) {m x : Operand} (c : Int) (hg : o.guard = none) (hop : o.op = Op.lookup 115 m x false) (hm : a.eval m = .map (some b)) (hx : a.eval x = .int .u8 c) (hc : (Lit.int .u8 c).wf = true)
    (hK : wpList Try.prog ops Q rest (a.put o.dst (.string (gateN c))) w) : wpList Try.prog ops Q (o :: rest) a w := by
  refine wpList_plain hg fun K' hK' => ?_
  have hkey : keyOf Try.prog 5 (.int .u8 c) = some (.int .u8 c) := keyOf_int_mk Try.underlying5 hc
  obtain ⟨v, ps, hrun, hv⟩ := hw.own.lookup lawB Try.underlying115 (zeroSg w) (plainElem_string Try.underlying9 (by decide)) hkey
  obtain ⟨t, rfl, ht, _⟩ := plainElem_string_inv Try.underlying9 hv
  have h7 := gate_at gateE (.map []) c [] isMap_empty (by simp [DataW.atKey])
  have h8 : (gateF gateE).atKey (.int .u8 c) (.lit (.string [])) = .lit (.string (gateL gateE c)) := h7
  have ht := (Prod.mk.inj ht).1
  have h9 : (Lit.string (gateL gateE c)) = .string t.data.toList := by
    have : (DataW.lit (Lit.string (gateL gateE c)) : DataW Nat) = .lit (.string t.data.toList) := h8.symm.trans ht
    injection this
  injection h9 with h9
  have : t = gateN c := by
    cases t with
    | mk d => unfold gateN; rw [h9]
  subst this
  unfold Oper.wp
  simp [execOp, hop, hm, hx, hrun, Result.andThen]
  exact hK' _ _ hK
theorem wpList_storeG {w : World} {ops : Array Oper} {rest : List Oper} {o : Oper} {a : Act} {Q : Exit → Act → World → Prop} (b : Nat) (u v : Int) {arr : Array Value} {p x : Operand} (hg : o.guard = none) (hop : o.op = Op.store 23 p x) (hp : a.eval p = .pointer (some ⟨b, 0, none⟩)) (hx : a.eval x = .agg #[.int .i64 u, .int .i64 v])
    (hb : w.heap[b]? = some (.cells arr 23 (0, 0))) (ha : arr.size = 2)
    (hK : ∀ w', w'.heap[b]? = some (.cells #[.int .i64 u, .int .i64 v] 23 (0, 0)) → w.grownBy w' (some b) → w'.cell? ⟨b, 0, none⟩ = some (.int .i64 u) → w'.cell? ⟨b, 1, none⟩ = some (.int .i64 v) → wpList Try.prog ops Q rest (a.put o.dst undef) w') : wpList Try.prog ops Q (o :: rest) a w := by
  refine wpList_plain hg fun K' hK' => ?_
  have ho : TyOk Try.prog (lk tys) 23 (.st (.pair (.int .i64) (.pair (.int .i64) .unit))) := tysOk _ _ (by kernel_rfl)
  have hst := storeVar_run (w := w) ho hb (cs := [.int .i64 u, .int .i64 v]) rfl (fun c hc => by
    simp only [List.mem_cons, List.not_mem_nil, or_false] at hc
    rcases hc with rfl | rfl <;> rfl) (by rw [ha]; exact Nat.le_refl 2)
  have e : (setSeg arr.toList 0 [Value.int .i64 u, Value.int .i64 v]).toArray = #[.int .i64 u, .int .i64 v] := by
    obtain ⟨l⟩ := arr
    match l, ha with
    | [x, y], _ => rfl
  rw [e] at hst
  have h1 : (w.setRow b #[.int .i64 u, .int .i64 v]).heap[b]? = some (.cells #[.int .i64 u, .int .i64 v] 23 (0, 0)) := setRow_heap w b arr _ _ _ hb
  refine wp_skip' (w' := w.setRow b #[.int .i64 u, .int .i64 v]) ?_ (hK' _ _ (hK _ h1 ⟨rfl, rfl, rfl, by simp, fun k _ hk => setRow_other w b k _ (fun e => hk (by simp [e]))⟩ ((cellAt h1 0).trans rfl) (by have := cellAt (o := 0) h1 1; simp only [Nat.zero_add] at this; rw [this]; rfl)))
  simp only [execOp, hop, hp, hx]
  exact exec_skip (by unfold Instr.storeAt; simp only [Instr.sureAddr, Sem.run_bind, pure_run, Result.andThen_ok]; exact hst)
abbrev DFt := Int × Int × Unit
theorem named_calls (K : Nat) (w : World) (s : ByteArray) (y : DFt × Bool × Unit) (hy : i_namedFunc K (s, ()) = some y) : Calls Try.prog 89 #[.string s] w fun e w' => e = .returned (.tuple #[.agg #[.int .i64 y.1.1, .int .i64 y.1.2.1], .bool y.2.1]) ∧ Below w.heap.size w w' := by
  refine ((((ok_i_namedFunc K).plain rfl) w [.string s] (s, ()) y ⟨[.string s], [], rfl, rfl, rfl⟩ hy).calls Try.func89 (by kernel_rfl) (c := bodyOf Try.f89) (by kernel_rfl)).mono ?_
  rintro e w' ⟨v, rfl, bs, ⟨us, h0, v1, r1, b1, b2, rfl, rfl, ⟨cs, h1, c1, c2, b3, b4, rfl, rfl, ⟨rfl, _⟩, c3, c4, b5, b6, rfl, rfl, ⟨rfl, _⟩, rfl, _⟩, v2, r2, b7, b8, rfl, rfl, ⟨cs2, h2, rfl, _⟩, rfl, _⟩, h3, h4, h5⟩
  refine ⟨?_, h5⟩
  cases h0
  cases h1
  cases h2
  rfl
theorem gate_calls (K : Nat) (w : World) (c : Int) (hc : (Lit.int .u8 c).wf = true) (y : DFt × Bool × Unit) (hy : i_namedFunc K (gateN c, ()) = some y) : Calls Try.prog 59 #[.int .u8 c] w fun e w' => e = .returned (.agg #[.int .i64 y.1.1, .int .i64 y.1.2.1]) ∧ Below w.heap.size w w' := by
  have hmm : ∀ (t : TypeId) (w : World), (Instr.makeMap t none).run Try.prog w = _ := @run_makeMap Try.prog
  have hnm := fun w => named_calls K w _ y hy
  have h0 : MapG Try.prog 5 9 w (w.heap.size + 1) 0 (.map []) ((w.alloc (.cells #[.int .i64 0, .int .i64 0] 23)).alloc (.map #[] 0)) := by
    have e : w.heap.size + 1 = (w.alloc (.cells #[.int .i64 0, .int .i64 0] 23)).heap.size := by rw [alloc_size]
    rw [e]
    refine ⟨World.ownsMap_made _ _ _ _, by rw [alloc_size]; exact Nat.lt_succ_self _, ((Below.refl _ _).alloc (Nat.le_refl _) _).alloc (by rw [alloc_size]; exact Nat.le_succ _) _, ?_⟩
    rw [alloc_get, if_neg (by rw [alloc_size]; omega), alloc_get, if_pos rfl]
  clear hy
  go_enter Try.func59, Try.ntmps59
  go_wp2_with (first
    | (refine wpList_insertG w 5 9 115 lawB Try.underlying115 Try.underlying5 Try.underlying9 _ _ _ (by assumption) _ _ rfl rfl rfl (by decide) (by decide) (by decide) ?_; intro w1 h1; go_frame)
    | (at_lookup; refine wpList_lookG w _ (by assumption) _ rfl rfl rfl rfl hc ?_)
    | (go_at_call 89; refine (hnm _).mono ?_; rintro e w2 ⟨rfl, hbe⟩; have hbx := (hbe.block _ (Array.getElem?_eq_some_iff.1 h1.box).1).trans h1.box; have hb2 : Aside (Below w.heap.size w w2) := Below.trans h1.bel (hbe.mono h1.bel.size))
    | (refine wpList_storeG w.heap.size _ _ (p := .tmp 2) (x := .tmp 15) rfl rfl rfl rfl (arr := #[.int .i64 0, .int .i64 0]) (by rw [alloc_get, if_neg (by have := (Array.getElem?_eq_some_iff.1 hbx).1; omega)]; exact hbx) rfl ?_; intro w3 h3 h4 h5 h6)
    | go_in)
  have ho : TyOk Try.prog (lk tys) 23 (.st (.pair (.int .i64) (.pair (.int .i64) .unit))) := tysOk _ _ (by kernel_rfl)
  have hl := loadVar_run (w := w3) ho (o := 0) h3 (Nat.le_refl 2)
  refine ⟨rfl, _, results_run (vs := [.agg #[.int .i64 y.1.1, .int .i64 y.1.2.1]]) ?_, rfl, ?_⟩
  · show (List.mapM (rvG _) [ResultVar.cell 2 23]).run _ _ = _
    simp only [List.mapM_cons, List.mapM_nil, Sem.run_bind]
    show ((loadVar 23 ⟨w.heap.size, 0, none⟩).run _ _).andThen _ = _
    rw [hl]; rfl
  · have hb2 : Below w.heap.size w w2 := hb2
    exact (hb2.alloc hb2.size _).grown h4 (by rw [alloc_size]; exact Nat.le_succ_of_le hb2.size) (fun j hj => by cases hj; exact Nat.le_refl _)
noncomputable def gateV (K : Nat) (x : Int × Unit) : Option DFt := if 0 ≤ x.1 ∧ x.1 < 256 then (i_namedFunc K (gateN x.1, ())).bind fun y => some y.1 else none
theorem gate_ok (K : Nat) : FnOk Try.prog 59 ⟨.pair (.int .u8) .unit, [false], .st (.pair (.int .i64) (.pair (.int .i64) .unit)), gateV K⟩ := by
  refine ⟨fun _ => ?_, fun h => by cases h⟩
  intro w vs x y hx hy
  obtain ⟨c, u⟩ := x
  have hy : gateV K (c, u) = some y := hy
  unfold gateV at hy
  split at hy
  case isFalse => cases hy
  rename_i h
  obtain ⟨y0, h0, h1⟩ := Option.bind_eq_some_iff.1 hy
  cases h1
  obtain ⟨cs, r, rfl, h2, h3⟩ := hx
  have h2 : cs = [.int .u8 c] := h2
  have h3 : r = [] := h3
  subst h2; subst h3
  have hw : (Lit.int .u8 c).wf = true := by
    have h : (0 : Int) ≤ c ∧ c < 256 := h
    simp [Lit.wf, IntKind.signed, IntKind.bits, IntKind.min, IntKind.max]
    omega
  refine cf_of_calls Try.func59 (c := bodyOf Try.f59) (by kernel_rfl) (by kernel_rfl) ?_
  refine (gate_calls K w c hw y0 h0).mono ?_
  rintro e w' ⟨rfl, hb⟩
  exact ⟨_, rfl, ret_plain (R := .st (.pair (.int .i64) (.pair (.int .i64) .unit))) rfl rfl rfl (c := [.int .i64 y0.1.1, .int .i64 y0.1.2.1]) ⟨[_], [_], [], [], rfl, rfl, ⟨rfl, rfl⟩, [_], [], [], [], rfl, rfl, ⟨rfl, rfl⟩, rfl, rfl⟩ hb⟩
end Go.Proofs.Ytefmjjpdflpnaaa.E
namespace Go.Proofs.Ytefmjjpdflpnaaa.E
open Go Go.Proofs Go.Proofs.Ytefmjjpdflpnaaa
set_option maxRecDepth 100000
set_option linter.unusedVariables false
noncomputable def as_i_gate : Ty := (.pair (.int .u8) .unit)
noncomputable def sp_i_gate (F : (Int × Unit) → Option dq0) : FnSpec := ⟨as_i_gate, [false], tq0, F⟩
noncomputable def i_gate (K : Nat) (x : Int × Unit) : Option (Int × Int × Unit) := gateV K x
theorem ok_i_gate (K : Nat) : FnOk Try.prog 59 (sp_i_gate (i_gate K)) := gate_ok K
noncomputable def C_i_gate (K : Nat) : CB Try.prog := .f _ _ (ok_i_gate K)
noncomputable def i_formula_of_j4 {R : Type} (K : Nat) (r : (Frm × Int × Unit) → Option dq0) (k : Nat) (v0 : Frm) (v1 : Int) (v4 : dq0) (kn : Option R) (kr : (dq0 → Option R)) : Option R :=
    gN K (let x4 := (IntKind.i64.wrap (IntKind.u8.wrap ((Frm.c v0) - (48 : Int))))
    (i_constant K (v1, x4, ())).bind fun y5 =>
    kr y5)
noncomputable def i_formula_of_l7 {R : Type} (K : Nat) (r : (Frm × Int × Unit) → Option dq0) : Nat → Frm → Int → dq0 → (List dq0) → Int → Int → (Frm → Int → dq0 → (List dq0) → Option R) → Option R
  | 0, _, _, _, _, _, _, _ => none
  | k + 1, v0, v1, v4, v5, v40, v41, kx1 =>
    (if (decide (v41 < v40)) = true then
    (if (bnds v41 ((Frm.ps v0).length : Int)) = true then
    (r (((Frm.ps v0).getD v41.toNat (Frm.mk 0 [])), v1, ())).bind fun y8 =>
    (if (decide (v5.length + ([y8]).length ≤ lim)) = true then
    let l9 := (v5 ++ [y8])
    i_formula_of_l7 K r k v0 v1 v4 l9 v40 (IntKind.i64.wrap (v41 + (1 : Int))) kx1
    else
    none)
    else
    none)
    else
    kx1 v0 v1 v4 v5)
noncomputable def i_formula_of_j5 {R : Type} (K : Nat) (r : (Frm × Int × Unit) → Option dq0) (k : Nat) (v0 : Frm) (v1 : Int) (v4 : dq0) (kn : Option R) (kr : (dq0 → Option R)) : Option R :=
    i_formula_of_l7 K r k v0 v1 v4 ([] : List dq0) ((Frm.ps v0).length : Int) (0 : Int) (fun z10 z11 z12 z13 =>
    (i_gate K ((Frm.c z10), ())).bind fun y14 =>
    (i_Func_put K (y14, z11, z13, ())).bind fun y15 =>
    kr y15)
noncomputable def i_formula_of_b (K : Nat) (r : (Frm × Int × Unit) → Option dq0) (x : (Frm × Int × Unit)) : Option dq0 :=
    (i_formula_variable K (x.1, ())).bind fun y1 =>
    (if (decide (y1 ≥ (0 : Int))) = true then
    (i_formula_variable K (x.1, ())).bind fun y2 =>
    (i_projection K (x.2.1, y2, ())).bind fun y3 =>
    some y3
    else
    (if (decide ((Frm.c x.1) = (48 : Int))) = true then
    i_formula_of_j4 K r K x.1 x.2.1 ((0 : Int), (0 : Int), ()) none (fun z6 =>
    some z6)
    else
    (if (decide ((Frm.c x.1) = (49 : Int))) = true then
    i_formula_of_j4 K r K x.1 x.2.1 ((0 : Int), (0 : Int), ()) none (fun z7 =>
    some z7)
    else
    i_formula_of_j5 K r K x.1 x.2.1 ((0 : Int), (0 : Int), ()) none (fun z16 =>
    some z16))))
noncomputable def i_formula_of (K : Nat) : Nat → (Frm × Int × Unit) → Option dq0
  | 0 => fun _ => none
  | k + 1 => i_formula_of_b K (i_formula_of K k)
noncomputable def X1_i_formula_of : Lv := [(0, (.v (.ptr (.st .frm)))), (1, (.v (.int .i64))), (4, (.bx (.v tq0))), (5, (.r tq0))]
noncomputable def rv_i_formula_of : Lv := [(4, (.bx (.v tq0)))]
noncomputable def D_i_formula_of (K : Nat) (r : (Frm × Int × Unit) → Option dq0) : List (PD (den tq0)) := [.J 4 [(0, (.v (.ptr (.st .frm)))), (1, (.v (.int .i64))), (4, (.bx (.v tq0)))] [] K (fun k x kn kx kr => i_formula_of_j4 K r k x.1 x.2.1 x.2.2.1 (kn ()) (fun z0 => kr (mkSt rv_i_formula_of (z0, ())))),
  .J 5 [(0, (.v (.ptr (.st .frm)))), (1, (.v (.int .i64))), (4, (.bx (.v tq0)))] [] 0 (fun k x kn kx kr => i_formula_of_j5 K r k x.1 x.2.1 x.2.2.1 (kn ()) (fun z0 => kr (mkSt rv_i_formula_of (z0, ())))),
  .L 7 [(0, (.v (.ptr (.st .frm)))), (1, (.v (.int .i64))), (4, (.bx (.v tq0))), (5, (.r tq0)), (40, (.v (.int .i64))), (41, (.v (.int .i64)))] [] (fun k x kx kr => i_formula_of_l7 K r k x.1 x.2.1 x.2.2.1 x.2.2.2.1 x.2.2.2.2.1 x.2.2.2.2.2.1 (fun z0 z1 z2 z3 => kx 1 (mkSt X1_i_formula_of (z0, z1, z2, z3, ()))))]
theorem okb_i_formula_of (K : Nat) (r : (Frm × Int × Unit) → Option dq0) (hr : FnOk Try.prog 28 (sp_i_formula_of r)) : FnOk Try.prog 28 (sp_i_formula_of (i_formula_of_b K r)) :=
  fn_okD tysOkR [.f _ (sp_i_formula_of (r)) (hr), C_i_formula_variable K, C_i_projection K, C_i_constant K, C_i_gate K, C_i_Func_put K] 0 (D_i_formula_of K r) [(1, X1_i_formula_of)] rv_i_formula_of K Try.func28 (by kernel_rfl) ⟨fun _ _ _ _ _ => by kernel_rfl, ⟨fun _ _ _ _ _ => by kernel_rfl, ⟨⟨fun _ _ _ _ => by kernel_rfl, fun _ _ _ => rfl⟩, trivial⟩⟩⟩ (fun _ => by kernel_rfl)
theorem ok_i_formula_of (K : Nat) : ∀ k, FnOk Try.prog 28 (sp_i_formula_of (i_formula_of K k))
  | 0 => fnOk_none
  | k + 1 => okb_i_formula_of K (i_formula_of K k) (ok_i_formula_of K k)
noncomputable def i_formula_isOf_c1_b (K : Nat) (r : (Frm × Int × Unit) → Option Bool) (x : (Frm × Int × Unit)) : Option Bool :=
    (i_formula_isOf K r (x.1, x.2.1, ())).bind fun y1 =>
    some (!y1)
noncomputable def i_formula_isOf_c1 (K : Nat) : Nat → (Frm × Int × Unit) → Option Bool
  | 0 => fun _ => none
  | k + 1 => i_formula_isOf_c1_b K (i_formula_isOf_c1 K k)
noncomputable def rv_i_formula_isOf_c1 : Lv := [(3, (.v .bool))]
theorem okb_i_formula_isOf_c1 (K : Nat) (r : (Frm × Int × Unit) → Option Bool) (hr : FnOk Try.prog 56 (sp_i_formula_isOf_c1 r)) : FnOk Try.prog 56 (sp_i_formula_isOf_c1 (i_formula_isOf_c1_b K r)) :=
  fn_okD tysOkR [.f _ (sp_i_formula_isOf (i_formula_isOf K r)) (ok_i_formula_isOf K r hr)] 0 [] [] rv_i_formula_isOf_c1 K Try.func56 (by kernel_rfl) trivial (fun _ => by kernel_rfl)
theorem ok_i_formula_isOf_c1 (K : Nat) : ∀ k, FnOk Try.prog 56 (sp_i_formula_isOf_c1 (i_formula_isOf_c1 K k))
  | 0 => fnOk_none
  | k + 1 => okb_i_formula_isOf_c1 K (i_formula_isOf_c1 K k) (ok_i_formula_isOf_c1 K k)
noncomputable def as_i_FuncOfFormula : Ty := (.pair (.int .i64) (.pair .str .unit))
noncomputable def sp_i_FuncOfFormula (F : (Int × ByteArray × Unit) → Option (dq0 × Int × Unit)) : FnSpec := ⟨as_i_FuncOfFormula, [false, false], (.tup (.pair tq0 (.pair (.int .i64) .unit))), F⟩
noncomputable def i_FuncOfFormula (K : Nat) (x : (Int × ByteArray × Unit)) : Option (dq0 × Int × Unit) :=
    (i_parse K (x.2.1, ())).bind fun y1 =>
    (if (!y1.2.1) = true then
    some (((0 : Int), (0 : Int), ()), (6 : Int), ())
    else
    (i_isArity K (x.1, ())).bind fun y2 =>
    (if (!y2) = true then
    some (((0 : Int), (0 : Int), ()), (2 : Int), ())
    else
    (i_formula_isOf K (i_formula_isOf_c1 K K) ((Frm.mk y1.1.1 y1.1.2.1), x.1, ())).bind fun y3 =>
    (if (!y3) = true then
    some (((0 : Int), (0 : Int), ()), (2 : Int), ())
    else
    (i_formula_of K K ((Frm.mk y1.1.1 y1.1.2.1), x.1, ())).bind fun y4 =>
    some (y4, (0 : Int), ()))))
noncomputable def rv_i_FuncOfFormula : Lv := [(4, (.bx (.v tq0))), (5, (.v (.int .i64)))]
theorem ok_i_FuncOfFormula (K : Nat) : FnOk Try.prog 6 (sp_i_FuncOfFormula (i_FuncOfFormula K)) :=
  fn_okD tysOk [C_i_parse K, C_i_isArity K, .f _ (sp_i_formula_isOf (i_formula_isOf K (i_formula_isOf_c1 K K))) (ok_i_formula_isOf K (i_formula_isOf_c1 K K) (ok_i_formula_isOf_c1 K K)), .f _ (sp_i_formula_of (i_formula_of K K)) (ok_i_formula_of K K), .f _ (sp_i_formula_isOf_c1 (i_formula_isOf_c1 K K)) (ok_i_formula_isOf_c1 K K)] 0 [] [] rv_i_FuncOfFormula K Try.func6 (by kernel_rfl) trivial (fun _ => by kernel_rfl)
noncomputable def C_i_FuncOfFormula (K : Nat) : CB Try.prog := .f _ _ (ok_i_FuncOfFormula K)
end Go.Proofs.Ytefmjjpdflpnaaa.E
namespace Go.Proofs.Ytefmjjpdflpnaaa.E
open Go Go.Proofs
set_option linter.unusedVariables false
set_option linter.unusedSimpArgs false
set_option maxRecDepth 100000
variable {K : Nat} {R : Type}
/-! formulas of the program, against what is read off the bytes -/
mutual
/-- the program's formula -/
def toF : FrB → Frm
  | .mk c ps => .mk (c.toNat : Int) (toFs ps)
def toFs : List FrB → List Frm
  | [] => []
  | f :: fs => toF f :: toFs fs
end
theorem toFs_app : ∀ (l m : List FrB), toFs (l ++ m) = toFs l ++ toFs m
  | [], m => by rw [toFs]; rfl
  | f :: l, m => by rw [List.cons_append, toFs, toFs, toFs_app l m]; rfl
theorem toFs_len : ∀ (l : List FrB), (toFs l).length = l.length
  | [] => by rw [toFs]; rfl
  | f :: l => by rw [toFs, List.length_cons, toFs_len l, List.length_cons]
theorem u8of (c : UInt8) : ((c.toNat : Nat) : Int).toNat.toUInt8 = c := by
  rw [Int.toNat_natCast]
  exact UInt8.toNat_inj.1 (by simp [Nat.toUInt8])
theorem i_index_eq (c : UInt8) : strings_IndexByte K ((⟨#[97, 98, 99, 100]⟩ : ByteArray), ((c.toNat : Nat) : Int), ()) = some (varI ((c.toNat : Nat) : Int)) := by
  simp only [strings_IndexByte, internal_stringslite_IndexByte, internal_bytealg_IndexByteString, some_bind', u8of]
  congr 1
  show Lib.indexByte [97, 98, 99, 100] c = _
  have hc : ∀ d : UInt8, (d == c) = decide (((d.toNat : Nat) : Int) = ((c.toNat : Nat) : Int)) := fun d => by
    rw [Bool.eq_iff_iff, beq_iff_eq, decide_eq_true_eq]
    constructor
    · intro h; rw [h]
    · intro h; exact UInt8.toNat_inj.1 (by omega)
  simp only [Lib.indexByte, hc]
  generalize ((c.toNat : Nat) : Int) = x
  show (if decide ((97 : Int) = x) = true then (0 : Int) else _) = _
  unfold varI
  by_cases h1 : x = 97
  · subst h1; rfl
  by_cases h2 : x = 98
  · subst h2; rfl
  by_cases h3 : x = 99
  · subst h3; rfl
  by_cases h4 : x = 100
  · subst h4; rfl
  rw [if_neg (show ¬ (97 ≤ x ∧ x ≤ 100) by omega), decide_eq_false (show ¬ (97 : Int) = x by omega), decide_eq_false (show ¬ ((UInt8.toNat 98 : Nat) : Int) = x from fun h => h2 h.symm), decide_eq_false (show ¬ ((UInt8.toNat 99 : Nat) : Int) = x from fun h => h3 h.symm),
    decide_eq_false (show ¬ ((UInt8.toNat 100 : Nat) : Int) = x from fun h => h4 h.symm)]
  rfl
theorem i_places_eq (c : UInt8) : i_placesOf K (((c.toNat : Nat) : Int), ()) = some (plcI ((c.toNat : Nat) : Int)) := by
  simp only [i_placesOf, i_placesOf_j3, i_placesOf_j7, i_placesOf_j9, gN_eq, i_index_eq, some_bind', decide_eq_true_eq]
  generalize ((c.toNat : Nat) : Int) = x
  unfold varI plcI
  by_cases h1 : 97 ≤ x ∧ x ≤ 100
  · rw [if_pos h1, if_pos (show x - 97 ≥ 0 by omega), if_pos (by omega)]
  rw [if_neg h1, if_neg (by decide)]
  by_cases h5 : x = 48
  · simp [h5]
  by_cases h6 : x = 49
  · simp [h6]
  by_cases h7 : x = 33
  · simp [h7]
  by_cases h8 : x = 38
  · simp [h8]
  by_cases h9 : x = 124
  · simp [h9]
  by_cases h10 : x = 94
  · simp [h10]
  by_cases h11 : x = 63
  · simp [h11]
  by_cases h12 : x = 77
  · simp [h12]
  rw [if_neg (show ¬ (x = 97 ∨ x = 98 ∨ x = 99 ∨ x = 100 ∨ x = 48 ∨ x = 49) by omega)]
  simp [h5, h6, h7, h8, h9, h10, h11, h12]
/-- a formula as its fields -/
def frV : FrB → Int × List Frm × Unit
  | .mk c ps => (((c.toNat : Nat) : Int), toFs ps, ())
theorem frV_mk (f : FrB) : Frm.mk (frV f).1 (frV f).2.1 = toF f := by cases f; rw [toF]; rfl
/-- what readFormula hands back -/
def rdV : Option (FrB × List UInt8) → (Int × List Frm × Unit) × ByteArray × Bool × Unit
  | none => (((0 : Int), ([] : List Frm), ()), (⟨#[]⟩ : ByteArray), false, ())
  | some p => (frV p.1, toB p.2, true, ())
theorem read_l6 {k : Nat} {r : (ByteArray × Unit) → Option ((Int × List Frm × Unit) × ByteArray × Bool × Unit)} (hr : ∀ l, l.length < k → r (toB l, ()) = some (rdV (rdF k l))) (v0 v5 : Int) (v1 : List Frm) (kx : Int → List Frm → Int → List Frm → ByteArray → Option R) (kr : Int → List Frm → ByteArray → Bool → Option R) :
    ∀ (m i k2 : Nat) (l : List UInt8) (acc : List FrB), l.length < k → m < k2 → i + m < 10 → acc.length + m < 100 →
    i_readFormula_l6 K r k2 v0 v1 v5 (toFs acc) (toB l) ((i + m : Nat) : Int) (i : Int) kx kr = match rdN (rdF k) m l with | some p => kx v0 v1 v5 (toFs (acc ++ p.1)) (toB p.2) | none => kr 0 [] ⟨#[]⟩ false
  | _, _, 0, _, _, _, h, _, _ => by omega
  | 0, i, k2 + 1, l, acc, _, _, _, _ => by
    simp only [i_readFormula_l6]
    rw [ite_f (decide_eq_false (by omega))]
    show _ = kx v0 v1 v5 (toFs (acc ++ [])) (toB l)
    rw [List.append_nil]
  | m + 1, i, k2 + 1, l, acc, hl, hk, h10, h100 => by
    simp only [i_readFormula_l6]
    rw [ite_t (decide_eq_true (by omega)), hr l hl, some_bind', rdN]
    cases h1 : rdF k l with
    | none => exact ite_t (by rfl)
    | some p =>
      obtain ⟨f, l'⟩ := p
      obtain ⟨s1, s2⟩ := rdF_suf k l f l' h1
      have hlim : (1099511627776 : Nat) = lim := rfl
      have ih := read_l6 hr v0 v5 v1 kx kr m (i + 1) k2 l' (acc ++ [f]) (by omega) (by omega) (by omega) (by simp; omega)
      have e : ((i + (m + 1) : Nat) : Int) = ((i + 1 + m : Nat) : Int) := by omega
      have ea : toFs acc ++ [Frm.mk (frV f).1 (frV f).2.1] = toFs (acc ++ [f]) := by rw [toFs_app, frV_mk, toFs, toFs]
      show (if (!true) = true then _ else if decide ((toFs acc).length + [Frm.mk (frV f).1 (frV f).2.1].length ≤ lim) = true then i_readFormula_l6 K r k2 v0 v1 v5 (toFs acc ++ [Frm.mk (frV f).1 (frV f).2.1]) (toB l') _ (IntKind.i64.wrap ((i : Int) + 1)) kx kr else none) = _
      rw [ite_f (by rfl), ite_t (decide_eq_true (by rw [toFs_len]; simp; omega)), ea, w64s (by omega), e, ih]
      dsimp only
      cases rdN (rdF k) m l' with
      | none => rfl
      | some q =>
        obtain ⟨gs, l2⟩ := q
        dsimp only
        rw [List.append_assoc]; rfl
theorem eql_nil (l : List UInt8) : cmpS .eql (toB l) (⟨#[]⟩ : ByteArray) = l.isEmpty := by
  cases l with
  | nil => exact (eql_iff _ _).2 rfl
  | cons c l =>
    refine eql_ne fun e => ?_
    have := congrArg ByteArray.size e
    rw [toB_size] at this
    exact absurd this (by simp [ByteArray.size])
theorem read_eq (hK : 100 ≤ K) : ∀ (k : Nat) (l : List UInt8), l.length < k → i_readFormula K k (toB l, ()) = some (rdV (rdF k l))
  | 0, l, h => by omega
  | k + 1, [], h => by
    rw [i_readFormula]
    simp only [i_readFormula_b]
    rw [ite_t (eql_nil [])]; rfl
  | k + 1, c :: l, h => by
    have hsz : (toB (c :: l)).size = l.length + 1 := toB_size _
    have hb0 : byteAt (toB (c :: l)) 0 = ((c.toNat : Nat) : Int) := rfl
    rw [i_readFormula]
    simp only [i_readFormula_b, i_readFormula_j3]
    rw [ite_f (eql_nil (c :: l)), ite_t (bnds_t (by decide) (by rw [hsz]; omega)), hb0, i_places_eq, some_bind', rdF]
    by_cases hneg : plcI ((c.toNat : Nat) : Int) < 0
    · rw [ite_t (decide_eq_true hneg), if_pos hneg]; rfl
    · obtain ⟨p1, p2⟩ := plcI_lt ((c.toNat : Nat) : Int)
      obtain ⟨m, hm⟩ := Int.eq_ofNat_of_zero_le (show 0 ≤ plcI ((c.toNat : Nat) : Int) by omega)
      rw [ite_f (decide_eq_false hneg), if_neg hneg, ite_t (bnds_t (by decide) (by rw [hsz]; omega)), ite_t (by rw [hsz, decide_eq_true (show (0 : Int) ≤ 1 by decide), decide_eq_true (show (1 : Int) ≤ ((l.length + 1 : Nat) : Int) by omega), decide_eq_true (Int.le_refl _)]; rfl), some_bind']
      have he : (toB (c :: l)).extract (1 : Int).toNat (((toB (c :: l)).size : Nat) : Int).toNat = toB l := by
        rw [Int.toNat_natCast, hsz, show l.length + 1 = [c].length + l.length by simp; omega]
        exact extract_l (x := [c]) (a := l) (l := []) (by simp [toB_l])
      rw [he]
      have h6 := read_l6 (K := K) (R := (Int × List Frm × Unit) × ByteArray × Bool × Unit) (k := k) (r := i_readFormula K k) (fun l h => read_eq hK k l h) 0 ((c.toNat : Nat) : Int) [] (fun z6 z7 z8 z9 z10 => some ((z8, z9, ()), z10, true, ())) (fun z11 z12 z13 z14 => some ((z11, z12, ()), z13, z14, ())) m 0 K l [] (by simp at h; omega) (by omega) (by omega) (by simp; omega)
      rw [hm, show ((m : Nat) : Int) = ((0 + m : Nat) : Int) by omega]
      refine (show _ = _ from h6).trans ?_
      rw [Nat.zero_add, Int.toNat_natCast]
      cases rdN (rdF k) m l with
      | none => rfl
      | some q => rfl
variable {K : Nat} {R : Type}
theorem toB_of (t : ByteArray) : toB t.data.toList = t := by cases t; rfl
theorem parse_some {t : ByteArray} {f : FrB} (hK : 100 ≤ K) (h : rdT t.data.toList = some f) : i_parse K (t, ()) = some (frV f, true, ()) := by
  have hsz := size_tl t
  unfold rdT at h
  split at h
  case isFalse => cases h
  rename_i h60
  simp only [i_parse]
  have hr := read_eq (K := K) hK K t.data.toList (by omega)
  rw [toB_of, rdF_fuel K (t.data.toList.length + 1) _ (by omega) (by omega)] at hr
  rw [ite_f (decide_eq_false (by omega)), hr, some_bind']
  cases h1 : rdF (t.data.toList.length + 1) t.data.toList with
  | none => rw [h1] at h; cases h
  | some p =>
    obtain ⟨g, l'⟩ := p
    rw [h1] at h
    cases l' with
    | nil =>
      cases h
      show (if true = true then some (frV f, cmpS .eql (toB []) ⟨#[]⟩, ()) else _) = _
      rw [ite_t rfl, eql_nil]; rfl
    | cons _ _ => cases h
theorem parse_none {t : ByteArray} (hK : 100 ≤ K) (h : rdT t.data.toList = none) : ∃ v, i_parse K (t, ()) = some (v, false, ()) := by
  have hsz := size_tl t
  simp only [i_parse]
  by_cases h60 : t.data.toList.length ≤ 60
  · have hr := read_eq (K := K) hK K t.data.toList (by omega)
    rw [toB_of, rdF_fuel K (t.data.toList.length + 1) _ (by omega) (by omega)] at hr
    rw [ite_f (decide_eq_false (by omega)), hr, some_bind']
    cases h1 : rdF (t.data.toList.length + 1) t.data.toList with
    | none => exact ⟨_, ite_f rfl⟩
    | some p =>
      obtain ⟨g, l'⟩ := p
      obtain ⟨q1, q2⟩ := rdF_suf _ _ _ _ h1
      unfold rdT at h
      rw [if_pos ⟨by omega, h60⟩, h1] at h
      cases l' with
      | nil => cases h
      | cons c l' =>
        refine ⟨frV g, ?_⟩
        show (if true = true then some (frV g, cmpS .eql (toB (c :: l')) ⟨#[]⟩, ()) else _) = _
        rw [ite_t rfl, eql_nil]; rfl
  · exact ⟨_, ite_t (decide_eq_true (by omega))⟩
mutual
/-- how many bytes a formula has -/
def szF : FrB → Nat
  | .mk _ ps => szL ps + 1
def szL : List FrB → Nat
  | [] => 0
  | f :: fs => szF f + szL fs
end
mutual
/-- each gate has its places -/
def wfF : FrB → Prop
  | .mk c ps => plcI (c.toNat : Int) = (ps.length : Int) ∧ wfL ps
def wfL : List FrB → Prop
  | [] => True
  | f :: fs => wfF f ∧ wfL fs
end
mutual
/-- has a formula no variables but the first n ones? -/
def isOfF (n : Int) : FrB → Bool
  | .mk c ps => decide (varI (c.toNat : Int) < n) && isOfL n ps
def isOfL (n : Int) : List FrB → Bool
  | [] => true
  | f :: fs => isOfF n f && isOfL n fs
end
theorem vars_app (n : Int) (a b : List UInt8) : varsOk n (a ++ b) = (varsOk n a && varsOk n b) := List.all_append
theorem rdN_all {rd : List UInt8 → Option (FrB × List UInt8)} (n : Int) (h : ∀ l f l', rd l = some (f, l') → ∃ a, l = a ++ l' ∧ a.length = szF f ∧ wfF f ∧ varsOk n a = isOfF n f) :
    ∀ (m : Nat) (l : List UInt8) (fs : List FrB) (l' : List UInt8), rdN rd m l = some (fs, l') → ∃ a, l = a ++ l' ∧ a.length = szL fs ∧ wfL fs ∧ varsOk n a = isOfL n fs
  | 0, l, fs, l', e => by
    obtain ⟨rfl, rfl⟩ := Prod.mk.inj (Option.some.inj e)
    exact ⟨[], rfl, by rw [szL]; rfl, by rw [wfL]; trivial, by rw [isOfL]; rfl⟩
  | m + 1, l, fs, l', e => by
    rw [rdN] at e
    cases h1 : rd l with
    | none => rw [h1] at e; cases e
    | some p =>
      obtain ⟨f, l1⟩ := p
      rw [h1] at e
      dsimp only at e
      cases h2 : rdN rd m l1 with
      | none => rw [h2] at e; cases e
      | some q =>
        obtain ⟨gs, l2⟩ := q
        rw [h2] at e
        obtain ⟨rfl, rfl⟩ := Prod.mk.inj (Option.some.inj e)
        obtain ⟨a, rfl, a1, a2, a3⟩ := h l f l1 h1
        obtain ⟨b, rfl, b1, b2, b3⟩ := rdN_all n h m l1 gs l2 h2
        exact ⟨a ++ b, by rw [List.append_assoc], by rw [List.length_append, a1, b1, szL], by rw [wfL]; exact ⟨a2, b2⟩, by rw [vars_app, a3, b3, isOfL]⟩
theorem rdF_all (n : Int) : ∀ (k : Nat) (l : List UInt8) (f : FrB) (l' : List UInt8), rdF k l = some (f, l') → ∃ a, l = a ++ l' ∧ a.length = szF f ∧ wfF f ∧ varsOk n a = isOfF n f
  | 0, _, _, _, e => by cases e
  | k + 1, [], _, _, e => by cases e
  | k + 1, c :: l, f, l', e => by
    obtain ⟨ps, rfl, h1, h2⟩ := rdF_head e
    obtain ⟨a, rfl, a1, a2, a3⟩ := rdN_all n (fun l f l' h => rdF_all n k l f l' h) _ _ _ _ h2
    have hl := rdN_len _ _ _ _ h2
    exact ⟨c :: a, rfl, by rw [List.length_cons, a1, szF], by rw [wfF]; exact ⟨by omega, a2⟩, by rw [isOfF, ← a3]; rfl⟩
theorem rdT_all (n : Int) {L : List UInt8} {f : FrB} (h : rdT L = some f) : L.length = szF f ∧ L.length ≤ 60 ∧ wfF f ∧ varsOk n L = isOfF n f := by
  unfold rdT at h
  split at h
  case isFalse => cases h
  rename_i h60
  cases h1 : rdF (L.length + 1) L with
  | none => rw [h1] at h; cases h
  | some p =>
    obtain ⟨g, l'⟩ := p
    rw [h1] at h
    cases l' with
    | nil =>
      cases h
      obtain ⟨a, e, h2, h3, h4⟩ := rdF_all n _ _ _ _ h1
      rw [List.append_nil] at e
      subst e
      exact ⟨h2, h60.2, h3, h4⟩
    | cons _ _ => cases h
theorem toF_c (c : UInt8) (ps : List FrB) : (toF (.mk c ps)).c = ((c.toNat : Nat) : Int) ∧ (toF (.mk c ps)).ps = toFs ps := by rw [toF]; exact ⟨rfl, rfl⟩
theorem i_variable_eq (c : UInt8) (ps : List FrB) : i_formula_variable K (toF (.mk c ps), ()) = some (varI ((c.toNat : Nat) : Int)) := by
  simp only [i_formula_variable]
  rw [(toF_c c ps).1, i_index_eq, some_bind']
theorem toFs_mid (p r : List FrB) (y : FrB) (d : Frm) : (toFs (p ++ y :: r)).getD ((p.length : Nat) : Int).toNat d = toF y := by
  rw [toFs_app, toFs, ← toFs_len p]; exact getD_midI _ _ _ _
theorem idx_frm_l (f : Frm × Unit → Option Bool) (g : FrB → Bool) (l : List FrB) (hl : l.length < 4611686018427387904) (kx : Option R) (kr : Int → Option R) : ∀ (r p : List FrB) (k : Nat), l = p ++ r → r.length < k → (∀ x ∈ r, f (toF x, ()) = some (g x)) →
    slices_IndexFunc_impl_formula_l2 K k (toFs l) f (l.length : Int) (p.length : Int) kx kr = match r.findIdx? g with | some j => kr ((p.length + j : Nat) : Int) | none => kx
  | _, _, 0, _, h, _ => by omega
  | [], p, k + 1, h, _, _ => by subst h; simp only [slices_IndexFunc_impl_formula_l2]; rw [ite_f nlt_len]; rfl
  | y :: r, p, k + 1, h, hk, hf => by
    subst h
    simp only [slices_IndexFunc_impl_formula_l2]
    rw [ite_t lt_len, ite_t (by rw [toFs_len]; exact bnds_mid), toFs_mid, hf y (by simp), some_bind', List.findIdx?_cons]
    cases hg : g y
    · rw [if_neg (by decide), if_neg (by decide), next_i hl, idx_frm_l f g _ hl kx kr r (p ++ [y]) k (mid_app p r y) (by simp at hk; omega) (fun x hx => hf x (by simp [hx]))]
      cases hr : r.findIdx? g
      · rfl
      · simp only [Option.map_some]; congr 1; simp; omega
    · rw [if_pos rfl, if_pos rfl]; rfl
theorem contains_frm_eq (f : Frm × Unit → Option Bool) (g : FrB → Bool) {l : List FrB} (hl : l.length < 4611686018427387904) (hK : 4611686018427387904 ≤ K) (hf : ∀ x ∈ l, f (toF x, ()) = some (g x)) :
    slices_ContainsFunc_impl_formula K (toFs l, f, ()) = some (l.any g) := by
  simp only [slices_ContainsFunc_impl_formula, slices_IndexFunc_impl_formula]
  have := idx_frm_l (K := K) f g l hl (some (-1 : Int)) (fun z => some z) l [] K rfl (by omega) hf
  simp only [List.length_nil, Nat.zero_add] at this
  rw [show ((0 : Nat) : Int) = 0 from rfl] at this
  rw [toFs_len, this, ← List.findIdx?_isSome]; cases l.findIdx? g <;> simp
theorem isOfL_any (n : Int) : ∀ l : List FrB, (!(l.any fun f => !isOfF n f)) = isOfL n l
  | [] => by rw [isOfL]; rfl
  | f :: l => by rw [isOfL, ← isOfL_any n l, List.any_cons, Bool.not_or, Bool.not_not]
theorem sz_mem : ∀ {l : List FrB} {f : FrB}, f ∈ l → szF f ≤ szL l
  | g :: l, f, h => by
    rw [szL]
    rcases List.mem_cons.1 h with rfl | h
    · omega
    · have := sz_mem h; omega
theorem len_sz : ∀ l : List FrB, l.length ≤ szL l
  | [] => Nat.zero_le _
  | .mk c ps :: l => by rw [szL, szF, List.length_cons]; have := len_sz l; omega
theorem isOf_eq (hK : 4611686018427387904 ≤ K) (n : Int) : ∀ (k : Nat) (f : FrB), szF f ≤ k → szF f < 4611686018427387904 → i_formula_isOf K (i_formula_isOf_c1 K k) (toF f, n, ()) = some (isOfF n f)
  | k, .mk c ps, h, hb => by
    rw [szF] at h hb
    have hl := len_sz ps
    simp only [i_formula_isOf]
    rw [i_variable_eq, some_bind', isOfF, (toF_c c ps).2]
    by_cases hv : varI ((c.toNat : Nat) : Int) < n
    · rw [ite_t (decide_eq_true hv), decide_eq_true hv, Bool.true_and, contains_frm_eq _ (fun f => !isOfF n f) (by omega) hK (fun x hx => ?_), some_bind', isOfL_any]
      match k, h, hb with
      | k + 1, h, hb =>
        have := sz_mem hx
        show i_formula_isOf_c1 K (k + 1) (toF x, n, ()) = _
        rw [i_formula_isOf_c1]
        simp only [i_formula_isOf_c1_b]
        rw [isOf_eq hK n k x (by omega) (by omega), some_bind']
    · rw [ite_f (decide_eq_false hv), decide_eq_false hv]; rfl
theorem i_gate_eq (c : UInt8) (h : 0 < plcI (c.toNat : Int)) : i_gate BKf ((c.toNat : Int), ()) = some (fN (gateB c).1 (gateB c).2) := by
  have hn : c.toNat = 33 ∨ c.toNat = 38 ∨ c.toNat = 124 ∨ c.toNat = 94 ∨ c.toNat = 63 ∨ c.toNat = 77 := by
    unfold plcI at h
    split at h
    · omega
    · split at h
      · omega
      · split at h
        · omega
        · split at h
          · omega
          · omega
  have e : c = UInt8.ofNat c.toNat := by simp
  rw [e]
  rcases hn with h | h | h | h | h | h <;> rw [h] <;> decide +kernel
theorem i_const_eq {n v : Nat} (hn : n ≤ 4) (hv : v ≤ 1) : i_constant K ((n : Int), (v : Int), ()) = some (fN n (if v = 0 then 0 else 2 ^ 2 ^ n - 1)) := by
  have hp : 2 ^ 2 ^ n ≤ 65536 := Nat.le_trans (Nat.pow_le_pow_right (by decide) (Nat.pow_le_pow_right (by decide) hn)) (show 2 ^ 2 ^ 4 ≤ 65536 by decide)
  have h1 : 0 < 2 ^ 2 ^ n := Nat.two_pow_pos _
  simp only [i_constant]
  rw [i_funcsOf_eq hn, some_bind']
  generalize 2 ^ 2 ^ n = q at hp h1
  rw [w64 (x := (q : Int) - 1) (by omega) (by omega)]
  have hv : v = 0 ∨ v = 1 := by omega
  rcases hv with rfl | rfl
  · rw [show ((q : Int) - 1) * ((0 : Nat) : Int) = 0 by simp]; rfl
  · rw [show ((q : Int) - 1) * ((1 : Nat) : Int) = (q : Int) - 1 by simp, w64 (by omega) (by omega), if_neg (by decide)]
    show some ((n : Int), (q : Int) - 1, ()) = some ((n : Int), ((q - 1 : Nat) : Int), ())
    rw [show (q : Int) - 1 = ((q - 1 : Nat) : Int) by omega]
theorem of_l7 {n : Nat} {r : (Frm × Int × Unit) → Option DF} (c : UInt8) (v4 : DF) (kx : Frm → Int → DF → List DF → Option R) (l : List FrB) (hr : ∀ f ∈ l, r (toF f, (n : Int), ()) = some (fN n (ofF n f))) (h100 : l.length ≤ 100) : ∀ (q p : List FrB) (acc : List Nat) (k : Nat), l = p ++ q → acc.length = p.length → q.length < k →
    i_formula_of_l7 K r k (toF (.mk c l)) (n : Int) v4 (fnsN n acc) (l.length : Int) (p.length : Int) kx = kx (toF (.mk c l)) (n : Int) v4 (fnsN n (acc ++ ofL n q))
  | _, _, _, 0, _, _, h => by omega
  | [], p, acc, k + 1, h, ha, _ => by
    subst h
    simp only [i_formula_of_l7]
    rw [ite_f nlt_len, ofL]
    simp only [List.append_nil]
  | y :: q, p, acc, k + 1, h, ha, hk => by
    subst h
    have hlim : (1099511627776 : Nat) = lim := rfl
    have hlen : (p ++ y :: q).length = p.length + (q.length + 1) := by simp
    have ih := of_l7 (n := n) c v4 kx (p ++ y :: q) hr h100 q (p ++ [y]) (acc ++ [ofF n y]) k (by simp) (by simp [ha]) (by simp at hk; omega)
    simp only [i_formula_of_l7]
    rw [(toF_c c _).2, ite_t lt_len, ite_t (by rw [toFs_len]; exact bnds_mid), toFs_mid, hr y (by simp), some_bind', ite_t (decide_eq_true (by rw [fns_len]; simp only [List.length_cons, List.length_nil]; omega)), fns_snoc, w64s (by omega), ← snoc_len p y, ih, ofL, List.append_assoc]; rfl
theorem wf_mem : ∀ {l : List FrB} {f : FrB}, wfL l → f ∈ l → wfF f
  | g :: l, f, h, hm => by
    rw [wfL] at h
    rcases List.mem_cons.1 hm with rfl | hm
    · exact h.1
    · exact wf_mem h.2 hm
theorem i_of_eq {n : Nat} (hn : n ≤ 4) : ∀ (k : Nat) (f : FrB), szF f < k → wfF f → i_formula_of BKf k (toF f, (n : Int), ()) = some (fN n (ofF n f))
  | 0, f, h, _ => by omega
  | k + 1, .mk c ps, h, hw => by
    rw [szF] at h
    rw [wfF] at hw
    obtain ⟨hw1, hw2⟩ := hw
    have hK := BKf_ge
    have hc : c.toNat < 256 := c.toNat_lt
    have hp : 2 ^ 2 ^ n ≤ 65536 := Nat.le_trans (Nat.pow_le_pow_right (by decide) (Nat.pow_le_pow_right (by decide) hn)) (show 2 ^ 2 ^ 4 ≤ 65536 by decide)
    rw [i_formula_of]
    simp only [i_formula_of_b]
    rw [i_variable_eq, some_bind', ofF, (toF_c c ps).1]
    by_cases hv : 97 ≤ c.toNat ∧ c.toNat ≤ 100
    · have e : varI ((c.toNat : Nat) : Int) = ((c.toNat - 97 : Nat) : Int) := by
        rw [varI, if_pos (by omega)]; omega
      have z : plcI ((c.toNat : Nat) : Int) = 0 := by
        rw [plcI, if_pos (by omega)]
      rw [e, ite_t (decide_eq_true (by omega)), some_bind', i_projection_eq hn hK, some_bind', if_pos z, leafB, if_neg (fun e => by rw [e] at hv; exact absurd hv (by decide)), if_neg (fun e => by rw [e] at hv; exact absurd hv (by decide))]
    · have e : varI ((c.toNat : Nat) : Int) = -1 := by rw [varI, if_neg (by omega)]
      rw [e, ite_f (by rfl)]
      by_cases c0 : ((c.toNat : Nat) : Int) = 48
      · have hc0 : c = 48 := UInt8.toNat_inj.1 (by show c.toNat = 48; omega)
        rw [ite_t (decide_eq_true c0)]
        simp only [i_formula_of_j4, gN_eq]
        rw [(toF_c c ps).1, c0, show IntKind.i64.wrap (IntKind.u8.wrap ((48 : Int) - 48)) = ((0 : Nat) : Int) by decide, i_const_eq hn (by decide), some_bind', hc0]
        rw [if_pos (by decide), leafB, if_pos rfl]; rfl
      · rw [ite_f (decide_eq_false c0)]
        by_cases c1 : ((c.toNat : Nat) : Int) = 49
        · have hc1 : c = 49 := UInt8.toNat_inj.1 (by show c.toNat = 49; omega)
          rw [ite_t (decide_eq_true c1)]
          simp only [i_formula_of_j4, gN_eq]
          rw [(toF_c c ps).1, c1, show IntKind.i64.wrap (IntKind.u8.wrap ((49 : Int) - 48)) = ((1 : Nat) : Int) by decide, i_const_eq hn (by decide), some_bind', hc1]
          show some (fN n (2 ^ 2 ^ n - 1)) = _
          rw [if_pos (show plcI 49 = 0 by decide), leafB, if_neg (by decide), if_pos rfl]
        · rw [ite_f (decide_eq_false c1)]
          have z : ¬ plcI ((c.toNat : Nat) : Int) = 0 := by
            intro z
            unfold plcI at z
            split at z
            · omega
            · split at z
              · omega
              · split at z
                · omega
                · split at z <;> omega
          have hlt := plcI_lt ((c.toNat : Nat) : Int)
          simp only [i_formula_of_j5]
          rw [(toF_c c ps).2, toFs_len]
          refine (of_l7 (K := BKf) (n := n) (r := i_formula_of BKf k) c _ _ ps (fun f hf => i_of_eq hn k f (by have := sz_mem hf; omega) (wf_mem hw2 hf)) (by omega) ps [] [] BKf rfl rfl (by omega)).trans ?_
          rw [List.nil_append, (toF_c c ps).1, i_gate_eq c (by omega), some_bind', if_neg z]
          have := i_Func_put_eq (K := BKf) (a := (gateB c).1) (m := n) (gate_lt c) hn (ofL n ps) (by rw [ofL_len]; omega) (fun x hx => Nat.lt_of_lt_of_le (ofL_lt n ps x hx) hp) hK
          rw [this, some_bind']
theorem i_fof_eq (n : Int) {t : ByteArray} (hs : t.size < 4611686018427387903) : i_FuncOfFormula BKf (n, t, ()) = some (fofV n t.data.toList) := by
  have hK := BKf_ge
  have hBK : BKf = 9223372036854775808 := rfl
  simp only [i_FuncOfFormula]
  rw [fofV]
  cases hr : rdT t.data.toList with
  | none =>
    obtain ⟨v, hv⟩ := parse_none (K := BKf) (by omega) hr
    rw [hv, some_bind', ite_t (by rfl)]
  | some f =>
    obtain ⟨h1, h2, h3, h4⟩ := rdT_all n hr
    rw [parse_some (by omega) hr, some_bind', ite_f (by rfl)]
    simp only [i_isArity, i_within_eq, some_bind']
    rw [frV_mk]
    by_cases hn : 0 ≤ n ∧ n ≤ 4
    · rw [decide_eq_true hn.1, decide_eq_true hn.2, ite_f (by rfl), if_pos hn]
      have hiK := isOf_eq (K := BKf) hK n BKf f (by omega) (by omega)
      rw [hiK, some_bind', ← h4]
      cases hv : varsOk n t.data.toList
      · rw [ite_t (by rfl)]; rfl
      · obtain ⟨m, rfl⟩ := Int.eq_ofNat_of_zero_le hn.1
        rw [ite_f (by rfl), i_of_eq (by omega) BKf f (by omega) h3, some_bind', Int.toNat_natCast]; rfl
    · rw [ite_t (by
        by_cases h2 : 0 ≤ n
        · rw [decide_eq_true h2, decide_eq_false (fun h => hn ⟨h2, h⟩)]; rfl
        · rw [decide_eq_false h2]; rfl), if_neg hn]
end Go.Proofs.Ytefmjjpdflpnaaa.E
namespace Go.Proofs.Ytefmjjpdflpnaaa.E
open Go Go.Proofs Go.Proofs.Ytefmjjpdflpnaaa
set_option maxRecDepth 100000
set_option linter.unusedVariables false
noncomputable def as_w_eqFunc : Ty := (.pair tq0 (.pair tq0 .unit))
noncomputable def sp_w_eqFunc (F : (dq0 × dq0 × Unit) → Option Bool) : FnSpec := ⟨as_w_eqFunc, [false, false], .bool, F⟩
noncomputable def w_eqFunc (K : Nat) (x : (dq0 × dq0 × Unit)) : Option Bool :=
    (if (!decide (x.1.1 = x.2.1.1)) = true then
    some false
    else
    (if (!decide (x.1.2.1 = x.2.1.2.1)) = true then
    some false
    else
    some true))
noncomputable def rv_w_eqFunc : Lv := [(4, (.v .bool))]
theorem ok_w_eqFunc (K : Nat) : FnOk Try.prog 7 (sp_w_eqFunc (w_eqFunc K)) :=
  fn_okD tysOk [] 0 [] [] rv_w_eqFunc K Try.func7 (by kernel_rfl) trivial (fun _ => by kernel_rfl)
noncomputable def C_w_eqFunc (K : Nat) : CB Try.prog := .f _ _ (ok_w_eqFunc K)
noncomputable def as_w_FnExactFuncOfFormula : Ty := (.pair (.int .i64) (.pair .str .unit))
noncomputable def sp_w_FnExactFuncOfFormula (F : (Int × ByteArray × Unit) → Option Bool) : FnSpec := ⟨as_w_FnExactFuncOfFormula, [false, false], .bool, F⟩
noncomputable def w_FnExactFuncOfFormula (K : Nat) (x : (Int × ByteArray × Unit)) : Option Bool :=
    (if (decide ((x.2.1.size : Int) > (1048576 : Int))) = true then
    some true
    else
    (s_FuncOfFormula K (x.1, x.2.1, ())).bind fun y1 =>
    (i_FuncOfFormula K (x.1, x.2.1, ())).bind fun y2 =>
    (w_eqFunc K (y2.1, y1.1, ())).bind fun y3 =>
    (if (!y3) = true then
    some false
    else
    (if (!decide (y2.2.1 = y1.2.1)) = true then
    some false
    else
    some true)))
noncomputable def rv_w_FnExactFuncOfFormula : Lv := [(4, (.v .bool))]
theorem ok_w_FnExactFuncOfFormula (K : Nat) : FnOk Try.prog 3 (sp_w_FnExactFuncOfFormula (w_FnExactFuncOfFormula K)) :=
  fn_okD tysOk [C_s_FuncOfFormula K, C_i_FuncOfFormula K, C_w_eqFunc K] 0 [] [] rv_w_FnExactFuncOfFormula K Try.func3 (by kernel_rfl) trivial (fun _ => by kernel_rfl)
end Go.Proofs.Ytefmjjpdflpnaaa.E
namespace Go.Proofs.Ytefmjjpdflpnaaa.E
open Go Go.Proofs
set_option linter.unusedVariables false
set_option linter.unusedSimpArgs false
set_option maxRecDepth 100000
theorem law_FuncOfFormula (n : Int) (t : ByteArray) : w_FnExactFuncOfFormula BKf (n, t, ()) = some true := by
  simp only [w_FnExactFuncOfFormula]
  by_cases h : ((t.size : Nat) : Int) > 1048576
  · rw [ite_t (decide_eq_true h)]
  · rw [ite_f (decide_eq_false h), s_fof_eq n (by omega), some_bind', i_fof_eq n (by omega), some_bind']
    simp [w_eqFunc]
end Go.Proofs.Ytefmjjpdflpnaaa.E
namespace Go.Proofs.Ytefmjjpdflpnaaa.E
open Go Go.Proofs
/-- FnExactFuncOfFormula, in plain numbers and lists: no condition but what is known of all data. -/
theorem PuFnExactFuncOfFormula (x : den as_w_FnExactFuncOfFormula) (h : okD as_w_FnExactFuncOfFormula x) : ∃ K, w_FnExactFuncOfFormula K x = some true := by
  obtain ⟨n, t, u⟩ := x
  exact ⟨BKf, law_FuncOfFormula n t⟩
end Go.Proofs.Ytefmjjpdflpnaaa.E
