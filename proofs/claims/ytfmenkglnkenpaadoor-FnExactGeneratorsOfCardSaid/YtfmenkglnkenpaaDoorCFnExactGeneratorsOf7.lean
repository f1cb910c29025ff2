/-
  What the Go functions that FnExactGeneratorsOf reaches hand back, each as a plain function with a proof that the call does so, and plain lemmas on them. Conditions: those of each theorem.
-/
import Derived.Test.YtfmenkglnkenpaaDoorCFnExactGeneratorsOf6
namespace Go.Proofs.YtfmenkglnkenpaaDoor.E
open Go Go.Proofs Go.Proofs.YtfmenkglnkenpaaDoor
set_option maxRecDepth 100000
set_option linter.unusedVariables false
noncomputable def as_s_l02In : Ty := (.pair tq0 (.pair (.int .i64) .unit))
noncomputable def sp_s_l02In (F : (dq0 × Int × Unit) → Option Bool) : FnSpec := ⟨as_s_l02In, [false, false], .bool, F⟩
noncomputable def s_l02In_l9 {R : Type} (K : Nat) : Nat → dq0 → Int → Int → (Option R) → (Bool → Option R) → Option R
  | 0, _, _, _, _, _ => none
  | k + 1, v2, v5, v6, kx1, kr =>
    (if (decide (v6 < v5)) = true then
    (s_l01At K (v2, v6, ())).bind fun y4 =>
    let x5 := (IntKind.i64.wrap ((IntKind.i64.wrap (v5 - (1 : Int))) - v6))
    (s_l01At K (v2, x5, ())).bind fun y6 =>
    (if (decide (y4 = y6)) = true then
    kr false
    else
    s_l02In_l9 K k v2 v5 (IntKind.i64.wrap (v6 + (1 : Int))) kx1 kr)
    else
    kx1)
noncomputable def s_l02In_l19 {R : Type} (K : Nat) : Nat → dq0 → Int → Int → Int → (dq0 → Int → Int → Option R) → (Bool → Option R) → Option R
  | 0, _, _, _, _, _, _ => none
  | k + 1, v2, v5, v7, v8, kx5, kr =>
    (if (decide (v8 < v2.1)) = true then
    (if (decide ((0 : Int) ≤ (IntKind.u64.wrap v8))) = true then
    let x8 := (bitI .and .i64 v7 (shlI .i64 (1 : Int) (IntKind.u64.wrap v8)))
    (if (decide (x8 = (0 : Int))) = true then
    (s_l01At K (v2, v7, ())).bind fun y9 =>
    (if (decide (y9 = (1 : Int))) = true then
    let x10 := (bitI .or .i64 v7 (shlI .i64 (1 : Int) (IntKind.u64.wrap v8)))
    (s_l01At K (v2, x10, ())).bind fun y11 =>
    (if (decide (y11 = (0 : Int))) = true then
    kr false
    else
    s_l02In_l19 K k v2 v5 v7 (IntKind.i64.wrap (v8 + (1 : Int))) kx5 kr)
    else
    s_l02In_l19 K k v2 v5 v7 (IntKind.i64.wrap (v8 + (1 : Int))) kx5 kr)
    else
    s_l02In_l19 K k v2 v5 v7 (IntKind.i64.wrap (v8 + (1 : Int))) kx5 kr)
    else
    none)
    else
    kx5 v2 v5 v7)
noncomputable def s_l02In_l16 {R : Type} (K : Nat) : Nat → dq0 → Int → Int → (Option R) → (Bool → Option R) → Option R
  | 0, _, _, _, _, _ => none
  | k + 1, v2, v5, v7, kx3, kr =>
    (if (decide (v7 < v5)) = true then
    s_l02In_l19 K k v2 v5 v7 (0 : Int) (fun z12 z13 z14 =>
    s_l02In_l16 K k z12 z13 (IntKind.i64.wrap (z14 + (1 : Int))) kx3 kr) (fun z15 =>
    kr z15)
    else
    kx3)
noncomputable def s_l02In_l31 {R : Type} (K : Nat) : Nat → dq0 → Int → Int → Int → Bool → Int → (dq0 → Int → Int → Option R) → (Bool → Option R) → Option R
  | 0, _, _, _, _, _, _, _, _ => none
  | k + 1, v2, v5, v10, v11, v12, v13, kx9, kr =>
    (if (decide (v13 < v5)) = true then
    (s_l01At K (v2, v13, ())).bind fun y19 =>
    (s_l01At K (v2, (bitI .xor .i64 v13 v11), ())).bind fun y20 =>
    (if (!((!decide (y19 = y20)) == v12)) = true then
    kr false
    else
    s_l02In_l31 K k v2 v5 v10 v11 v12 (IntKind.i64.wrap (v13 + (1 : Int))) kx9 kr)
    else
    kx9 v2 v5 v10)
noncomputable def s_l02In_l26 {R : Type} (K : Nat) : Nat → dq0 → Int → Int → (Option R) → (Bool → Option R) → Option R
  | 0, _, _, _, _, _ => none
  | k + 1, v2, v5, v10, kx7, kr =>
    (if (decide (v10 < v2.1)) = true then
    (if (decide ((0 : Int) ≤ (IntKind.u64.wrap v10))) = true then
    (s_l01At K (v2, (0 : Int), ())).bind fun y17 =>
    (s_l01At K (v2, (shlI .i64 (1 : Int) (IntKind.u64.wrap v10)), ())).bind fun y18 =>
    s_l02In_l31 K k v2 v5 v10 (shlI .i64 (1 : Int) (IntKind.u64.wrap v10)) (!decide (y17 = y18)) (0 : Int) (fun z21 z22 z23 =>
    s_l02In_l26 K k z21 z22 (IntKind.i64.wrap (z23 + (1 : Int))) kx7 kr) (fun z24 =>
    kr z24)
    else
    none)
    else
    kx7)
noncomputable def s_l02In (K : Nat) (x : (dq0 × Int × Unit)) : Option Bool :=
    (s_l01Rows K (x.1.1, ())).bind fun y1 =>
    (if (decide (x.2.1 = (0 : Int))) = true then
    (s_l01At K (x.1, (0 : Int), ())).bind fun y2 =>
    some (decide (y2 = (0 : Int)))
    else
    (if (decide (x.2.1 = (1 : Int))) = true then
    (s_l01At K (x.1, (IntKind.i64.wrap (y1 - (1 : Int))), ())).bind fun y3 =>
    some (decide (y3 = (1 : Int)))
    else
    (if (decide (x.2.1 = (2 : Int))) = true then
    s_l02In_l9 K K x.1 y1 (0 : Int) (some true) (fun z7 =>
    some z7)
    else
    (if (decide (x.2.1 = (3 : Int))) = true then
    s_l02In_l16 K K x.1 y1 (0 : Int) (some true) (fun z16 =>
    some z16)
    else
    s_l02In_l26 K K x.1 y1 (0 : Int) (some true) (fun z25 =>
    some z25)))))
noncomputable def X1_s_l02In : Lv := []
noncomputable def X3_s_l02In : Lv := []
noncomputable def X5_s_l02In : Lv := [(2, (.bx (.v tq0))), (5, (.v (.int .i64))), (7, (.v (.int .i64)))]
noncomputable def X7_s_l02In : Lv := []
noncomputable def X9_s_l02In : Lv := [(2, (.bx (.v tq0))), (5, (.v (.int .i64))), (10, (.v (.int .i64)))]
noncomputable def rv_s_l02In : Lv := [(4, (.v .bool))]
noncomputable def D_s_l02In (K : Nat) : List (PD (den .bool)) := [.L 9 [(2, (.bx (.v tq0))), (5, (.v (.int .i64))), (6, (.v (.int .i64)))] [] (fun k x kx kr => s_l02In_l9 K k x.1 x.2.1 x.2.2.1 (kx 1 (mkSt X1_s_l02In ())) (fun z0 => kr (mkSt rv_s_l02In (z0, ())))),
  .L 16 [(2, (.bx (.v tq0))), (5, (.v (.int .i64))), (7, (.v (.int .i64)))] [] (fun k x kx kr => s_l02In_l16 K k x.1 x.2.1 x.2.2.1 (kx 3 (mkSt X3_s_l02In ())) (fun z0 => kr (mkSt rv_s_l02In (z0, ())))),
  .L 19 [(2, (.bx (.v tq0))), (5, (.v (.int .i64))), (7, (.v (.int .i64))), (8, (.v (.int .i64)))] [] (fun k x kx kr => s_l02In_l19 K k x.1 x.2.1 x.2.2.1 x.2.2.2.1 (fun z0 z1 z2 => kx 5 (mkSt X5_s_l02In (z0, z1, z2, ()))) (fun z0 => kr (mkSt rv_s_l02In (z0, ())))),
  .L 26 [(2, (.bx (.v tq0))), (5, (.v (.int .i64))), (10, (.v (.int .i64)))] [] (fun k x kx kr => s_l02In_l26 K k x.1 x.2.1 x.2.2.1 (kx 7 (mkSt X7_s_l02In ())) (fun z0 => kr (mkSt rv_s_l02In (z0, ())))),
  .L 31 [(2, (.bx (.v tq0))), (5, (.v (.int .i64))), (10, (.v (.int .i64))), (11, (.v (.int .i64))), (12, (.v .bool)), (13, (.v (.int .i64)))] [] (fun k x kx kr => s_l02In_l31 K k x.1 x.2.1 x.2.2.1 x.2.2.2.1 x.2.2.2.2.1 x.2.2.2.2.2.1 (fun z0 z1 z2 => kx 9 (mkSt X9_s_l02In (z0, z1, z2, ()))) (fun z0 => kr (mkSt rv_s_l02In (z0, ()))))]
theorem ok_s_l02In (K : Nat) : FnOk Tryd.prog 55 (sp_s_l02In (s_l02In K)) :=
  fn_okD tysOk [C_s_l01Rows K, C_s_l01At K] 0 (D_s_l02In K) [(1, X1_s_l02In), (3, X3_s_l02In), (5, X5_s_l02In), (7, X7_s_l02In), (9, X9_s_l02In)] rv_s_l02In K Tryd.func55 (by kernel_rfl) ⟨⟨fun _ _ _ _ => by kernel_rfl, fun _ _ _ => rfl⟩, ⟨⟨fun _ _ _ _ => by kernel_rfl, fun _ _ _ => rfl⟩, ⟨⟨fun _ _ _ _ => by kernel_rfl, fun _ _ _ => rfl⟩, ⟨⟨fun _ _ _ _ => by kernel_rfl, fun _ _ _ => rfl⟩, ⟨⟨fun _ _ _ _ => by kernel_rfl, fun _ _ _ => rfl⟩, trivial⟩⟩⟩⟩⟩ (fun _ => by kernel_rfl)
noncomputable def C_s_l02In (K : Nat) : CB Tryd.prog := .f _ _ (ok_s_l02In K)
end Go.Proofs.YtfmenkglnkenpaaDoor.E
namespace Go.Proofs.YtfmenkglnkenpaaDoor.E
open Go Go.Proofs
set_option linter.unusedVariables false
set_option linter.unusedSimpArgs false
variable {K : Nat} {R : Type}
/-! loops that ask something of each number; the classes, as the program and the spec compute them -/
theorem lpA {L : Nat → Nat → Option R} {p : Nat → Bool} {N B : Nat} {kx kf : Option R} (stop : ∀ k, L (k + 1) N = kx) (step : ∀ k i, B ≤ k → i < N → L (k + 1) i = if p i = true then L k (i + 1) else kf) :
    ∀ (d i k : Nat), i + d = N → B + d < k → L k i = if allR p i d = true then kx else kf
  | d, i, 0, _, h => by omega
  | 0, i, k + 1, e, h => by obtain rfl : i = N := by omega
                            rw [stop]; rfl
  | d + 1, i, k + 1, e, h => by
    rw [step k i (by omega) (by omega), allR]
    cases hp : p i
    · rfl
    · rw [ite_t rfl, Bool.true_and]; exact lpA stop step d (i + 1) k (by omega) (by omega)
theorem p16 {n : Nat} (hn : n ≤ 4) : 2 ^ n ≤ 16 := Nat.pow_le_pow_right (by decide) hn
theorem or_lt16 {a i : Nat} (h : a < 16) (hi : i < 4) : a ||| 2 ^ i < 16 := Nat.or_lt_two_pow (n := 4) h (Nat.lt_of_lt_of_le (Nat.pow_lt_pow_right (by decide) hi) (Nat.le_refl _))
theorem p8 {i : Nat} (hi : i < 4) : 2 ^ i ≤ 8 := Nat.pow_le_pow_right (n := 2) (by decide) (by omega : i ≤ 3)
theorem bt_gt (b r s : Nat) : decide (bt b r > bt b s) = (b.testBit r && !b.testBit s) := by unfold bt; cases b.testBit r <;> cases b.testBit s <;> rfl
theorem ite_not {c : Bool} {α : Type} {a b : α} : (if (!c) = true then a else b) = if c = true then b else a := by cases c <;> rfl
theorem imono_l5 {n b r : Nat} {u : Unit} (hn : n ≤ 4) (hb : b < 9223372036854775808) (hr : r < 16) (v6 v7 : Int) (kx2 : (Int × Int × Unit) → Int → Int → Option R) (kr : Bool → Option R) (k : Nat) (hk : n < k) :
    i_Func_isMonotone_l5 K k ((n : Int), (b : Int), u) (r : Int) v6 v7 (n : Int) 0 kx2 kr = if allR (fun i => !(b.testBit r && !b.testBit (r ||| 2 ^ i))) 0 n = true then kx2 ((n : Int), (b : Int), u) v6 v7 else kr false := by
  refine lpA (L := fun k i => i_Func_isMonotone_l5 K k ((n : Int), (b : Int), u) (r : Int) v6 v7 (n : Int) (i : Int) kx2 kr) (N := n) (B := 0) (fun k => ?_) (fun k i _ hi => ?_) n 0 k (by omega) (by omega)
  · simp only [i_Func_isMonotone_l5]; rw [ite_f (decide_eq_false (by omega))]
  · have h8 := p8 (show i < 4 by omega)
    simp only [i_Func_isMonotone_l5]
    rw [ite_t (decide_eq_true (by omega)), i_Func_at_eq _ hb, some_bind', ite_t (nn _), shl1 (by omega), bitI_or (by omega) (by omega), i_Func_at_eq _ hb, some_bind', w64s (by omega), bt_gt, ite_not]
theorem imono_eq {n b : Nat} {u : Unit} (hn : n ≤ 4) (hb : b < 9223372036854775808) (hK : 100 ≤ K) : i_Func_isMonotone K (((n : Int), (b : Int), u), ()) = some (monoI n b) := by
  have hp := p16 hn
  simp only [i_Func_isMonotone]
  rw [i_Func_rows_eq _ (by omega), some_bind']
  refine (lpA (L := fun k i => i_Func_isMonotone_l2 K k ((n : Int), (b : Int), u) ((2 ^ n : Nat) : Int) (i : Int) (some true) (fun z8 => some z8)) (N := 2 ^ n) (B := 10) (kx := some true) (kf := some false) (p := fun r => allR (fun i => !(b.testBit r && !b.testBit (r ||| 2 ^ i))) 0 n) (fun k => ?_) (fun k i hB hi => ?_) (2 ^ n) 0 K (by omega) (by omega)).trans ?_
  · simp only [i_Func_isMonotone_l2]; rw [ite_f (decide_eq_false (by omega))]
  · simp only [i_Func_isMonotone_l2]
    rw [ite_t (decide_eq_true (by omega)), imono_l5 hn hb (by omega) _ _ _ _ k (by omega), w64s (by omega)]
  · rw [monoI]; cases allR (fun r => allR (fun i => !(b.testBit r && !b.testBit (r ||| 2 ^ i))) 0 n) 0 (2 ^ n) <;> rfl
theorem iaff_l16 {n b r : Nat} {u : Unit} (hn : n ≤ 4) (hb : b < 9223372036854775808) (hr : r < 16) (v40 v41 : Int) (kx3 : (Int × Int × Unit) → Int → Int → Int → Int → Option R) :
    ∀ (d i k : Nat) (x : Bool), i + d = n → d < k → i_Func_isIn_l16 K k ((n : Int), (b : Int), u) (r : Int) (if xor x (linR (fun i => xor (b.testBit 0) (b.testBit (2 ^ i))) r i) then 1 else 0) v40 v41 (n : Int) (i : Int) kx3 =
      kx3 ((n : Int), (b : Int), u) (r : Int) (if xor x (linR (fun i => xor (b.testBit 0) (b.testBit (2 ^ i))) r n) then 1 else 0) v40 v41
  | d, i, 0, x, _, h => by omega
  | 0, i, k + 1, x, e, h => by
    obtain rfl : i = n := by omega
    simp only [i_Func_isIn_l16]; rw [ite_f (decide_eq_false (by omega))]
  | d + 1, i, k + 1, x, e, h => by
    have h8 := p8 (show i < 4 by omega)
    have hx : ∀ a c : Bool, bitI .xor .i64 (if a = true then (1 : Int) else 0) (if c = true then (1 : Int) else 0) = if xor a c = true then 1 else 0 := by decide
    have ha : ∀ a c : Bool, bitI .and .i64 (if a = true then (1 : Int) else 0) (if c = true then (1 : Int) else 0) = if (a && c) = true then 1 else 0 := by decide
    simp only [i_Func_isIn_l16]
    rw [ite_t (decide_eq_true (by omega)), i_bit_eq _ (by omega), some_bind', show ((0 : Int)) = ((0 : Nat) : Int) from rfl, i_Func_at_eq _ hb, some_bind', show (((0 : Nat) : Int)) = 0 from rfl, ite_t (nn _), shl1 (by omega), i_Func_at_eq _ hb, some_bind', w64s (by omega)]
    simp only [bt, hx, ha]
    have := iaff_l16 (u := u) hn hb hr v40 v41 kx3 d (i + 1) k x (by omega) (by omega)
    rw [linR] at this
    rw [← this]
    congr 2
    cases x <;> cases linR (fun i => xor (b.testBit 0) (b.testBit (2 ^ i))) r i <;> cases r.testBit i <;> cases b.testBit 0 <;> cases b.testBit (2 ^ i) <;> rfl
theorem iaff_l12 {n b : Nat} {u : Unit} (hn : n ≤ 4) (hb : b < 9223372036854775808) (kx1 : Option R) (kr : Bool → Option R) (k : Nat) (hk : 100 ≤ k) :
    i_Func_isIn_l12 K k ((n : Int), (b : Int), u) ((2 ^ n : Nat) : Int) 0 kx1 kr = if affI n b = true then kx1 else kr false := by
  have hp := p16 hn
  refine lpA (L := fun k i => i_Func_isIn_l12 K k ((n : Int), (b : Int), u) ((2 ^ n : Nat) : Int) (i : Int) kx1 kr) (N := 2 ^ n) (B := 10) (fun k => ?_) (fun k i hB hi => ?_) (2 ^ n) 0 k (by omega) (by omega)
  · simp only [i_Func_isIn_l12]; rw [ite_f (decide_eq_false (by omega))]
  · have h := iaff_l16 (u := u) (K := K) hn hb (show i < 16 by omega) ((2 ^ n : Nat) : Int) (i : Int) (fun z12 z13 z14 z15 z16 => (i_Func_at K (z12, z13, ())).bind fun y17 => (if (!decide (z14 = y17)) = true then kr false else i_Func_isIn_l12 K k z12 z15 (IntKind.i64.wrap (z16 + (1 : Int))) kx1 kr)) n 0 k (b.testBit 0) (by omega) (by omega)
    simp only [linR, Bool.xor_false] at h
    simp only [i_Func_isIn_l12]
    rw [ite_t (decide_eq_true (by omega)), show ((0 : Int)) = ((0 : Nat) : Int) from rfl, i_Func_at_eq _ hb, some_bind', show bt b 0 = if b.testBit 0 = true then 1 else 0 from rfl, h, i_Func_at_eq _ hb, some_bind', w64s (by omega), ite_not]
    congr 1
    rw [bt, Bool.eq_iff_iff, decide_eq_true_eq, beq_iff_eq]
    cases xor (b.testBit 0) (linR (fun i => xor (b.testBit 0) (b.testBit (2 ^ i))) i n) <;> cases b.testBit i <;> simp
/-- Is a function in a class? -/
def inC (n b k : Nat) : Bool := match k with
  | 0 => !b.testBit 0
  | 1 => b.testBit (2 ^ n - 1)
  | 2 => dualI n b
  | 3 => monoI n b
  | _ => affI n b
theorem i_isIn_eq {n b k : Nat} (hn : n ≤ 4) (hb : b < 2 ^ 2 ^ n) (hk : k < 5) (hK : 4611686018427387904 ≤ K) : i_Func_isIn K (((n : Int), (b : Int), ()), (k : Int), ()) = some (inC n b k) := by
  have hp := p16 hn
  have hb2 := b4 hn hb
  have h1 : 1 ≤ 2 ^ n := Nat.one_le_two_pow
  simp only [i_Func_isIn]
  rw [i_Func_rows_eq _ (by omega), some_bind']
  match k, hk with
  | 0, _ => rw [ite_t (decide_eq_true (by omega)), show ((0 : Int)) = ((0 : Nat) : Int) from rfl, i_Func_at_eq _ (by omega), some_bind']; exact congrArg some (bt_dec0 b 0)
  | 1, _ => rw [ite_f (decide_eq_false (by omega)), ite_t (decide_eq_true (by omega)), w64 (by omega) (by omega), show ((2 ^ n : Nat) : Int) - 1 = ((2 ^ n - 1 : Nat) : Int) by omega, i_Func_at_eq _ (by omega), some_bind']; exact congrArg some (bt_dec b _)
  | 2, _ =>
    rw [ite_f (decide_eq_false (by omega)), ite_f (decide_eq_false (by omega)), ite_t (decide_eq_true (by omega)), inC, dualI]
    by_cases h0 : 0 < n
    · rw [ite_t (decide_eq_true (by omega)), i_Func_dual_eq hn (by omega) hK, some_bind', decide_eq_true h0, Bool.true_and, eqD_F]
    · rw [ite_f (decide_eq_false (by omega)), decide_eq_false h0]; rfl
  | 3, _ => rw [ite_f (decide_eq_false (by omega)), ite_f (decide_eq_false (by omega)), ite_f (decide_eq_false (by omega)), ite_t (decide_eq_true (by omega)), imono_eq hn (by omega) (by omega)]; rfl
  | 4, _ =>
    rw [ite_f (decide_eq_false (by omega)), ite_f (decide_eq_false (by omega)), ite_f (decide_eq_false (by omega)), ite_f (decide_eq_false (by omega)), some_bind', iaff_l12 hn (by omega) _ _ K (by omega), show inC n b 4 = affI n b from rfl]
    cases affI n b <;> rfl
theorem sdual_l9 {n b : Nat} {u : Unit} (hn : n ≤ 4) (hb : b < 9223372036854775808) (kx1 : Option R) (kr : Bool → Option R) (k : Nat) (hk : 100 ≤ k) :
    s_l02In_l9 K k ((n : Int), (b : Int), u) ((2 ^ n : Nat) : Int) 0 kx1 kr = if dualS n b = true then kx1 else kr false := by
  have hp := p16 hn
  refine lpA (L := fun k i => s_l02In_l9 K k ((n : Int), (b : Int), u) ((2 ^ n : Nat) : Int) (i : Int) kx1 kr) (N := 2 ^ n) (B := 10) (fun k => ?_) (fun k i hB hi => ?_) (2 ^ n) 0 k (by omega) (by omega)
  · simp only [s_l02In_l9]; rw [ite_f (decide_eq_false (by omega))]
  · simp only [s_l02In_l9]
    rw [ite_t (decide_eq_true (by omega)), s_l01At_eq hb (by omega), some_bind', w64 (show -9223372036854775808 ≤ ((2 ^ n : Nat) : Int) - 1 by omega) (by omega), w64 (by omega) (by omega), show ((2 ^ n : Nat) : Int) - 1 - (i : Int) = ((2 ^ n - 1 - i : Nat) : Int) by omega, s_l01At_eq hb (by omega), some_bind', w64s (by omega), ite_not]
    have : decide (bt b i = bt b (2 ^ n - 1 - i)) = (b.testBit i == b.testBit (2 ^ n - 1 - i)) := by unfold bt; cases b.testBit i <;> cases b.testBit (2 ^ n - 1 - i) <;> rfl
    rw [this]
theorem smono_l19 {n b r : Nat} {u : Unit} (hn : n ≤ 4) (hb : b < 9223372036854775808) (hr : r < 16) (v5 : Int) (kx5 : (Int × Int × Unit) → Int → Int → Option R) (kr : Bool → Option R) (k : Nat) (hk : n < k) :
    s_l02In_l19 K k ((n : Int), (b : Int), u) v5 (r : Int) 0 kx5 kr = if allR (fun i => !((r &&& 2 ^ i == 0) && b.testBit r && !b.testBit (r ||| 2 ^ i))) 0 n = true then kx5 ((n : Int), (b : Int), u) v5 (r : Int) else kr false := by
  refine lpA (L := fun k i => s_l02In_l19 K k ((n : Int), (b : Int), u) v5 (r : Int) (i : Int) kx5 kr) (N := n) (B := 0) (fun k => ?_) (fun k i _ hi => ?_) n 0 k (by omega) (by omega)
  · simp only [s_l02In_l19]; rw [ite_f (decide_eq_false (by omega))]
  · have h8 := p8 (show i < 4 by omega)
    simp only [s_l02In_l19]
    rw [ite_t (decide_eq_true (by omega)), ite_t (u64_dec _), u64n (by omega), shl1 (by omega), bitI_and (by omega) (by omega), bitI_or (by omega) (by omega), w64s (by omega)]
    have e0 : decide (((r &&& 2 ^ i : Nat) : Int) = 0) = (r &&& 2 ^ i == 0) := by rw [Bool.eq_iff_iff]; simp
    rw [e0]
    cases h0 : (r &&& 2 ^ i == 0)
    · rw [ite_f rfl]; rfl
    · rw [ite_t rfl, s_l01At_eq hb (by omega), some_bind', bt_dec]
      cases h1 : b.testBit r
      · rw [ite_f rfl]; rfl
      · rw [ite_t rfl, s_l01At_eq hb (by have := or_lt16 hr (show i < 4 by omega); omega), some_bind', bt_dec0]
        cases b.testBit (r ||| 2 ^ i) <;> rfl
theorem smono_l16 {n b : Nat} {u : Unit} (hn : n ≤ 4) (hb : b < 9223372036854775808) (kx3 : Option R) (kr : Bool → Option R) (k : Nat) (hk : 100 ≤ k) :
    s_l02In_l16 K k ((n : Int), (b : Int), u) ((2 ^ n : Nat) : Int) 0 kx3 kr = if monoS n b = true then kx3 else kr false := by
  have hp := p16 hn
  refine lpA (L := fun k i => s_l02In_l16 K k ((n : Int), (b : Int), u) ((2 ^ n : Nat) : Int) (i : Int) kx3 kr) (N := 2 ^ n) (B := 10) (fun k => ?_) (fun k i hB hi => ?_) (2 ^ n) 0 k (by omega) (by omega)
  · simp only [s_l02In_l16]; rw [ite_f (decide_eq_false (by omega))]
  · simp only [s_l02In_l16]
    rw [ite_t (decide_eq_true (by omega)), smono_l19 hn hb (by omega) _ _ _ k (by omega), w64s (by omega)]
theorem saff_l31 {n b w : Nat} {u : Unit} (hn : n ≤ 4) (hb : b < 9223372036854775808) (hw : w < 16) (v10 : Int) (c : Bool) (kx9 : (Int × Int × Unit) → Int → Int → Option R) (kr : Bool → Option R) (k : Nat) (hk : 50 ≤ k) :
    s_l02In_l31 K k ((n : Int), (b : Int), u) ((2 ^ n : Nat) : Int) v10 (w : Int) c 0 kx9 kr = if allR (fun r => xor (b.testBit r) (b.testBit (r ^^^ w)) == c) 0 (2 ^ n) = true then kx9 ((n : Int), (b : Int), u) ((2 ^ n : Nat) : Int) v10 else kr false := by
  have hp := p16 hn
  refine lpA (L := fun k i => s_l02In_l31 K k ((n : Int), (b : Int), u) ((2 ^ n : Nat) : Int) v10 (w : Int) c (i : Int) kx9 kr) (N := 2 ^ n) (B := 10) (fun k => ?_) (fun k i _ hi => ?_) (2 ^ n) 0 k (by omega) (by omega)
  · simp only [s_l02In_l31]; rw [ite_f (decide_eq_false (by omega))]
  · have hx : i ^^^ w < 16 := Nat.xor_lt_two_pow (n := 4) (by omega) hw
    simp only [s_l02In_l31]
    rw [ite_t (decide_eq_true (by omega)), s_l01At_eq hb (by omega), some_bind', bitI_xor (by omega) (by omega), s_l01At_eq hb (by omega), some_bind', w64s (by omega), ite_not]
    have : (!decide (bt b i = bt b (i ^^^ w))) = xor (b.testBit i) (b.testBit (i ^^^ w)) := by unfold bt; cases b.testBit i <;> cases b.testBit (i ^^^ w) <;> rfl
    rw [this]
theorem saff_l26 {n b : Nat} {u : Unit} (hn : n ≤ 4) (hb : b < 9223372036854775808) (kx7 : Option R) (kr : Bool → Option R) (k : Nat) (hk : 100 ≤ k) :
    s_l02In_l26 K k ((n : Int), (b : Int), u) ((2 ^ n : Nat) : Int) 0 kx7 kr = if affS n b = true then kx7 else kr false := by
  have hp := p16 hn
  refine lpA (L := fun k i => s_l02In_l26 K k ((n : Int), (b : Int), u) ((2 ^ n : Nat) : Int) (i : Int) kx7 kr) (N := n) (B := 50) (fun k => ?_) (fun k i hB hi => ?_) n 0 k (by omega) (by omega)
  · simp only [s_l02In_l26]; rw [ite_f (decide_eq_false (by omega))]
  · have h8 := p8 (show i < 4 by omega)
    simp only [s_l02In_l26]
    rw [ite_t (decide_eq_true (by omega)), ite_t (u64_dec _), u64n (by omega), shl1 (by omega), show ((0 : Int)) = ((0 : Nat) : Int) from rfl, s_l01At_eq hb (by omega), some_bind', s_l01At_eq hb (by omega), some_bind', show (((0 : Nat) : Int)) = 0 from rfl, saff_l31 hn hb (by omega) _ _ _ _ k (by omega), w64s (by omega)]
    have : (!decide (bt b 0 = bt b (2 ^ i))) = xor (b.testBit 0) (b.testBit (2 ^ i)) := by unfold bt; cases b.testBit 0 <;> cases b.testBit (2 ^ i) <;> rfl
    rw [this]
theorem s_l02In_eq {n b k : Nat} (hn : n ≤ 4) (hb : b < 2 ^ 2 ^ n) (hk : k < 5) (hK : 100 ≤ K) : s_l02In K (((n : Int), (b : Int), ()), (k : Int), ()) = some (inC n b k) := by
  have hp := p16 hn
  have hb2 := b4 hn hb
  have h1 : 1 ≤ 2 ^ n := Nat.one_le_two_pow
  simp only [s_l02In]
  rw [s_l01Rows_eq (by omega), some_bind']
  match k, hk with
  | 0, _ => rw [ite_t (decide_eq_true (by omega)), show ((0 : Int)) = ((0 : Nat) : Int) from rfl, s_l01At_eq (by omega) (by omega), some_bind']; exact congrArg some (bt_dec0 b 0)
  | 1, _ => rw [ite_f (decide_eq_false (by omega)), ite_t (decide_eq_true (by omega)), w64 (by omega) (by omega), show ((2 ^ n : Nat) : Int) - 1 = ((2 ^ n - 1 : Nat) : Int) by omega, s_l01At_eq (by omega) (by omega), some_bind']; exact congrArg some (bt_dec b _)
  | 2, _ => rw [ite_f (decide_eq_false (by omega)), ite_f (decide_eq_false (by omega)), ite_t (decide_eq_true (by omega)), sdual_l9 hn (by omega) _ _ K hK, inC, dual_eq hb]; cases dualS n b <;> rfl
  | 3, _ => rw [ite_f (decide_eq_false (by omega)), ite_f (decide_eq_false (by omega)), ite_f (decide_eq_false (by omega)), ite_t (decide_eq_true (by omega)), smono_l16 hn (by omega) _ _ K hK, inC, mono_eq]; cases monoS n b <;> rfl
  | 4, _ => rw [ite_f (decide_eq_false (by omega)), ite_f (decide_eq_false (by omega)), ite_f (decide_eq_false (by omega)), ite_f (decide_eq_false (by omega)), saff_l26 hn (by omega) _ _ K hK, show inC n b 4 = affI n b from rfl, aff_eq hn]; cases affS n b <;> rfl
end Go.Proofs.YtfmenkglnkenpaaDoor.E
namespace Go.Proofs.YtfmenkglnkenpaaDoor.E
open Go Go.Proofs Go.Proofs.YtfmenkglnkenpaaDoor
set_option maxRecDepth 100000
set_option linter.unusedVariables false
noncomputable def as_slices_IndexFunc_impl_Func : Ty := (.pair (.sl tq0) (.pair (.fn (.pair tq0 .unit) .bool) .unit))
noncomputable def sp_slices_IndexFunc_impl_Func (F : ((List dq0) × ((dq0 × Unit) → Option Bool) × Unit) → Option Int) : FnSpec := ⟨as_slices_IndexFunc_impl_Func, [false, false], (.int .i64), F⟩
noncomputable def slices_IndexFunc_impl_Func_l2 {R : Type} (K : Nat) : Nat → (List dq0) → ((dq0 × Unit) → Option Bool) → Int → Int → (Option R) → (Int → Option R) → Option R
  | 0, _, _, _, _, _, _ => none
  | k + 1, v0, v1, v7, v8, kx0, kr =>
    (if (decide (v8 < v7)) = true then
    (if (bnds v8 (v0.length : Int)) = true then
    (v1 ((v0.getD v8.toNat ((0 : Int), (0 : Int), ())), ())).bind fun y1 =>
    (if y1 = true then
    kr v8
    else
    slices_IndexFunc_impl_Func_l2 K k v0 v1 v7 (IntKind.i64.wrap (v8 + (1 : Int))) kx0 kr)
    else
    none)
    else
    kx0)
noncomputable def slices_IndexFunc_impl_Func (K : Nat) (x : ((List dq0) × ((dq0 × Unit) → Option Bool) × Unit)) : Option Int :=
    slices_IndexFunc_impl_Func_l2 K K x.1 x.2.1 (x.1.length : Int) (0 : Int) (some (-1 : Int)) (fun z2 =>
    some z2)
noncomputable def X0_slices_IndexFunc_impl_Func : Lv := []
noncomputable def rv_slices_IndexFunc_impl_Func : Lv := [(4, (.v (.int .i64)))]
noncomputable def D_slices_IndexFunc_impl_Func (K : Nat) : List (PD (den (.int .i64))) := [.L 2 [(0, (.v (.sl tq0))), (1, (.v (.fn (.pair tq0 .unit) .bool))), (7, (.v (.int .i64))), (8, (.v (.int .i64)))] [] (fun k x kx kr => slices_IndexFunc_impl_Func_l2 K k x.1 x.2.1 x.2.2.1 x.2.2.2.1 (kx 0 (mkSt X0_slices_IndexFunc_impl_Func ())) (fun z0 => kr (mkSt rv_slices_IndexFunc_impl_Func (z0, ()))))]
theorem ok_slices_IndexFunc_impl_Func (K : Nat) : FnOk Tryd.prog 83 (sp_slices_IndexFunc_impl_Func (slices_IndexFunc_impl_Func K)) :=
  fn_okD tysOk [] 0 (D_slices_IndexFunc_impl_Func K) [(0, X0_slices_IndexFunc_impl_Func)] rv_slices_IndexFunc_impl_Func K Tryd.func83 (by kernel_rfl) ⟨⟨fun _ _ _ _ => by kernel_rfl, fun _ _ _ => rfl⟩, trivial⟩ (fun _ => by kernel_rfl)
noncomputable def C_slices_IndexFunc_impl_Func (K : Nat) : CB Tryd.prog := .f _ _ (ok_slices_IndexFunc_impl_Func K)
noncomputable def as_slices_ContainsFunc_impl_Func : Ty := (.pair (.sl tq0) (.pair (.fn (.pair tq0 .unit) .bool) .unit))
noncomputable def sp_slices_ContainsFunc_impl_Func (F : ((List dq0) × ((dq0 × Unit) → Option Bool) × Unit) → Option Bool) : FnSpec := ⟨as_slices_ContainsFunc_impl_Func, [false, false], .bool, F⟩
noncomputable def slices_ContainsFunc_impl_Func (K : Nat) (x : ((List dq0) × ((dq0 × Unit) → Option Bool) × Unit)) : Option Bool :=
    (slices_IndexFunc_impl_Func K (x.1, x.2.1, ())).bind fun y1 =>
    some (decide (y1 ≥ (0 : Int)))
noncomputable def rv_slices_ContainsFunc_impl_Func : Lv := [(4, (.v .bool))]
theorem ok_slices_ContainsFunc_impl_Func (K : Nat) : FnOk Tryd.prog 60 (sp_slices_ContainsFunc_impl_Func (slices_ContainsFunc_impl_Func K)) :=
  fn_okD tysOk [C_slices_IndexFunc_impl_Func K] 0 [] [] rv_slices_ContainsFunc_impl_Func K Tryd.func60 (by kernel_rfl) trivial (fun _ => by kernel_rfl)
noncomputable def C_slices_ContainsFunc_impl_Func (K : Nat) : CB Tryd.prog := .f _ _ (ok_slices_ContainsFunc_impl_Func K)
noncomputable def as_i_allIn_c1 : Ty := (.pair tq0 (.pair (.ptr (.int .i64)) .unit))
noncomputable def sp_i_allIn_c1 (F : (dq0 × Int × Unit) → Option Bool) : FnSpec := ⟨as_i_allIn_c1, [false, false], .bool, F⟩
noncomputable def i_allIn_c1 (K : Nat) (x : (dq0 × Int × Unit)) : Option Bool :=
    (i_Func_isIn K (x.1, x.2.1, ())).bind fun y1 =>
    some (!y1)
noncomputable def rv_i_allIn_c1 : Lv := [(3, (.v .bool))]
theorem ok_i_allIn_c1 (K : Nat) : FnOk Tryd.prog 63 (sp_i_allIn_c1 (i_allIn_c1 K)) :=
  fn_okD tysOk [C_i_Func_isIn K] 0 [] [] rv_i_allIn_c1 K Tryd.func63 (by kernel_rfl) trivial (fun _ => by kernel_rfl)
noncomputable def C_i_allIn_c1 (K : Nat) : CB Tryd.prog := .f _ _ (ok_i_allIn_c1 K)
noncomputable def as_i_allIn : Ty := (.pair (.sl tq0) (.pair (.int .i64) .unit))
noncomputable def sp_i_allIn (F : ((List dq0) × Int × Unit) → Option Bool) : FnSpec := ⟨as_i_allIn, [false, false], .bool, F⟩
noncomputable def i_allIn (K : Nat) (x : ((List dq0) × Int × Unit)) : Option Bool :=
    (slices_ContainsFunc_impl_Func K (x.1, (fun y2 => i_allIn_c1 K (y2.1, x.2.1, ())), ())).bind fun y1 =>
    some (!y1)
noncomputable def rv_i_allIn : Lv := [(4, (.v .bool))]
theorem ok_i_allIn (K : Nat) : FnOk Tryd.prog 32 (sp_i_allIn (i_allIn K)) :=
  fn_okD tysOk [C_slices_ContainsFunc_impl_Func K, C_i_allIn_c1 K] 0 [] [] rv_i_allIn K Tryd.func32 (by kernel_rfl) trivial (fun _ => by kernel_rfl)
noncomputable def C_i_allIn (K : Nat) : CB Tryd.prog := .f _ _ (ok_i_allIn K)
noncomputable def as_i_allAre_c1 : Ty := (.pair tq0 (.pair (.ptr (.fn (.pair tq0 .unit) .bool)) .unit))
noncomputable def sp_i_allAre_c1 (F : (dq0 × ((dq0 × Unit) → Option Bool) × Unit) → Option Bool) : FnSpec := ⟨as_i_allAre_c1, [false, false], .bool, F⟩
noncomputable def i_allAre_c1 (K : Nat) (x : (dq0 × ((dq0 × Unit) → Option Bool) × Unit)) : Option Bool :=
    (x.2.1 (x.1, ())).bind fun y1 =>
    some (!y1)
noncomputable def rv_i_allAre_c1 : Lv := [(3, (.v .bool))]
theorem ok_i_allAre_c1 (K : Nat) : FnOk Tryd.prog 65 (sp_i_allAre_c1 (i_allAre_c1 K)) :=
  fn_okD tysOk [] 0 [] [] rv_i_allAre_c1 K Tryd.func65 (by kernel_rfl) trivial (fun _ => by kernel_rfl)
noncomputable def C_i_allAre_c1 (K : Nat) : CB Tryd.prog := .f _ _ (ok_i_allAre_c1 K)
noncomputable def as_i_allAre : Ty := (.pair (.sl tq0) (.pair (.fn (.pair tq0 .unit) .bool) .unit))
noncomputable def sp_i_allAre (F : ((List dq0) × ((dq0 × Unit) → Option Bool) × Unit) → Option Bool) : FnSpec := ⟨as_i_allAre, [false, false], .bool, F⟩
noncomputable def i_allAre (K : Nat) (x : ((List dq0) × ((dq0 × Unit) → Option Bool) × Unit)) : Option Bool :=
    (slices_ContainsFunc_impl_Func K (x.1, (fun y2 => i_allAre_c1 K (y2.1, x.2.1, ())), ())).bind fun y1 =>
    some (!y1)
noncomputable def rv_i_allAre : Lv := [(4, (.v .bool))]
theorem ok_i_allAre (K : Nat) : FnOk Tryd.prog 33 (sp_i_allAre (i_allAre K)) :=
  fn_okD tysOk [C_slices_ContainsFunc_impl_Func K, C_i_allAre_c1 K] 0 [] [] rv_i_allAre K Tryd.func33 (by kernel_rfl) trivial (fun _ => by kernel_rfl)
noncomputable def C_i_allAre (K : Nat) : CB Tryd.prog := .f _ _ (ok_i_allAre K)
noncomputable def as_i_byConstants : Ty := (.pair .str (.pair .bool (.pair .bool .unit)))
noncomputable def sp_i_byConstants (F : (ByteArray × Bool × Bool × Unit) → Option ByteArray) : FnSpec := ⟨as_i_byConstants, [false, false, false], .str, F⟩
noncomputable def i_byConstants_j3 {R : Type} (K : Nat) (k : Nat) (v0 : ByteArray) (v1 : Bool) (v2 : Bool) (kn : ByteArray → Option R) (kr : (ByteArray → Option R)) : Option R :=
    gN K ((if v1 = true then
    (if (decide (v0.size + (⟨#[48]⟩ : ByteArray).size ≤ 9223372036854775807)) = true then
    kr (v0 ++ (⟨#[48]⟩ : ByteArray))
    else
    none)
    else
    (if v2 = true then
    (if (decide (v0.size + (⟨#[49]⟩ : ByteArray).size ≤ 9223372036854775807)) = true then
    kr (v0 ++ (⟨#[49]⟩ : ByteArray))
    else
    none)
    else
    kn v0)))
noncomputable def i_byConstants (K : Nat) (x : (ByteArray × Bool × Bool × Unit)) : Option ByteArray :=
    (if x.2.1 = true then
    (if x.2.2.1 = true then
    (if (decide (x.1.size + (⟨#[50]⟩ : ByteArray).size ≤ 9223372036854775807)) = true then
    some (x.1 ++ (⟨#[50]⟩ : ByteArray))
    else
    none)
    else
    i_byConstants_j3 K K x.1 x.2.1 x.2.2.1 (fun z1 =>
    some z1) (fun z2 =>
    some z2))
    else
    i_byConstants_j3 K K x.1 x.2.1 x.2.2.1 (fun z3 =>
    some z3) (fun z4 =>
    some z4))
noncomputable def rv_i_byConstants : Lv := [(6, (.v .str))]
noncomputable def D_i_byConstants (K : Nat) : List (PD (den .str)) := [.J 3 [(0, (.v .str)), (1, (.v .bool)), (2, (.v .bool))] [(0, (.v .str))] K (fun k x kn kx kr => i_byConstants_j3 K k x.1 x.2.1 x.2.2.1 (fun z0 => kn (z0, ())) (fun z0 => kr (mkSt rv_i_byConstants (z0, ()))))]
theorem ok_i_byConstants (K : Nat) : FnOk Tryd.prog 35 (sp_i_byConstants (i_byConstants K)) :=
  fn_okD tysOk [] 0 (D_i_byConstants K) [] rv_i_byConstants K Tryd.func35 (by kernel_rfl) ⟨fun _ _ _ _ _ => by kernel_rfl, trivial⟩ (fun _ => by kernel_rfl)
noncomputable def C_i_byConstants (K : Nat) : CB Tryd.prog := .f _ _ (ok_i_byConstants K)
noncomputable def as_i_choose : Ty := (.pair .bool (.pair .str (.pair .str .unit)))
noncomputable def sp_i_choose (F : (Bool × ByteArray × ByteArray × Unit) → Option ByteArray) : FnSpec := ⟨as_i_choose, [false, false, false], .str, F⟩
noncomputable def i_choose (K : Nat) (x : (Bool × ByteArray × ByteArray × Unit)) : Option ByteArray :=
    (if x.1 = true then
    some x.2.1
    else
    some x.2.2.1)
noncomputable def rv_i_choose : Lv := [(6, (.v .str))]
theorem ok_i_choose (K : Nat) : FnOk Tryd.prog 36 (sp_i_choose (i_choose K)) :=
  fn_okD tysOk [] 0 [] [] rv_i_choose K Tryd.func36 (by kernel_rfl) trivial (fun _ => by kernel_rfl)
noncomputable def C_i_choose (K : Nat) : CB Tryd.prog := .f _ _ (ok_i_choose K)
noncomputable def degF (x : (Int × Int × Unit) × Int × Unit) : Option Int :=
  if 0 ≤ x.1.1 ∧ x.1.1 ≤ 4 ∧ 0 ≤ x.1.2.1 ∧ x.1.2.1 < 65536 ∧ 0 ≤ x.2.1 ∧ x.2.1 ≤ 1 then some (degN x.1.1.toNat x.1.2.1.toNat x.2.1.toNat : Nat) else none
theorem degF_ok : FnOk Tryd.prog 71 ⟨.pair (.st (.pair (.int .i64) (.pair (.int .i64) .unit))) (.pair (.int .i64) .unit), [false, false], .int .i64, degF⟩ := by
  refine ⟨fun _ => ?_, fun h => by cases h⟩
  intro w vs x y hx hy
  obtain ⟨⟨ar, bi, u⟩, c, u2⟩ := x
  have hy : degF ((ar, bi, u), c, u2) = some y := hy
  unfold degF at hy
  split at hy
  case isFalse => cases hy
  rename_i h
  cases hy
  obtain ⟨h1, h2, h3, h4, h5, h6⟩ := h
  obtain ⟨n, rfl⟩ := Int.eq_ofNat_of_zero_le h1
  obtain ⟨b, rfl⟩ := Int.eq_ofNat_of_zero_le h3
  obtain ⟨c, rfl⟩ := Int.eq_ofNat_of_zero_le h5
  have hv : vs = [.agg #[.int .i64 n, .int .i64 b], .int .i64 c] := by
    obtain ⟨cs, r, rfl, ⟨c1, c2, rfl, h7, c3, c4, rfl, h8, h9⟩, c5, r2, rfl, h10, h11⟩ := hx
    have h7 : c1 = [.int .i64 (n : Int)] := h7
    have h8 : c3 = [.int .i64 (b : Int)] := h8
    have h9 : c4 = [] := h9
    have h10 : c5 = [.int .i64 (c : Int)] := h10
    have h11 : r2 = [] := h11
    subst h7 h8 h9 h10 h11
    rfl
  subst hv
  refine cf_of_calls Tryd.func71 (c := bodyOf Tryd.f71) (by kernel_rfl) (by kernel_rfl) ?_
  refine (dg_calls w n b c (by have h2 : (n : Int) ≤ 4 := h2; omega) (by have h4 : (b : Int) < 65536 := h4; omega) (by have h6 : (c : Int) ≤ 1 := h6; omega)).mono ?_
  rintro e w' ⟨rfl, hb⟩
  exact ⟨_, rfl, ret_plain (R := .int .i64) rfl rfl rfl (c := [.int .i64 (degN n b c : Nat)]) ⟨rfl, rfl⟩ hb⟩
noncomputable def as_i_Func_degree : Ty := (.pair tq0 (.pair (.int .i64) .unit))
noncomputable def sp_i_Func_degree (F : (dq0 × Int × Unit) → Option Int) : FnSpec := ⟨as_i_Func_degree, [false, false], (.int .i64), F⟩
noncomputable def i_Func_degree (K : Nat) (x : (Int × Int × Unit) × Int × Unit) : Option Int := degF x
theorem ok_i_Func_degree (K : Nat) : FnOk Tryd.prog 71 (sp_i_Func_degree (i_Func_degree K)) := degF_ok
noncomputable def C_i_Func_degree (K : Nat) : CB Tryd.prog := .f _ _ (ok_i_Func_degree K)
noncomputable def as_i_least : Ty := (.pair (.sl tq0) (.pair (.int .i64) .unit))
noncomputable def sp_i_least (F : ((List dq0) × Int × Unit) → Option Int) : FnSpec := ⟨as_i_least, [false, false], (.int .i64), F⟩
noncomputable def i_least_l3 {R : Type} (K : Nat) : Nat → Int → Int → (List dq0) → Int → Int → (Int → Option R) → Option R
  | 0, _, _, _, _, _, _ => none
  | k + 1, v1, v5, v8, v9, v10, kx0 =>
    (if (decide (v10 < v9)) = true then
    (if (bnds v10 (v8.length : Int)) = true then
    (i_Func_degree K ((v8.getD v10.toNat ((0 : Int), (0 : Int), ())), v1, ())).bind fun y1 =>
    i_least_l3 K k v1 (minL v5 [y1]) v8 v9 (IntKind.i64.wrap (v10 + (1 : Int))) kx0
    else
    none)
    else
    kx0 v5)
noncomputable def i_least (K : Nat) (x : ((List dq0) × Int × Unit)) : Option Int :=
    i_least_l3 K K x.2.1 (9 : Int) x.1 (x.1.length : Int) (0 : Int) (fun z2 =>
    some z2)
noncomputable def X0_i_least : Lv := [(5, (.v (.int .i64)))]
noncomputable def rv_i_least : Lv := [(4, (.v (.int .i64)))]
noncomputable def D_i_least (K : Nat) : List (PD (den (.int .i64))) := [.L 3 [(1, (.v (.int .i64))), (5, (.v (.int .i64))), (8, (.v (.sl tq0))), (9, (.v (.int .i64))), (10, (.v (.int .i64)))] [] (fun k x kx kr => i_least_l3 K k x.1 x.2.1 x.2.2.1 x.2.2.2.1 x.2.2.2.2.1 (fun z0 => kx 0 (mkSt X0_i_least (z0, ()))))]
theorem ok_i_least (K : Nat) : FnOk Tryd.prog 39 (sp_i_least (i_least K)) :=
  fn_okD tysOk [C_i_Func_degree K] 0 (D_i_least K) [(0, X0_i_least)] rv_i_least K Tryd.func39 (by kernel_rfl) ⟨⟨fun _ _ _ _ => by kernel_rfl, fun _ _ _ => rfl⟩, trivial⟩ (fun _ => by kernel_rfl)
noncomputable def C_i_least (K : Nat) : CB Tryd.prog := .f _ _ (ok_i_least K)
noncomputable def as_internal_strconv_small : Ty := (.pair (.int .i64) .unit)
noncomputable def sp_internal_strconv_small (F : (Int × Unit) → Option ByteArray) : FnSpec := ⟨as_internal_strconv_small, [false], .str, F⟩
noncomputable def internal_strconv_small (K : Nat) (x : (Int × Unit)) : Option ByteArray :=
    (if (decide (x.1 < (10 : Int))) = true then
    (if (decide (0 ≤ x.1) && decide (x.1 ≤ (IntKind.i64.wrap (x.1 + (1 : Int)))) && decide ((IntKind.i64.wrap (x.1 + (1 : Int))) ≤ ((⟨#[48, 49, 50, 51, 52, 53, 54, 55, 56, 57, 97, 98, 99, 100, 101, 102, 103, 104, 105, 106, 107, 108, 109, 110, 111, 112, 113, 114, 115, 116, 117, 118, 119, 120, 121, 122]⟩ : ByteArray).size : Int))) = true then
    let x1 := ((⟨#[48, 49, 50, 51, 52, 53, 54, 55, 56, 57, 97, 98, 99, 100, 101, 102, 103, 104, 105, 106, 107, 108, 109, 110, 111, 112, 113, 114, 115, 116, 117, 118, 119, 120, 121, 122]⟩ : ByteArray).extract x.1.toNat (IntKind.i64.wrap (x.1 + (1 : Int))).toNat)
    some x1
    else
    none)
    else
    let x2 := (IntKind.i64.wrap ((IntKind.i64.wrap (x.1 * (2 : Int))) + (2 : Int)))
    (if (decide (0 ≤ (IntKind.i64.wrap (x.1 * (2 : Int)))) && decide ((IntKind.i64.wrap (x.1 * (2 : Int))) ≤ x2) && decide (x2 ≤ ((⟨#[48, 48, 48, 49, 48, 50, 48, 51, 48, 52, 48, 53, 48, 54, 48, 55, 48, 56, 48, 57, 49, 48, 49, 49, 49, 50, 49, 51, 49, 52, 49, 53, 49, 54, 49, 55, 49, 56, 49, 57, 50, 48, 50, 49, 50, 50, 50, 51, 50, 52, 50, 53, 50, 54, 50, 55, 50, 56, 50, 57, 51, 48, 51, 49, 51, 50, 51, 51, 51, 52, 51, 53, 51, 54, 51, 55, 51, 56, 51, 57, 52, 48, 52, 49, 52, 50, 52, 51, 52, 52, 52, 53, 52, 54, 52, 55, 52, 56, 52, 57, 53, 48, 53, 49, 53, 50, 53, 51, 53, 52, 53, 53, 53, 54, 53, 55, 53, 56, 53, 57, 54, 48, 54, 49, 54, 50, 54, 51, 54, 52, 54, 53, 54, 54, 54, 55, 54, 56, 54, 57, 55, 48, 55, 49, 55, 50, 55, 51, 55, 52, 55, 53, 55, 54, 55, 55, 55, 56, 55, 57, 56, 48, 56, 49, 56, 50, 56, 51, 56, 52, 56, 53, 56, 54, 56, 55, 56, 56, 56, 57, 57, 48, 57, 49, 57, 50, 57, 51, 57, 52, 57, 53, 57, 54, 57, 55, 57, 56, 57, 57]⟩ : ByteArray).size : Int))) = true then
    let x3 := ((⟨#[48, 48, 48, 49, 48, 50, 48, 51, 48, 52, 48, 53, 48, 54, 48, 55, 48, 56, 48, 57, 49, 48, 49, 49, 49, 50, 49, 51, 49, 52, 49, 53, 49, 54, 49, 55, 49, 56, 49, 57, 50, 48, 50, 49, 50, 50, 50, 51, 50, 52, 50, 53, 50, 54, 50, 55, 50, 56, 50, 57, 51, 48, 51, 49, 51, 50, 51, 51, 51, 52, 51, 53, 51, 54, 51, 55, 51, 56, 51, 57, 52, 48, 52, 49, 52, 50, 52, 51, 52, 52, 52, 53, 52, 54, 52, 55, 52, 56, 52, 57, 53, 48, 53, 49, 53, 50, 53, 51, 53, 52, 53, 53, 53, 54, 53, 55, 53, 56, 53, 57, 54, 48, 54, 49, 54, 50, 54, 51, 54, 52, 54, 53, 54, 54, 54, 55, 54, 56, 54, 57, 55, 48, 55, 49, 55, 50, 55, 51, 55, 52, 55, 53, 55, 54, 55, 55, 55, 56, 55, 57, 56, 48, 56, 49, 56, 50, 56, 51, 56, 52, 56, 53, 56, 54, 56, 55, 56, 56, 56, 57, 57, 48, 57, 49, 57, 50, 57, 51, 57, 52, 57, 53, 57, 54, 57, 55, 57, 56, 57, 57]⟩ : ByteArray).extract (IntKind.i64.wrap (x.1 * (2 : Int))).toNat x2.toNat)
    some x3
    else
    none))
noncomputable def rv_internal_strconv_small : Lv := [(2, (.v .str))]
theorem ok_internal_strconv_small (K : Nat) : FnOk Tryd.prog 101 (sp_internal_strconv_small (internal_strconv_small K)) :=
  fn_okD tysOk [] 0 [] [] rv_internal_strconv_small K Tryd.func101 (by kernel_rfl) trivial (fun _ => by kernel_rfl)
noncomputable def C_internal_strconv_small (K : Nat) : CB Tryd.prog := .f _ _ (ok_internal_strconv_small K)
noncomputable def as_math_bits_Len64 : Ty := (.pair (.int .u64) .unit)
noncomputable def sp_math_bits_Len64 (F : (Int × Unit) → Option Int) : FnSpec := ⟨as_math_bits_Len64, [false], (.int .i64), F⟩
noncomputable def math_bits_Len64_j10 {R : Type} (K : Nat) (k : Nat) (v0 : Int) (v2 : Int) (kn : Option R) (kr : (Int → Option R)) : Option R :=
    (if (bnds (IntKind.u8.wrap v0) ((⟨#[0, 1, 2, 2, 3, 3, 3, 3, 4, 4, 4, 4, 4, 4, 4, 4, 5, 5, 5, 5, 5, 5, 5, 5, 5, 5, 5, 5, 5, 5, 5, 5, 6, 6, 6, 6, 6, 6, 6, 6, 6, 6, 6, 6, 6, 6, 6, 6, 6, 6, 6, 6, 6, 6, 6, 6, 6, 6, 6, 6, 6, 6, 6, 6, 7, 7, 7, 7, 7, 7, 7, 7, 7, 7, 7, 7, 7, 7, 7, 7, 7, 7, 7, 7, 7, 7, 7, 7, 7, 7, 7, 7, 7, 7, 7, 7, 7, 7, 7, 7, 7, 7, 7, 7, 7, 7, 7, 7, 7, 7, 7, 7, 7, 7, 7, 7, 7, 7, 7, 7, 7, 7, 7, 7, 7, 7, 7, 7, 8, 8, 8, 8, 8, 8, 8, 8, 8, 8, 8, 8, 8, 8, 8, 8, 8, 8, 8, 8, 8, 8, 8, 8, 8, 8, 8, 8, 8, 8, 8, 8, 8, 8, 8, 8, 8, 8, 8, 8, 8, 8, 8, 8, 8, 8, 8, 8, 8, 8, 8, 8, 8, 8, 8, 8, 8, 8, 8, 8, 8, 8, 8, 8, 8, 8, 8, 8, 8, 8, 8, 8, 8, 8, 8, 8, 8, 8, 8, 8, 8, 8, 8, 8, 8, 8, 8, 8, 8, 8, 8, 8, 8, 8, 8, 8, 8, 8, 8, 8, 8, 8, 8, 8, 8, 8, 8, 8, 8, 8, 8, 8, 8, 8, 8, 8, 8, 8, 8, 8, 8, 8, 8, 8, 8, 8, 8, 8]⟩ : ByteArray).size : Int)) = true then
    let x1 := (byteAt (⟨#[0, 1, 2, 2, 3, 3, 3, 3, 4, 4, 4, 4, 4, 4, 4, 4, 5, 5, 5, 5, 5, 5, 5, 5, 5, 5, 5, 5, 5, 5, 5, 5, 6, 6, 6, 6, 6, 6, 6, 6, 6, 6, 6, 6, 6, 6, 6, 6, 6, 6, 6, 6, 6, 6, 6, 6, 6, 6, 6, 6, 6, 6, 6, 6, 7, 7, 7, 7, 7, 7, 7, 7, 7, 7, 7, 7, 7, 7, 7, 7, 7, 7, 7, 7, 7, 7, 7, 7, 7, 7, 7, 7, 7, 7, 7, 7, 7, 7, 7, 7, 7, 7, 7, 7, 7, 7, 7, 7, 7, 7, 7, 7, 7, 7, 7, 7, 7, 7, 7, 7, 7, 7, 7, 7, 7, 7, 7, 7, 8, 8, 8, 8, 8, 8, 8, 8, 8, 8, 8, 8, 8, 8, 8, 8, 8, 8, 8, 8, 8, 8, 8, 8, 8, 8, 8, 8, 8, 8, 8, 8, 8, 8, 8, 8, 8, 8, 8, 8, 8, 8, 8, 8, 8, 8, 8, 8, 8, 8, 8, 8, 8, 8, 8, 8, 8, 8, 8, 8, 8, 8, 8, 8, 8, 8, 8, 8, 8, 8, 8, 8, 8, 8, 8, 8, 8, 8, 8, 8, 8, 8, 8, 8, 8, 8, 8, 8, 8, 8, 8, 8, 8, 8, 8, 8, 8, 8, 8, 8, 8, 8, 8, 8, 8, 8, 8, 8, 8, 8, 8, 8, 8, 8, 8, 8, 8, 8, 8, 8, 8, 8, 8, 8, 8, 8, 8, 8]⟩ : ByteArray) (IntKind.u8.wrap v0))
    kr (IntKind.i64.wrap (v2 + (IntKind.i64.wrap x1)))
    else
    none)
noncomputable def math_bits_Len64_j7 {R : Type} (K : Nat) (k : Nat) (v0 : Int) (v2 : Int) (kn : Option R) (kr : (Int → Option R)) : Option R :=
    (if (decide (v0 ≥ (256 : Int))) = true then
    math_bits_Len64_j10 K k (shrI .u64 v0 (8 : Int)) (IntKind.i64.wrap (v2 + (8 : Int))) none (fun z2 =>
    kr z2)
    else
    math_bits_Len64_j10 K k v0 v2 none (fun z3 =>
    kr z3))
noncomputable def math_bits_Len64_j4 {R : Type} (K : Nat) (k : Nat) (v0 : Int) (v2 : Int) (kn : Option R) (kr : (Int → Option R)) : Option R :=
    (if (decide (v0 ≥ (65536 : Int))) = true then
    math_bits_Len64_j7 K k (shrI .u64 v0 (16 : Int)) (IntKind.i64.wrap (v2 + (16 : Int))) none (fun z4 =>
    kr z4)
    else
    math_bits_Len64_j7 K k v0 v2 none (fun z5 =>
    kr z5))
noncomputable def math_bits_Len64 (K : Nat) (x : (Int × Unit)) : Option Int :=
    (if (decide (x.1 ≥ (4294967296 : Int))) = true then
    math_bits_Len64_j4 K K (shrI .u64 x.1 (32 : Int)) (32 : Int) none (fun z6 =>
    some z6)
    else
    math_bits_Len64_j4 K K x.1 (0 : Int) none (fun z7 =>
    some z7))
noncomputable def rv_math_bits_Len64 : Lv := [(2, (.v (.int .i64)))]
noncomputable def D_math_bits_Len64 (K : Nat) : List (PD (den (.int .i64))) := [.J 4 [(0, (.v (.int .u64))), (2, (.v (.int .i64)))] [] 0 (fun k x kn kx kr => math_bits_Len64_j4 K k x.1 x.2.1 (kn ()) (fun z0 => kr (mkSt rv_math_bits_Len64 (z0, ())))),
  .J 7 [(0, (.v (.int .u64))), (2, (.v (.int .i64)))] [] 0 (fun k x kn kx kr => math_bits_Len64_j7 K k x.1 x.2.1 (kn ()) (fun z0 => kr (mkSt rv_math_bits_Len64 (z0, ())))),
  .J 10 [(0, (.v (.int .u64))), (2, (.v (.int .i64)))] [] 0 (fun k x kn kx kr => math_bits_Len64_j10 K k x.1 x.2.1 (kn ()) (fun z0 => kr (mkSt rv_math_bits_Len64 (z0, ()))))]
theorem ok_math_bits_Len64 (K : Nat) : FnOk Tryd.prog 115 (sp_math_bits_Len64 (math_bits_Len64 K)) :=
  fn_okD tysOk [] 0 (D_math_bits_Len64 K) [] rv_math_bits_Len64 K Tryd.func115 (by kernel_rfl) ⟨fun _ _ _ _ _ => by kernel_rfl, ⟨fun _ _ _ _ _ => by kernel_rfl, ⟨fun _ _ _ _ _ => by kernel_rfl, trivial⟩⟩⟩ (fun _ => by kernel_rfl)
noncomputable def C_math_bits_Len64 (K : Nat) : CB Tryd.prog := .f _ _ (ok_math_bits_Len64 K)
noncomputable def as_internal_strconv_log10Pow2 : Ty := (.pair (.int .i64) .unit)
noncomputable def sp_internal_strconv_log10Pow2 (F : (Int × Unit) → Option Int) : FnSpec := ⟨as_internal_strconv_log10Pow2, [false], (.int .i64), F⟩
noncomputable def internal_strconv_log10Pow2 (K : Nat) (x : (Int × Unit)) : Option Int :=
    let x1 := (shrI .i64 (IntKind.i64.wrap (x.1 * (78913 : Int))) (18 : Int))
    some x1
noncomputable def rv_internal_strconv_log10Pow2 : Lv := [(2, (.v (.int .i64)))]
theorem ok_internal_strconv_log10Pow2 (K : Nat) : FnOk Tryd.prog 123 (sp_internal_strconv_log10Pow2 (internal_strconv_log10Pow2 K)) :=
  fn_okD tysOk [] 0 [] [] rv_internal_strconv_log10Pow2 K Tryd.func123 (by kernel_rfl) trivial (fun _ => by kernel_rfl)
noncomputable def C_internal_strconv_log10Pow2 (K : Nat) : CB Tryd.prog := .f _ _ (ok_internal_strconv_log10Pow2 K)
noncomputable def as_internal_strconv_numDigits : Ty := (.pair (.int .u64) .unit)
noncomputable def sp_internal_strconv_numDigits (F : (Int × Unit) → Option Int) : FnSpec := ⟨as_internal_strconv_numDigits, [false], (.int .i64), F⟩
noncomputable def internal_strconv_numDigits (K : Nat) (x : (Int × Unit)) : Option Int :=
    (math_bits_Len64 K (x.1, ())).bind fun y1 =>
    (internal_strconv_log10Pow2 K (y1, ())).bind fun y2 =>
    none
noncomputable def rv_internal_strconv_numDigits : Lv := []
theorem ok_internal_strconv_numDigits (K : Nat) : FnOk Tryd.prog 102 (sp_internal_strconv_numDigits (internal_strconv_numDigits K)) :=
  fn_okD tysOk [C_math_bits_Len64 K, C_internal_strconv_log10Pow2 K] 0 [] [] rv_internal_strconv_numDigits K Tryd.func102 (by kernel_rfl) trivial (fun _ => by kernel_rfl)
noncomputable def C_internal_strconv_numDigits (K : Nat) : CB Tryd.prog := .f _ _ (ok_internal_strconv_numDigits K)
noncomputable def as_internal_strconv_formatBits : Ty := (.pair (.sl (.int .u8)) (.pair (.int .u64) (.pair (.int .i64) (.pair .bool (.pair .bool .unit)))))
noncomputable def sp_internal_strconv_formatBits (F : ((List Int) × Int × Int × Bool × Bool × Unit) → Option ((List Int) × ByteArray × Unit)) : FnSpec := ⟨as_internal_strconv_formatBits, [false, false, false, false, false], (.tup (.pair (.sl (.int .u8)) (.pair .str .unit))), F⟩
noncomputable def internal_strconv_formatBits (K : Nat) (x : ((List Int) × Int × Int × Bool × Bool × Unit)) : Option ((List Int) × ByteArray × Unit) := none
theorem ok_internal_strconv_formatBits (K : Nat) : FnOk Tryd.prog 104 (sp_internal_strconv_formatBits (internal_strconv_formatBits K)) := fnOk_none
noncomputable def C_internal_strconv_formatBits (K : Nat) : CB Tryd.prog := .f _ _ (ok_internal_strconv_formatBits K)
noncomputable def as_internal_strconv_FormatInt : Ty := (.pair (.int .i64) (.pair (.int .i64) .unit))
noncomputable def sp_internal_strconv_FormatInt (F : (Int × Int × Unit) → Option ByteArray) : FnSpec := ⟨as_internal_strconv_FormatInt, [false, false], .str, F⟩
noncomputable def internal_strconv_FormatInt_j8 {R : Type} (K : Nat) (k : Nat) (v0 : Int) (v5 : (List Int)) (v6 : Int) (kn : Option R) (kr : (ByteArray → Option R)) : Option R :=
    (internal_strconv_numDigits K (v6, ())).bind fun y2 =>
    none
noncomputable def internal_strconv_FormatInt_j4 {R : Type} (K : Nat) (k : Nat) (v0 : Int) (kn : Option R) (kr : (ByteArray → Option R)) : Option R :=
    (if (decide (v0 < (0 : Int))) = true then
    internal_strconv_FormatInt_j8 K k v0 (List.replicate 24 (0 : Int)) (IntKind.u64.wrap (0 - (IntKind.u64.wrap v0))) none (fun z3 =>
    kr z3)
    else
    internal_strconv_FormatInt_j8 K k v0 (List.replicate 24 (0 : Int)) (IntKind.u64.wrap v0) none (fun z4 =>
    kr z4))
noncomputable def internal_strconv_FormatInt (K : Nat) (x : (Int × Int × Unit)) : Option ByteArray :=
    (if (decide (x.2.1 = (10 : Int))) = true then
    (if (decide ((0 : Int) ≤ x.1)) = true then
    (if (decide (x.1 < (100 : Int))) = true then
    (internal_strconv_small K (x.1, ())).bind fun y1 =>
    some y1
    else
    internal_strconv_FormatInt_j4 K K x.1 none (fun z5 =>
    some z5))
    else
    internal_strconv_FormatInt_j4 K K x.1 none (fun z6 =>
    some z6))
    else
    (internal_strconv_formatBits K (([] : List Int), (IntKind.u64.wrap x.1), x.2.1, (decide (x.1 < (0 : Int))), false, ())).bind fun y7 =>
    some y7.2.1)
noncomputable def rv_internal_strconv_FormatInt : Lv := [(4, (.v .str))]
noncomputable def D_internal_strconv_FormatInt (K : Nat) : List (PD (den .str)) := [.J 4 [(0, (.v (.int .i64)))] [] 0 (fun k x kn kx kr => internal_strconv_FormatInt_j4 K k x.1 (kn ()) (fun z0 => kr (mkSt rv_internal_strconv_FormatInt (z0, ())))),
  .J 8 [(0, (.v (.int .i64))), (5, (.bx (.v (.arr 24 (.int .u8))))), (6, (.v (.int .u64)))] [] 0 (fun k x kn kx kr => internal_strconv_FormatInt_j8 K k x.1 x.2.1 x.2.2.1 (kn ()) (fun z0 => kr (mkSt rv_internal_strconv_FormatInt (z0, ()))))]
theorem ok_internal_strconv_FormatInt (K : Nat) : FnOk Tryd.prog 93 (sp_internal_strconv_FormatInt (internal_strconv_FormatInt K)) :=
  fn_okD tysOk [C_internal_strconv_small K, C_internal_strconv_numDigits K, C_internal_strconv_formatBits K] 0 (D_internal_strconv_FormatInt K) [] rv_internal_strconv_FormatInt K Tryd.func93 (by kernel_rfl) ⟨fun _ _ _ _ _ => by kernel_rfl, ⟨fun _ _ _ _ _ => by kernel_rfl, trivial⟩⟩ (fun _ => by kernel_rfl)
noncomputable def C_internal_strconv_FormatInt (K : Nat) : CB Tryd.prog := .f _ _ (ok_internal_strconv_FormatInt K)
noncomputable def as_strconv_FormatInt : Ty := (.pair (.int .i64) (.pair (.int .i64) .unit))
noncomputable def sp_strconv_FormatInt (F : (Int × Int × Unit) → Option ByteArray) : FnSpec := ⟨as_strconv_FormatInt, [false, false], .str, F⟩
noncomputable def strconv_FormatInt (K : Nat) (x : (Int × Int × Unit)) : Option ByteArray :=
    (internal_strconv_FormatInt K (x.1, x.2.1, ())).bind fun y1 =>
    some y1
noncomputable def rv_strconv_FormatInt : Lv := [(4, (.v .str))]
theorem ok_strconv_FormatInt (K : Nat) : FnOk Tryd.prog 72 (sp_strconv_FormatInt (strconv_FormatInt K)) :=
  fn_okD tysOk [C_internal_strconv_FormatInt K] 0 [] [] rv_strconv_FormatInt K Tryd.func72 (by kernel_rfl) trivial (fun _ => by kernel_rfl)
noncomputable def C_strconv_FormatInt (K : Nat) : CB Tryd.prog := .f _ _ (ok_strconv_FormatInt K)
noncomputable def as_i_separatedName : Ty := (.pair .str (.pair .bool (.pair .bool (.pair (.int .i64) .unit))))
noncomputable def sp_i_separatedName (F : (ByteArray × Bool × Bool × Int × Unit) → Option ByteArray) : FnSpec := ⟨as_i_separatedName, [false, false, false, false], .str, F⟩
noncomputable def i_separatedName (K : Nat) (x : (ByteArray × Bool × Bool × Int × Unit)) : Option ByteArray :=
    (i_choose K (x.2.1, (⟨#[48]⟩ : ByteArray), (⟨#[49]⟩ : ByteArray), ())).bind fun y1 =>
    (i_choose K (x.2.1, (⟨#[50]⟩ : ByteArray), (⟨#[]⟩ : ByteArray), ())).bind fun y2 =>
    (i_choose K (x.2.2.1, y1, y2, ())).bind fun y3 =>
    (if (decide (x.2.2.2.1 < (9 : Int))) = true then
    (if (decide (x.1.size + y3.size ≤ 9223372036854775807)) = true then
    (if (decide ((x.1 ++ y3).size + (⟨#[94]⟩ : ByteArray).size ≤ 9223372036854775807)) = true then
    (strconv_FormatInt K (x.2.2.2.1, (10 : Int), ())).bind fun y4 =>
    (if (decide (((x.1 ++ y3) ++ (⟨#[94]⟩ : ByteArray)).size + y4.size ≤ 9223372036854775807)) = true then
    some (((x.1 ++ y3) ++ (⟨#[94]⟩ : ByteArray)) ++ y4)
    else
    none)
    else
    none)
    else
    none)
    else
    (if (decide (x.1.size + y3.size ≤ 9223372036854775807)) = true then
    some (x.1 ++ y3)
    else
    none))
noncomputable def rv_i_separatedName : Lv := [(8, (.v .str))]
theorem ok_i_separatedName (K : Nat) : FnOk Tryd.prog 40 (sp_i_separatedName (i_separatedName K)) :=
  fn_okD tysOk [C_i_choose K, C_strconv_FormatInt K] 0 [] [] rv_i_separatedName K Tryd.func40 (by kernel_rfl) trivial (fun _ => by kernel_rfl)
noncomputable def C_i_separatedName (K : Nat) : CB Tryd.prog := .f _ _ (ok_i_separatedName K)
noncomputable def as_i_cloneName : Ty := (.pair (.sl tq0) .unit)
noncomputable def sp_i_cloneName (F : ((List dq0) × Unit) → Option ByteArray) : FnSpec := ⟨as_i_cloneName, [false], .str, F⟩
noncomputable def i_cloneName_l3 {R : Type} (K : Nat) : Nat → (List dq0) → (List Bool) → Int → ((List dq0) → (List Bool) → Option R) → Option R
  | 0, _, _, _, _ => none
  | k + 1, v0, v3, v10, kx0 =>
    (if (decide (v10 < (5 : Int))) = true then
    (i_allIn K (v0, v10, ())).bind fun y1 =>
    (if (bnds v10 (5 : Int)) = true then
    let a2 := (v3.set v10.toNat y1)
    i_cloneName_l3 K k v0 a2 (IntKind.i64.wrap (v10 + (1 : Int))) kx0
    else
    none)
    else
    kx0 v0 v3)
noncomputable def i_cloneName_j20 {R : Type} (K : Nat) (k : Nat) (v0 : (List dq0)) (v5 : Bool) (v6 : Bool) (v7 : Bool) (v8 : Bool) (v9 : Bool) (kn : Bool → Bool → Option R) (kr : (ByteArray → Option R)) : Option R :=
    gN K ((if v9 = true then
    (i_byConstants K ((⟨#[76]⟩ : ByteArray), v5, v6, ())).bind fun y17 =>
    kr y17
    else
    (if v7 = true then
    (i_choose K (v5, (⟨#[68, 49]⟩ : ByteArray), (⟨#[68]⟩ : ByteArray), ())).bind fun y18 =>
    (i_choose K (v8, (⟨#[68, 50]⟩ : ByteArray), y18, ())).bind fun y19 =>
    kr y19
    else
    (i_least K (v0, (0 : Int), ())).bind fun y20 =>
    (if (decide (y20 ≥ (2 : Int))) = true then
    (i_least K (v0, (0 : Int), ())).bind fun y21 =>
    (i_separatedName K ((⟨#[83, 48]⟩ : ByteArray), v5, v8, y21, ())).bind fun y22 =>
    kr y22
    else
    (i_least K (v0, (1 : Int), ())).bind fun y23 =>
    (if (decide (y23 ≥ (2 : Int))) = true then
    (i_least K (v0, (1 : Int), ())).bind fun y24 =>
    (i_separatedName K ((⟨#[83, 49]⟩ : ByteArray), v6, v8, y24, ())).bind fun y25 =>
    kr y25
    else
    (if v8 = true then
    (i_byConstants K ((⟨#[77]⟩ : ByteArray), v5, v6, ())).bind fun y26 =>
    kr y26
    else
    kn v5 v6))))))
noncomputable def i_cloneName_j18 {R : Type} (K : Nat) (k : Nat) (v0 : (List dq0)) (v5 : Bool) (v6 : Bool) (v7 : Bool) (v8 : Bool) (v9 : Bool) (kn : Bool → Bool → Option R) (kr : (ByteArray → Option R)) : Option R :=
    gN K ((if v9 = true then
    (if v7 = true then
    kr (⟨#[76, 51]⟩ : ByteArray)
    else
    i_cloneName_j20 K k v0 v5 v6 v7 v8 v9 (fun z27 z28 =>
    kn z27 z28) (fun z29 =>
    kr z29))
    else
    i_cloneName_j20 K k v0 v5 v6 v7 v8 v9 (fun z30 z31 =>
    kn z30 z31) (fun z32 =>
    kr z32)))
noncomputable def i_cloneName_j10 {R : Type} (K : Nat) (k : Nat) (v0 : (List dq0)) (v5 : Bool) (v6 : Bool) (v7 : Bool) (v8 : Bool) (v9 : Bool) (kn : Bool → Bool → Option R) (kr : (ByteArray → Option R)) : Option R :=
    gN K ((i_allAre K (v0, (fun y9 => i_Func_isUnary K (y9.1, ())), ())).bind fun y8 =>
    (if y8 = true then
    (i_choose K (v7, (⟨#[78, 50]⟩ : ByteArray), (⟨#[78]⟩ : ByteArray), ())).bind fun y10 =>
    kr y10
    else
    (i_allAre K (v0, (fun y12 => i_Func_isDisjunction K (y12.1, ())), ())).bind fun y11 =>
    (if y11 = true then
    (i_byConstants K ((⟨#[86]⟩ : ByteArray), v5, v6, ())).bind fun y13 =>
    kr y13
    else
    (i_allAre K (v0, (fun y15 => i_Func_isConjunction K (y15.1, ())), ())).bind fun y14 =>
    (if y14 = true then
    (i_byConstants K ((⟨#[69]⟩ : ByteArray), v5, v6, ())).bind fun y16 =>
    kr y16
    else
    (if v9 = true then
    (if v5 = true then
    (if v6 = true then
    kr (⟨#[76, 50]⟩ : ByteArray)
    else
    i_cloneName_j18 K k v0 v5 v6 v7 v8 v9 (fun z33 z34 =>
    kn z33 z34) (fun z35 =>
    kr z35))
    else
    i_cloneName_j18 K k v0 v5 v6 v7 v8 v9 (fun z36 z37 =>
    kn z36 z37) (fun z38 =>
    kr z38))
    else
    i_cloneName_j18 K k v0 v5 v6 v7 v8 v9 (fun z39 z40 =>
    kn z39 z40) (fun z41 =>
    kr z41))))))
noncomputable def i_cloneName_j30 {R : Type} (K : Nat) (k : Nat) (v5 : Bool) (v6 : Bool) (kn : Option R) (kr : (ByteArray → Option R)) : Option R :=
    (if v5 = true then
    (i_byConstants K ((⟨#[82]⟩ : ByteArray), v5, v6, ())).bind fun y44 =>
    (i_choose K (true, y44, (⟨#[66, 70]⟩ : ByteArray), ())).bind fun y45 =>
    kr y45
    else
    (i_byConstants K ((⟨#[82]⟩ : ByteArray), v5, v6, ())).bind fun y46 =>
    (i_choose K (v6, y46, (⟨#[66, 70]⟩ : ByteArray), ())).bind fun y47 =>
    kr y47)
noncomputable def i_cloneName (K : Nat) (x : ((List dq0) × Unit)) : Option ByteArray :=
    i_cloneName_l3 K K x.1 (List.replicate 5 false) (0 : Int) (fun z3 z4 =>
    (if (bnds (0 : Int) (5 : Int)) = true then
    (if (bnds (1 : Int) (5 : Int)) = true then
    (if (bnds (2 : Int) (5 : Int)) = true then
    (if (bnds (3 : Int) (5 : Int)) = true then
    (if (bnds (4 : Int) (5 : Int)) = true then
    (i_allAre K (z3, (fun y6 => i_Func_isUnary K (y6.1, ())), ())).bind fun y5 =>
    (if y5 = true then
    (if (z4.getD (3 : Int).toNat false) = true then
    (i_byConstants K ((⟨#[73]⟩ : ByteArray), (z4.getD (0 : Int).toNat false), (z4.getD (1 : Int).toNat false), ())).bind fun y7 =>
    some y7
    else
    i_cloneName_j10 K K z3 (z4.getD (0 : Int).toNat false) (z4.getD (1 : Int).toNat false) (z4.getD (2 : Int).toNat false) (z4.getD (3 : Int).toNat false) (z4.getD (4 : Int).toNat false) (fun z42 z43 =>
    i_cloneName_j30 K K z42 z43 none (fun z48 =>
    some z48)) (fun z49 =>
    some z49))
    else
    i_cloneName_j10 K K z3 (z4.getD (0 : Int).toNat false) (z4.getD (1 : Int).toNat false) (z4.getD (2 : Int).toNat false) (z4.getD (3 : Int).toNat false) (z4.getD (4 : Int).toNat false) (fun z50 z51 =>
    i_cloneName_j30 K K z50 z51 none (fun z52 =>
    some z52)) (fun z53 =>
    some z53))
    else
    none)
    else
    none)
    else
    none)
    else
    none)
    else
    none))
noncomputable def X0_i_cloneName : Lv := [(0, (.v (.sl tq0))), (3, (.bx (.v (.arr 5 .bool))))]
noncomputable def rv_i_cloneName : Lv := [(2, (.v .str))]
noncomputable def D_i_cloneName (K : Nat) : List (PD (den .str)) := [.L 3 [(0, (.v (.sl tq0))), (3, (.bx (.v (.arr 5 .bool)))), (10, (.v (.int .i64)))] [] (fun k x kx kr => i_cloneName_l3 K k x.1 x.2.1 x.2.2.1 (fun z0 z1 => kx 0 (mkSt X0_i_cloneName (z0, z1, ())))),
  .J 10 [(0, (.v (.sl tq0))), (5, (.v .bool)), (6, (.v .bool)), (7, (.v .bool)), (8, (.v .bool)), (9, (.v .bool))] [(5, (.v .bool)), (6, (.v .bool))] K (fun k x kn kx kr => i_cloneName_j10 K k x.1 x.2.1 x.2.2.1 x.2.2.2.1 x.2.2.2.2.1 x.2.2.2.2.2.1 (fun z0 z1 => kn (z0, z1, ())) (fun z0 => kr (mkSt rv_i_cloneName (z0, ())))),
  .J 18 [(0, (.v (.sl tq0))), (5, (.v .bool)), (6, (.v .bool)), (7, (.v .bool)), (8, (.v .bool)), (9, (.v .bool))] [(5, (.v .bool)), (6, (.v .bool))] K (fun k x kn kx kr => i_cloneName_j18 K k x.1 x.2.1 x.2.2.1 x.2.2.2.1 x.2.2.2.2.1 x.2.2.2.2.2.1 (fun z0 z1 => kn (z0, z1, ())) (fun z0 => kr (mkSt rv_i_cloneName (z0, ())))),
  .J 20 [(0, (.v (.sl tq0))), (5, (.v .bool)), (6, (.v .bool)), (7, (.v .bool)), (8, (.v .bool)), (9, (.v .bool))] [(5, (.v .bool)), (6, (.v .bool))] K (fun k x kn kx kr => i_cloneName_j20 K k x.1 x.2.1 x.2.2.1 x.2.2.2.1 x.2.2.2.2.1 x.2.2.2.2.2.1 (fun z0 z1 => kn (z0, z1, ())) (fun z0 => kr (mkSt rv_i_cloneName (z0, ())))),
  .J 30 [(5, (.v .bool)), (6, (.v .bool))] [] 0 (fun k x kn kx kr => i_cloneName_j30 K k x.1 x.2.1 (kn ()) (fun z0 => kr (mkSt rv_i_cloneName (z0, ()))))]
theorem ok_i_cloneName (K : Nat) : FnOk Tryd.prog 18 (sp_i_cloneName (i_cloneName K)) :=
  fn_okD tysOk [C_i_allIn K, C_i_allAre K, C_i_Func_isUnary K, C_i_byConstants K, C_i_choose K, C_i_Func_isDisjunction K, C_i_Func_isConjunction K, C_i_least K, C_i_separatedName K] 0 (D_i_cloneName K) [(0, X0_i_cloneName)] rv_i_cloneName K Tryd.func18 (by kernel_rfl) ⟨⟨fun _ _ _ _ => by kernel_rfl, fun _ _ _ => rfl⟩, ⟨fun _ _ _ _ _ => by kernel_rfl, ⟨fun _ _ _ _ _ => by kernel_rfl, ⟨fun _ _ _ _ _ => by kernel_rfl, ⟨fun _ _ _ _ _ => by kernel_rfl, trivial⟩⟩⟩⟩⟩ (fun _ => by kernel_rfl)
noncomputable def C_i_cloneName (K : Nat) : CB Tryd.prog := .f _ _ (ok_i_cloneName K)
noncomputable def as_s_l02Classes : Ty := (.pair (.sl tq0) (.pair (.int .i64) .unit))
noncomputable def sp_s_l02Classes (F : ((List dq0) × Int × Unit) → Option Int) : FnSpec := ⟨as_s_l02Classes, [false, false], (.int .i64), F⟩
noncomputable def s_l02Classes_l7 {R : Type} (K : Nat) : Nat → (List dq0) → Int → Int → Int → Bool → Int → ((List dq0) → Int → Int → Int → Bool → Option R) → Option R
  | 0, _, _, _, _, _, _, _ => none
  | k + 1, v0, v1, v5, v6, v7, v8, kx2 =>
    (if (decide (v8 < (v0.length : Int))) = true then
    (if v7 = true then
    (if (decide ((0 : Int) ≤ (IntKind.u64.wrap v8))) = true then
    let x1 := (bitI .and .i64 (shrI .i64 v1 (IntKind.u64.wrap v8)) (1 : Int))
    (if (decide (x1 = (0 : Int))) = true then
    s_l02Classes_l7 K k v0 v1 v5 v6 true (IntKind.i64.wrap (v8 + (1 : Int))) kx2
    else
    (if (bnds v8 (v0.length : Int)) = true then
    (s_l02In K ((v0.getD v8.toNat ((0 : Int), (0 : Int), ())), v6, ())).bind fun y2 =>
    s_l02Classes_l7 K k v0 v1 v5 v6 y2 (IntKind.i64.wrap (v8 + (1 : Int))) kx2
    else
    none))
    else
    none)
    else
    s_l02Classes_l7 K k v0 v1 v5 v6 false (IntKind.i64.wrap (v8 + (1 : Int))) kx2)
    else
    kx2 v0 v1 v5 v6 v7)
noncomputable def s_l02Classes_l3 {R : Type} (K : Nat) : Nat → (List dq0) → Int → Int → Int → (Int → Option R) → Option R
  | 0, _, _, _, _, _ => none
  | k + 1, v0, v1, v5, v6, kx0 =>
    (if (decide (v6 < (5 : Int))) = true then
    s_l02Classes_l7 K k v0 v1 v5 v6 true (0 : Int) (fun z3 z4 z5 z6 z7 =>
    (if z7 = true then
    (if (decide ((0 : Int) ≤ (IntKind.u64.wrap z6))) = true then
    let x8 := (bitI .or .i64 z5 (shlI .i64 (1 : Int) (IntKind.u64.wrap z6)))
    s_l02Classes_l3 K k z3 z4 x8 (IntKind.i64.wrap (z6 + (1 : Int))) kx0
    else
    none)
    else
    s_l02Classes_l3 K k z3 z4 z5 (IntKind.i64.wrap (z6 + (1 : Int))) kx0))
    else
    kx0 v5)
noncomputable def s_l02Classes (K : Nat) (x : ((List dq0) × Int × Unit)) : Option Int :=
    s_l02Classes_l3 K K x.1 x.2.1 (0 : Int) (0 : Int) (fun z9 =>
    some z9)
noncomputable def X0_s_l02Classes : Lv := [(5, (.v (.int .i64)))]
noncomputable def X2_s_l02Classes : Lv := [(0, (.v (.sl tq0))), (1, (.v (.int .i64))), (5, (.v (.int .i64))), (6, (.v (.int .i64))), (7, (.v .bool))]
noncomputable def rv_s_l02Classes : Lv := [(4, (.v (.int .i64)))]
noncomputable def D_s_l02Classes (K : Nat) : List (PD (den (.int .i64))) := [.L 3 [(0, (.v (.sl tq0))), (1, (.v (.int .i64))), (5, (.v (.int .i64))), (6, (.v (.int .i64)))] [] (fun k x kx kr => s_l02Classes_l3 K k x.1 x.2.1 x.2.2.1 x.2.2.2.1 (fun z0 => kx 0 (mkSt X0_s_l02Classes (z0, ())))),
  .L 7 [(0, (.v (.sl tq0))), (1, (.v (.int .i64))), (5, (.v (.int .i64))), (6, (.v (.int .i64))), (7, (.v .bool)), (8, (.v (.int .i64)))] [] (fun k x kx kr => s_l02Classes_l7 K k x.1 x.2.1 x.2.2.1 x.2.2.2.1 x.2.2.2.2.1 x.2.2.2.2.2.1 (fun z0 z1 z2 z3 z4 => kx 2 (mkSt X2_s_l02Classes (z0, z1, z2, z3, z4, ()))))]
theorem ok_s_l02Classes (K : Nat) : FnOk Tryd.prog 23 (sp_s_l02Classes (s_l02Classes K)) :=
  fn_okD tysOk [C_s_l02In K] 0 (D_s_l02Classes K) [(0, X0_s_l02Classes), (2, X2_s_l02Classes)] rv_s_l02Classes K Tryd.func23 (by kernel_rfl) ⟨⟨fun _ _ _ _ => by kernel_rfl, fun _ _ _ => rfl⟩, ⟨⟨fun _ _ _ _ => by kernel_rfl, fun _ _ _ => rfl⟩, trivial⟩⟩ (fun _ => by kernel_rfl)
noncomputable def C_s_l02Classes (K : Nat) : CB Tryd.prog := .f _ _ (ok_s_l02Classes K)
noncomputable def as_s_l02Whole : Ty := (.pair (.sl tq0) .unit)
noncomputable def sp_s_l02Whole (F : ((List dq0) × Unit) → Option Int) : FnSpec := ⟨as_s_l02Whole, [false], (.int .i64), F⟩
noncomputable def s_l02Whole (K : Nat) (x : ((List dq0) × Unit)) : Option Int :=
    (if (decide ((0 : Int) ≤ (IntKind.u64.wrap (x.1.length : Int)))) = true then
    let x1 := (IntKind.i64.wrap ((shlI .i64 (1 : Int) (IntKind.u64.wrap (x.1.length : Int))) - (1 : Int)))
    some x1
    else
    none)
noncomputable def rv_s_l02Whole : Lv := [(2, (.v (.int .i64)))]
theorem ok_s_l02Whole (K : Nat) : FnOk Tryd.prog 24 (sp_s_l02Whole (s_l02Whole K)) :=
  fn_okD tysOk [] 0 [] [] rv_s_l02Whole K Tryd.func24 (by kernel_rfl) trivial (fun _ => by kernel_rfl)
noncomputable def C_s_l02Whole (K : Nat) : CB Tryd.prog := .f _ _ (ok_s_l02Whole K)
noncomputable def as_s_l08Four : Ty := (.pair (.int .i64) (.pair .str (.pair .str (.pair .str (.pair .str .unit)))))
noncomputable def sp_s_l08Four (F : (Int × ByteArray × ByteArray × ByteArray × ByteArray × Unit) → Option ByteArray) : FnSpec := ⟨as_s_l08Four, [false, false, false, false, false], .str, F⟩
noncomputable def s_l08Four (K : Nat) (x : (Int × ByteArray × ByteArray × ByteArray × ByteArray × Unit)) : Option ByteArray :=
    (if (decide ((bitI .and .i64 x.1 (3 : Int)) = (3 : Int))) = true then
    some x.2.1
    else
    (if (decide ((bitI .and .i64 x.1 (3 : Int)) = (1 : Int))) = true then
    some x.2.2.1
    else
    (if (decide ((bitI .and .i64 x.1 (3 : Int)) = (2 : Int))) = true then
    some x.2.2.2.1
    else
    some x.2.2.2.2.1)))
noncomputable def rv_s_l08Four : Lv := [(10, (.v .str))]
theorem ok_s_l08Four (K : Nat) : FnOk Tryd.prog 28 (sp_s_l08Four (s_l08Four K)) :=
  fn_okD tysOk [] 0 [] [] rv_s_l08Four K Tryd.func28 (by kernel_rfl) trivial (fun _ => by kernel_rfl)
noncomputable def C_s_l08Four (K : Nat) : CB Tryd.prog := .f _ _ (ok_s_l08Four K)
noncomputable def s_l01Dec_b (K : Nat) (r : (Int × Unit) → Option ByteArray) (x : (Int × Unit)) : Option ByteArray :=
    (if (decide (x.1 < (0 : Int))) = true then
    (r ((IntKind.i64.wrap (0 - x.1)), ())).bind fun y1 =>
    (if (decide ((⟨#[45]⟩ : ByteArray).size + y1.size ≤ 9223372036854775807)) = true then
    some ((⟨#[45]⟩ : ByteArray) ++ y1)
    else
    none)
    else
    (if (decide (x.1 < (10 : Int))) = true then
    let l2 := [(IntKind.u8.wrap (IntKind.i64.wrap ((48 : Int) + x.1)))]
    some (bytesOf l2)
    else
    (r ((IntKind.i64.wrap (Int.tdiv x.1 (10 : Int))), ())).bind fun y3 =>
    let x4 := (IntKind.u8.wrap (IntKind.i64.wrap ((48 : Int) + (Int.tmod x.1 (10 : Int)))))
    (if (decide (y3.size + (bytesOf ([x4])).size ≤ 9223372036854775807)) = true then
    some (y3 ++ (bytesOf ([x4])))
    else
    none)))
noncomputable def s_l01Dec (K : Nat) : Nat → (Int × Unit) → Option ByteArray
  | 0 => fun _ => none
  | k + 1 => s_l01Dec_b K (s_l01Dec K k)
noncomputable def rv_s_l01Dec : Lv := [(2, (.v .str))]
theorem okb_s_l01Dec (K : Nat) (r : (Int × Unit) → Option ByteArray) (hr : FnOk Tryd.prog 59 (sp_s_l01Dec r)) : FnOk Tryd.prog 59 (sp_s_l01Dec (s_l01Dec_b K r)) :=
  fn_okD tysOk [.f _ (sp_s_l01Dec (r)) (hr)] 0 [] [] rv_s_l01Dec K Tryd.func59 (by kernel_rfl) trivial (fun _ => by kernel_rfl)
theorem ok_s_l01Dec (K : Nat) : ∀ k, FnOk Tryd.prog 59 (sp_s_l01Dec (s_l01Dec K k))
  | 0 => fnOk_none
  | k + 1 => okb_s_l01Dec K (s_l01Dec K k) (ok_s_l01Dec K k)
noncomputable def as_s_l08Degrees : Ty := (.pair .str (.pair (.int .i64) .unit))
noncomputable def sp_s_l08Degrees (F : (ByteArray × Int × Unit) → Option ByteArray) : FnSpec := ⟨as_s_l08Degrees, [false, false], .str, F⟩
noncomputable def s_l08Degrees (K : Nat) (x : (ByteArray × Int × Unit)) : Option ByteArray :=
    (if (decide (x.2.1 = (9 : Int))) = true then
    some x.1
    else
    (if (decide (x.1.size + (⟨#[94]⟩ : ByteArray).size ≤ 9223372036854775807)) = true then
    (s_l01Dec K K (x.2.1, ())).bind fun y1 =>
    (if (decide ((x.1 ++ (⟨#[94]⟩ : ByteArray)).size + y1.size ≤ 9223372036854775807)) = true then
    some ((x.1 ++ (⟨#[94]⟩ : ByteArray)) ++ y1)
    else
    none)
    else
    none))
noncomputable def rv_s_l08Degrees : Lv := [(4, (.v .str))]
theorem ok_s_l08Degrees (K : Nat) : FnOk Tryd.prog 29 (sp_s_l08Degrees (s_l08Degrees K)) :=
  fn_okD tysOk [.f _ (sp_s_l01Dec (s_l01Dec K K)) (ok_s_l01Dec K K)] 0 [] [] rv_s_l08Degrees K Tryd.func29 (by kernel_rfl) trivial (fun _ => by kernel_rfl)
noncomputable def C_s_l08Degrees (K : Nat) : CB Tryd.prog := .f _ _ (ok_s_l08Degrees K)
noncomputable def as_s_l08Kind : Ty := (.pair .bool (.pair .bool (.pair .str (.pair .str (.pair .str (.pair .str .unit))))))
noncomputable def sp_s_l08Kind (F : (Bool × Bool × ByteArray × ByteArray × ByteArray × ByteArray × Unit) → Option ByteArray) : FnSpec := ⟨as_s_l08Kind, [false, false, false, false, false, false], .str, F⟩
noncomputable def s_l08Kind_j3 {R : Type} (K : Nat) (k : Nat) (v0 : Bool) (v1 : Bool) (v3 : ByteArray) (v4 : ByteArray) (v5 : ByteArray) (kn : ByteArray → Option R) (kr : (ByteArray → Option R)) : Option R :=
    gN K ((if v1 = true then
    kr v3
    else
    (if v0 = true then
    kr v4
    else
    kn v5)))
noncomputable def s_l08Kind (K : Nat) (x : (Bool × Bool × ByteArray × ByteArray × ByteArray × ByteArray × Unit)) : Option ByteArray :=
    (if x.1 = true then
    (if x.2.1 = true then
    some x.2.2.1
    else
    s_l08Kind_j3 K K x.1 x.2.1 x.2.2.2.1 x.2.2.2.2.1 x.2.2.2.2.2.1 (fun z1 =>
    some z1) (fun z2 =>
    some z2))
    else
    s_l08Kind_j3 K K x.1 x.2.1 x.2.2.2.1 x.2.2.2.2.1 x.2.2.2.2.2.1 (fun z3 =>
    some z3) (fun z4 =>
    some z4))
noncomputable def rv_s_l08Kind : Lv := [(12, (.v .str))]
noncomputable def D_s_l08Kind (K : Nat) : List (PD (den .str)) := [.J 3 [(0, (.v .bool)), (1, (.v .bool)), (3, (.v .str)), (4, (.v .str)), (5, (.v .str))] [(5, (.v .str))] K (fun k x kn kx kr => s_l08Kind_j3 K k x.1 x.2.1 x.2.2.1 x.2.2.2.1 x.2.2.2.2.1 (fun z0 => kn (z0, ())) (fun z0 => kr (mkSt rv_s_l08Kind (z0, ()))))]
theorem ok_s_l08Kind (K : Nat) : FnOk Tryd.prog 30 (sp_s_l08Kind (s_l08Kind K)) :=
  fn_okD tysOk [] 0 (D_s_l08Kind K) [] rv_s_l08Kind K Tryd.func30 (by kernel_rfl) ⟨fun _ _ _ _ _ => by kernel_rfl, trivial⟩ (fun _ => by kernel_rfl)
noncomputable def C_s_l08Kind (K : Nat) : CB Tryd.prog := .f _ _ (ok_s_l08Kind K)
noncomputable def as_s_l08Name : Ty := (.pair (.sl tq0) .unit)
noncomputable def sp_s_l08Name (F : ((List dq0) × Unit) → Option ByteArray) : FnSpec := ⟨as_s_l08Name, [false], .str, F⟩
noncomputable def s_l08Name_j9 {R : Type} (K : Nat) (k : Nat) (v0 : (List dq0)) (v3 : Int) (v4 : Bool) (v5 : Bool) (v6 : Bool) (v7 : Int) (v8 : Int) (v9 : Int) (kn : (List dq0) → Int → Bool → Bool → Bool → Int → Int → Int → Option R)  : Option R :=
    (if (bnds v9 (v0.length : Int)) = true then
    (s_l08Degree K ((v0.getD v9.toNat ((0 : Int), (0 : Int), ())), (0 : Int), ())).bind fun y6 =>
    (if (bnds v9 (v0.length : Int)) = true then
    (s_l08Degree K ((v0.getD v9.toNat ((0 : Int), (0 : Int), ())), (1 : Int), ())).bind fun y7 =>
    kn v0 v3 v4 v5 v6 (minL v7 [y6]) (minL v8 [y7]) v9
    else
    none)
    else
    none)
noncomputable def s_l08Name_j8 {R : Type} (K : Nat) (k : Nat) (v0 : (List dq0)) (v3 : Int) (v4 : Bool) (v5 : Bool) (v6 : Bool) (v7 : Int) (v8 : Int) (v9 : Int) (kn : (List dq0) → Int → Bool → Bool → Bool → Int → Int → Int → Option R)  : Option R :=
    (if v6 = true then
    (if (bnds v9 (v0.length : Int)) = true then
    (s_l08Joined K ((v0.getD v9.toNat ((0 : Int), (0 : Int), ())), true, ())).bind fun y5 =>
    s_l08Name_j9 K k v0 v3 v4 v5 y5 v7 v8 v9 (fun z8 z9 z10 z11 z12 z13 z14 z15 =>
    kn z8 z9 z10 z11 z12 z13 z14 z15)
    else
    none)
    else
    s_l08Name_j9 K k v0 v3 v4 v5 false v7 v8 v9 (fun z16 z17 z18 z19 z20 z21 z22 z23 =>
    kn z16 z17 z18 z19 z20 z21 z22 z23))
noncomputable def s_l08Name_j7 {R : Type} (K : Nat) (k : Nat) (v0 : (List dq0)) (v3 : Int) (v4 : Bool) (v5 : Bool) (v6 : Bool) (v7 : Int) (v8 : Int) (v9 : Int) (kn : (List dq0) → Int → Bool → Bool → Bool → Int → Int → Int → Option R)  : Option R :=
    (if v5 = true then
    (if (bnds v9 (v0.length : Int)) = true then
    (s_l08Joined K ((v0.getD v9.toNat ((0 : Int), (0 : Int), ())), false, ())).bind fun y4 =>
    s_l08Name_j8 K k v0 v3 v4 y4 v6 v7 v8 v9 (fun z24 z25 z26 z27 z28 z29 z30 z31 =>
    kn z24 z25 z26 z27 z28 z29 z30 z31)
    else
    none)
    else
    s_l08Name_j8 K k v0 v3 v4 false v6 v7 v8 v9 (fun z32 z33 z34 z35 z36 z37 z38 z39 =>
    kn z32 z33 z34 z35 z36 z37 z38 z39))
noncomputable def s_l08Name_j5 {R : Type} (K : Nat) (k : Nat) (v0 : (List dq0)) (v3 : Int) (v4 : Bool) (v5 : Bool) (v6 : Bool) (v7 : Int) (v8 : Int) (v9 : Int) (kn : (List dq0) → Int → Bool → Bool → Bool → Int → Int → Int → Option R)  : Option R :=
    kn v0 v3 v4 v5 v6 v7 v8 (IntKind.i64.wrap (v9 + (1 : Int)))
noncomputable def s_l08Name_l4 {R : Type} (K : Nat) : Nat → (List dq0) → Int → Bool → Bool → Bool → Int → Int → Int → (Int → Bool → Bool → Bool → Int → Int → Option R) → Option R
  | 0, _, _, _, _, _, _, _, _, _ => none
  | k + 1, v0, v3, v4, v5, v6, v7, v8, v9, kx0 =>
    (if (decide (v9 < (v0.length : Int))) = true then
    (if v4 = true then
    (if (bnds v9 (v0.length : Int)) = true then
    (s_l01Essential K ((v0.getD v9.toNat ((0 : Int), (0 : Int), ())), ())).bind fun y3 =>
    s_l08Name_j7 K k v0 v3 (decide ((y3.length : Int) ≤ (1 : Int))) v5 v6 v7 v8 v9 (fun z40 z41 z42 z43 z44 z45 z46 z47 =>
    s_l08Name_j5 K k z40 z41 z42 z43 z44 z45 z46 z47 (fun z48 z49 z50 z51 z52 z53 z54 z55 =>
    s_l08Name_l4 K k z48 z49 z50 z51 z52 z53 z54 z55 kx0))
    else
    none)
    else
    s_l08Name_j7 K k v0 v3 false v5 v6 v7 v8 v9 (fun z56 z57 z58 z59 z60 z61 z62 z63 =>
    s_l08Name_j5 K k z56 z57 z58 z59 z60 z61 z62 z63 (fun z64 z65 z66 z67 z68 z69 z70 z71 =>
    s_l08Name_l4 K k z64 z65 z66 z67 z68 z69 z70 z71 kx0)))
    else
    kx0 v3 v4 v5 v6 v7 v8)
noncomputable def s_l08Name_j32 {R : Type} (K : Nat) (k : Nat) (v3 : Int) (v7 : Int) (v8 : Int) (v10 : Bool) (v11 : Bool) (kn : Int → Option R) (kr : (ByteArray → Option R)) : Option R :=
    gN K ((if v10 = true then
    kr (⟨#[68]⟩ : ByteArray)
    else
    (if (decide (v7 ≥ (2 : Int))) = true then
    (s_l08Kind K ((!decide ((bitI .and .i64 v3 (1 : Int)) = (0 : Int))), v11, (⟨#[83, 48, 48]⟩ : ByteArray), (⟨#[83, 48, 49]⟩ : ByteArray), (⟨#[83, 48, 50]⟩ : ByteArray), (⟨#[83, 48]⟩ : ByteArray), ())).bind fun y82 =>
    (s_l08Degrees K (y82, v7, ())).bind fun y83 =>
    kr y83
    else
    (if (decide (v8 ≥ (2 : Int))) = true then
    (s_l08Kind K ((!decide ((bitI .and .i64 v3 (2 : Int)) = (0 : Int))), v11, (⟨#[83, 49, 48]⟩ : ByteArray), (⟨#[83, 49, 49]⟩ : ByteArray), (⟨#[83, 49, 50]⟩ : ByteArray), (⟨#[83, 49]⟩ : ByteArray), ())).bind fun y84 =>
    (s_l08Degrees K (y84, v8, ())).bind fun y85 =>
    kr y85
    else
    (if v11 = true then
    (s_l08Four K (v3, (⟨#[77, 50]⟩ : ByteArray), (⟨#[77, 48]⟩ : ByteArray), (⟨#[77, 49]⟩ : ByteArray), (⟨#[77]⟩ : ByteArray), ())).bind fun y86 =>
    kr y86
    else
    kn v3)))))
noncomputable def s_l08Name_j30 {R : Type} (K : Nat) (k : Nat) (v3 : Int) (v7 : Int) (v8 : Int) (v10 : Bool) (v11 : Bool) (kn : Int → Option R) (kr : (ByteArray → Option R)) : Option R :=
    gN K ((if v10 = true then
    (if (!decide ((bitI .and .i64 v3 (1 : Int)) = (0 : Int))) = true then
    kr (⟨#[68, 49]⟩ : ByteArray)
    else
    s_l08Name_j32 K k v3 v7 v8 v10 v11 (fun z87 =>
    kn z87) (fun z88 =>
    kr z88))
    else
    s_l08Name_j32 K k v3 v7 v8 v10 v11 (fun z89 =>
    kn z89) (fun z90 =>
    kr z90)))
noncomputable def s_l08Name_j26 {R : Type} (K : Nat) (k : Nat) (v3 : Int) (v7 : Int) (v8 : Int) (v10 : Bool) (v11 : Bool) (v12 : Bool) (kn : Int → Option R) (kr : (ByteArray → Option R)) : Option R :=
    gN K ((if v12 = true then
    (s_l08Four K (v3, (⟨#[76, 50]⟩ : ByteArray), (⟨#[76, 48]⟩ : ByteArray), (⟨#[76, 49]⟩ : ByteArray), (⟨#[76]⟩ : ByteArray), ())).bind fun y81 =>
    kr y81
    else
    (if v10 = true then
    (if v11 = true then
    kr (⟨#[68, 50]⟩ : ByteArray)
    else
    s_l08Name_j30 K k v3 v7 v8 v10 v11 (fun z91 =>
    kn z91) (fun z92 =>
    kr z92))
    else
    s_l08Name_j30 K k v3 v7 v8 v10 v11 (fun z93 =>
    kn z93) (fun z94 =>
    kr z94))))
noncomputable def s_l08Name_j24 {R : Type} (K : Nat) (k : Nat) (v3 : Int) (v7 : Int) (v8 : Int) (v10 : Bool) (v11 : Bool) (v12 : Bool) (kn : Int → Option R) (kr : (ByteArray → Option R)) : Option R :=
    gN K ((if v12 = true then
    (if v10 = true then
    kr (⟨#[76, 51]⟩ : ByteArray)
    else
    s_l08Name_j26 K k v3 v7 v8 v10 v11 v12 (fun z95 =>
    kn z95) (fun z96 =>
    kr z96))
    else
    s_l08Name_j26 K k v3 v7 v8 v10 v11 v12 (fun z97 =>
    kn z97) (fun z98 =>
    kr z98)))
noncomputable def s_l08Name_j16 {R : Type} (K : Nat) (k : Nat) (v3 : Int) (v4 : Bool) (v5 : Bool) (v6 : Bool) (v7 : Int) (v8 : Int) (v10 : Bool) (v11 : Bool) (v12 : Bool) (kn : Int → Option R) (kr : (ByteArray → Option R)) : Option R :=
    gN K ((if v4 = true then
    kr (⟨#[78]⟩ : ByteArray)
    else
    (if v5 = true then
    (s_l08Four K (v3, (⟨#[86, 50]⟩ : ByteArray), (⟨#[86, 48]⟩ : ByteArray), (⟨#[86, 49]⟩ : ByteArray), (⟨#[86]⟩ : ByteArray), ())).bind fun y79 =>
    kr y79
    else
    (if v6 = true then
    (s_l08Four K (v3, (⟨#[69, 50]⟩ : ByteArray), (⟨#[69, 48]⟩ : ByteArray), (⟨#[69, 49]⟩ : ByteArray), (⟨#[69]⟩ : ByteArray), ())).bind fun y80 =>
    kr y80
    else
    (if v12 = true then
    (if (decide ((bitI .and .i64 v3 (3 : Int)) = (3 : Int))) = true then
    kr (⟨#[76, 50]⟩ : ByteArray)
    else
    s_l08Name_j24 K k v3 v7 v8 v10 v11 v12 (fun z99 =>
    kn z99) (fun z100 =>
    kr z100))
    else
    s_l08Name_j24 K k v3 v7 v8 v10 v11 v12 (fun z101 =>
    kn z101) (fun z102 =>
    kr z102))))))
noncomputable def s_l08Name_j14 {R : Type} (K : Nat) (k : Nat) (v3 : Int) (v4 : Bool) (v5 : Bool) (v6 : Bool) (v7 : Int) (v8 : Int) (v10 : Bool) (v11 : Bool) (v12 : Bool) (kn : Int → Option R) (kr : (ByteArray → Option R)) : Option R :=
    gN K ((if v4 = true then
    (if v10 = true then
    kr (⟨#[78, 50]⟩ : ByteArray)
    else
    s_l08Name_j16 K k v3 v4 v5 v6 v7 v8 v10 v11 v12 (fun z103 =>
    kn z103) (fun z104 =>
    kr z104))
    else
    s_l08Name_j16 K k v3 v4 v5 v6 v7 v8 v10 v11 v12 (fun z105 =>
    kn z105) (fun z106 =>
    kr z106)))
noncomputable def s_l08Name_j40 {R : Type} (K : Nat) (k : Nat) (v3 : Int) (kn : Option R) (kr : (ByteArray → Option R)) : Option R :=
    (s_l08Four K (v3, (⟨#[82, 50]⟩ : ByteArray), (⟨#[82, 48]⟩ : ByteArray), (⟨#[82, 49]⟩ : ByteArray), (⟨#[66, 70]⟩ : ByteArray), ())).bind fun y108 =>
    kr y108
noncomputable def s_l08Name (K : Nat) (x : ((List dq0) × Unit)) : Option ByteArray :=
    (s_l02Whole K (x.1, ())).bind fun y1 =>
    (s_l02Classes K (x.1, y1, ())).bind fun y2 =>
    s_l08Name_l4 K K x.1 y2 true true true (9 : Int) (9 : Int) (0 : Int) (fun z72 z73 z74 z75 z76 z77 =>
    (if z73 = true then
    (if (!decide ((bitI .and .i64 z72 (8 : Int)) = (0 : Int))) = true then
    (s_l08Four K (z72, (⟨#[73, 50]⟩ : ByteArray), (⟨#[73, 48]⟩ : ByteArray), (⟨#[73, 49]⟩ : ByteArray), (⟨#[73]⟩ : ByteArray), ())).bind fun y78 =>
    some y78
    else
    s_l08Name_j14 K K z72 z73 z74 z75 z76 z77 (!decide ((bitI .and .i64 z72 (4 : Int)) = (0 : Int))) (!decide ((bitI .and .i64 z72 (8 : Int)) = (0 : Int))) (!decide ((bitI .and .i64 z72 (16 : Int)) = (0 : Int))) (fun z107 =>
    s_l08Name_j40 K K z107 none (fun z109 =>
    some z109)) (fun z110 =>
    some z110))
    else
    s_l08Name_j14 K K z72 z73 z74 z75 z76 z77 (!decide ((bitI .and .i64 z72 (4 : Int)) = (0 : Int))) (!decide ((bitI .and .i64 z72 (8 : Int)) = (0 : Int))) (!decide ((bitI .and .i64 z72 (16 : Int)) = (0 : Int))) (fun z111 =>
    s_l08Name_j40 K K z111 none (fun z112 =>
    some z112)) (fun z113 =>
    some z113)))
noncomputable def X0_s_l08Name : Lv := [(3, (.v (.int .i64))), (4, (.v .bool)), (5, (.v .bool)), (6, (.v .bool)), (7, (.v (.int .i64))), (8, (.v (.int .i64)))]
noncomputable def rv_s_l08Name : Lv := [(2, (.v .str))]
noncomputable def D_s_l08Name (K : Nat) : List (PD (den .str)) := [.L 4 [(0, (.v (.sl tq0))), (3, (.v (.int .i64))), (4, (.v .bool)), (5, (.v .bool)), (6, (.v .bool)), (7, (.v (.int .i64))), (8, (.v (.int .i64))), (9, (.v (.int .i64)))] [] (fun k x kx kr => s_l08Name_l4 K k x.1 x.2.1 x.2.2.1 x.2.2.2.1 x.2.2.2.2.1 x.2.2.2.2.2.1 x.2.2.2.2.2.2.1 x.2.2.2.2.2.2.2.1 (fun z0 z1 z2 z3 z4 z5 => kx 0 (mkSt X0_s_l08Name (z0, z1, z2, z3, z4, z5, ())))),
  .J 7 [(0, (.v (.sl tq0))), (3, (.v (.int .i64))), (4, (.v .bool)), (5, (.v .bool)), (6, (.v .bool)), (7, (.v (.int .i64))), (8, (.v (.int .i64))), (9, (.v (.int .i64)))] [(0, (.v (.sl tq0))), (3, (.v (.int .i64))), (4, (.v .bool)), (5, (.v .bool)), (6, (.v .bool)), (7, (.v (.int .i64))), (8, (.v (.int .i64))), (9, (.v (.int .i64)))] 0 (fun k x kn kx kr => s_l08Name_j7 K k x.1 x.2.1 x.2.2.1 x.2.2.2.1 x.2.2.2.2.1 x.2.2.2.2.2.1 x.2.2.2.2.2.2.1 x.2.2.2.2.2.2.2.1 (fun z0 z1 z2 z3 z4 z5 z6 z7 => kn (z0, z1, z2, z3, z4, z5, z6, z7, ()))),
  .J 8 [(0, (.v (.sl tq0))), (3, (.v (.int .i64))), (4, (.v .bool)), (5, (.v .bool)), (6, (.v .bool)), (7, (.v (.int .i64))), (8, (.v (.int .i64))), (9, (.v (.int .i64)))] [(0, (.v (.sl tq0))), (3, (.v (.int .i64))), (4, (.v .bool)), (5, (.v .bool)), (6, (.v .bool)), (7, (.v (.int .i64))), (8, (.v (.int .i64))), (9, (.v (.int .i64)))] 0 (fun k x kn kx kr => s_l08Name_j8 K k x.1 x.2.1 x.2.2.1 x.2.2.2.1 x.2.2.2.2.1 x.2.2.2.2.2.1 x.2.2.2.2.2.2.1 x.2.2.2.2.2.2.2.1 (fun z0 z1 z2 z3 z4 z5 z6 z7 => kn (z0, z1, z2, z3, z4, z5, z6, z7, ()))),
  .J 9 [(0, (.v (.sl tq0))), (3, (.v (.int .i64))), (4, (.v .bool)), (5, (.v .bool)), (6, (.v .bool)), (7, (.v (.int .i64))), (8, (.v (.int .i64))), (9, (.v (.int .i64)))] [(0, (.v (.sl tq0))), (3, (.v (.int .i64))), (4, (.v .bool)), (5, (.v .bool)), (6, (.v .bool)), (7, (.v (.int .i64))), (8, (.v (.int .i64))), (9, (.v (.int .i64)))] 0 (fun k x kn kx kr => s_l08Name_j9 K k x.1 x.2.1 x.2.2.1 x.2.2.2.1 x.2.2.2.2.1 x.2.2.2.2.2.1 x.2.2.2.2.2.2.1 x.2.2.2.2.2.2.2.1 (fun z0 z1 z2 z3 z4 z5 z6 z7 => kn (z0, z1, z2, z3, z4, z5, z6, z7, ()))),
  .J 5 [(0, (.v (.sl tq0))), (3, (.v (.int .i64))), (4, (.v .bool)), (5, (.v .bool)), (6, (.v .bool)), (7, (.v (.int .i64))), (8, (.v (.int .i64))), (9, (.v (.int .i64)))] [(0, (.v (.sl tq0))), (3, (.v (.int .i64))), (4, (.v .bool)), (5, (.v .bool)), (6, (.v .bool)), (7, (.v (.int .i64))), (8, (.v (.int .i64))), (9, (.v (.int .i64)))] 0 (fun k x kn kx kr => s_l08Name_j5 K k x.1 x.2.1 x.2.2.1 x.2.2.2.1 x.2.2.2.2.1 x.2.2.2.2.2.1 x.2.2.2.2.2.2.1 x.2.2.2.2.2.2.2.1 (fun z0 z1 z2 z3 z4 z5 z6 z7 => kn (z0, z1, z2, z3, z4, z5, z6, z7, ()))),
  .J 14 [(3, (.v (.int .i64))), (4, (.v .bool)), (5, (.v .bool)), (6, (.v .bool)), (7, (.v (.int .i64))), (8, (.v (.int .i64))), (10, (.v .bool)), (11, (.v .bool)), (12, (.v .bool))] [(3, (.v (.int .i64)))] K (fun k x kn kx kr => s_l08Name_j14 K k x.1 x.2.1 x.2.2.1 x.2.2.2.1 x.2.2.2.2.1 x.2.2.2.2.2.1 x.2.2.2.2.2.2.1 x.2.2.2.2.2.2.2.1 x.2.2.2.2.2.2.2.2.1 (fun z0 => kn (z0, ())) (fun z0 => kr (mkSt rv_s_l08Name (z0, ())))),
  .J 16 [(3, (.v (.int .i64))), (4, (.v .bool)), (5, (.v .bool)), (6, (.v .bool)), (7, (.v (.int .i64))), (8, (.v (.int .i64))), (10, (.v .bool)), (11, (.v .bool)), (12, (.v .bool))] [(3, (.v (.int .i64)))] K (fun k x kn kx kr => s_l08Name_j16 K k x.1 x.2.1 x.2.2.1 x.2.2.2.1 x.2.2.2.2.1 x.2.2.2.2.2.1 x.2.2.2.2.2.2.1 x.2.2.2.2.2.2.2.1 x.2.2.2.2.2.2.2.2.1 (fun z0 => kn (z0, ())) (fun z0 => kr (mkSt rv_s_l08Name (z0, ())))),
  .J 24 [(3, (.v (.int .i64))), (7, (.v (.int .i64))), (8, (.v (.int .i64))), (10, (.v .bool)), (11, (.v .bool)), (12, (.v .bool))] [(3, (.v (.int .i64)))] K (fun k x kn kx kr => s_l08Name_j24 K k x.1 x.2.1 x.2.2.1 x.2.2.2.1 x.2.2.2.2.1 x.2.2.2.2.2.1 (fun z0 => kn (z0, ())) (fun z0 => kr (mkSt rv_s_l08Name (z0, ())))),
  .J 26 [(3, (.v (.int .i64))), (7, (.v (.int .i64))), (8, (.v (.int .i64))), (10, (.v .bool)), (11, (.v .bool)), (12, (.v .bool))] [(3, (.v (.int .i64)))] K (fun k x kn kx kr => s_l08Name_j26 K k x.1 x.2.1 x.2.2.1 x.2.2.2.1 x.2.2.2.2.1 x.2.2.2.2.2.1 (fun z0 => kn (z0, ())) (fun z0 => kr (mkSt rv_s_l08Name (z0, ())))),
  .J 30 [(3, (.v (.int .i64))), (7, (.v (.int .i64))), (8, (.v (.int .i64))), (10, (.v .bool)), (11, (.v .bool))] [(3, (.v (.int .i64)))] K (fun k x kn kx kr => s_l08Name_j30 K k x.1 x.2.1 x.2.2.1 x.2.2.2.1 x.2.2.2.2.1 (fun z0 => kn (z0, ())) (fun z0 => kr (mkSt rv_s_l08Name (z0, ())))),
  .J 32 [(3, (.v (.int .i64))), (7, (.v (.int .i64))), (8, (.v (.int .i64))), (10, (.v .bool)), (11, (.v .bool))] [(3, (.v (.int .i64)))] K (fun k x kn kx kr => s_l08Name_j32 K k x.1 x.2.1 x.2.2.1 x.2.2.2.1 x.2.2.2.2.1 (fun z0 => kn (z0, ())) (fun z0 => kr (mkSt rv_s_l08Name (z0, ())))),
  .J 40 [(3, (.v (.int .i64)))] [] 0 (fun k x kn kx kr => s_l08Name_j40 K k x.1 (kn ()) (fun z0 => kr (mkSt rv_s_l08Name (z0, ()))))]
theorem ok_s_l08Name (K : Nat) : FnOk Tryd.prog 15 (sp_s_l08Name (s_l08Name K)) :=
  fn_okD tysOk [C_s_l02Classes K, C_s_l02Whole K, C_s_l01Essential K, C_s_l08Joined K, C_s_l08Degree K, C_s_l08Four K, C_s_l08Degrees K, C_s_l08Kind K] 0 (D_s_l08Name K) [(0, X0_s_l08Name)] rv_s_l08Name K Tryd.func15 (by kernel_rfl) ⟨⟨fun _ _ _ _ => by kernel_rfl, fun _ _ _ => rfl⟩, ⟨fun _ _ _ _ _ => by kernel_rfl, ⟨fun _ _ _ _ _ => by kernel_rfl, ⟨fun _ _ _ _ _ => by kernel_rfl, ⟨fun _ _ _ _ _ => by kernel_rfl, ⟨fun _ _ _ _ _ => by kernel_rfl, ⟨fun _ _ _ _ _ => by kernel_rfl, ⟨fun _ _ _ _ _ => by kernel_rfl, ⟨fun _ _ _ _ _ => by kernel_rfl, ⟨fun _ _ _ _ _ => by kernel_rfl, ⟨fun _ _ _ _ _ => by kernel_rfl, ⟨fun _ _ _ _ _ => by kernel_rfl, trivial⟩⟩⟩⟩⟩⟩⟩⟩⟩⟩⟩⟩ (fun _ => by kernel_rfl)
noncomputable def C_s_l08Name (K : Nat) : CB Tryd.prog := .f _ _ (ok_s_l08Name K)
end Go.Proofs.YtfmenkglnkenpaaDoor.E
namespace Go.Proofs.YtfmenkglnkenpaaDoor.E
open Go Go.Proofs
set_option linter.unusedVariables false
set_option linter.unusedSimpArgs false
variable {K : Nat} {R : Type}
/-! lists of functions: loops over lists; classes and degrees of a list -/
theorem lpLA {α : Type} {L : Nat → Int → Option R} {g : α → Bool} {l : List α} {B : Nat} {kx kf : Option R} (stop : ∀ k, L (k + 1) (l.length : Int) = kx)
    (step : ∀ k p y r, l = p ++ y :: r → B ≤ k → L (k + 1) (p.length : Int) = if g y = true then L k ((p ++ [y]).length : Int) else kf) :
    ∀ (r p : List α) (k : Nat), l = p ++ r → B + r.length < k → L k (p.length : Int) = if r.all g = true then kx else kf
  | _, _, 0, _, h => by omega
  | [], p, k + 1, e, h => by
    rw [List.append_nil] at e; subst e; rw [stop]; rfl
  | y :: r, p, k + 1, e, h => by
    rw [List.length_cons] at h
    rw [step k p y r e (by omega), List.all_cons]
    cases hp : g y
    · rfl
    · rw [ite_t rfl, Bool.true_and]; exact lpLA stop step r (p ++ [y]) k (by rw [e, mid_app]) (by omega)
theorem lpLF {α σ : Type} {L : Nat → σ → Int → Option R} {f : σ → α → σ} {l : List α} {B : Nat} {kx : σ → Option R} (stop : ∀ k s, L (k + 1) s (l.length : Int) = kx s)
    (step : ∀ k p y r s, l = p ++ y :: r → B ≤ k → L (k + 1) s (p.length : Int) = L k (f s y) ((p ++ [y]).length : Int)) :
    ∀ (r p : List α) (k : Nat) (s : σ), l = p ++ r → B + r.length < k → L k s (p.length : Int) = kx (r.foldl f s)
  | _, _, 0, _, _, h => by omega
  | [], p, k + 1, s, e, h => by
    rw [List.append_nil] at e; subst e; rw [stop]; rfl
  | y :: r, p, k + 1, s, e, h => by
    rw [List.length_cons] at h
    rw [step k p y r s e (by omega), List.foldl_cons]
    exact lpLF stop step r (p ++ [y]) k _ (by rw [e, mid_app]) (by omega)
/-- Lists of functions. -/
def okL (l : List DF) : Prop := (∀ f ∈ l, isF 0 f = true) ∧ l.length ≤ 40
theorem okL.nat {l : List DF} (h : okL l) {f : DF} (hf : f ∈ l) : ∃ n b : Nat, f = ((n : Int), (b : Int), ()) ∧ n ≤ 4 ∧ b < 2 ^ 2 ^ n := by
  obtain ⟨n, b, h1, h2, h3, _⟩ := isF_nat (h.1 f hf) (by decide)
  exact ⟨n, b, h1, h2, h3⟩
theorem mem_mid {α : Type} {l p r : List α} {y : α} (h : l = p ++ y :: r) : y ∈ l := by rw [h]; simp
theorem idx_impl_Func_l (f : DF × Unit → Option Bool) (g : DF → Bool) (l : List DF) (hl : l.length < 4611686018427387904) (kx : Option R) (kr : Int → Option R) : ∀ (r p : List DF) (k : Nat), l = p ++ r → r.length < k → (∀ x ∈ r, f (x, ()) = some (g x)) →
    slices_IndexFunc_impl_Func_l2 K k l f (l.length : Int) (p.length : Int) kx kr = match r.findIdx? g with | some j => kr ((p.length + j : Nat) : Int) | none => kx
  | [], p, k + 1, h, _, _ => by subst h; simp only [slices_IndexFunc_impl_Func_l2]; rw [ite_f nlt_len]; rfl
  | y :: r, p, k + 1, h, hk, hf => by
    subst h
    simp only [slices_IndexFunc_impl_Func_l2]
    rw [ite_t lt_len, ite_t bnds_mid, getD_midI, hf y (by simp), some_bind', List.findIdx?_cons]
    cases hg : g y
    · rw [if_neg (by decide), if_neg (by decide), next_i hl, idx_impl_Func_l f g _ hl kx kr r (p ++ [y]) k (mid_app p r y) (by simp at hk; omega) (fun x hx => hf x (by simp [hx]))]
      cases hr : r.findIdx? g
      · rfl
      · simp only [Option.map_some]; congr 1; simp; omega
    · rw [if_pos rfl, if_pos rfl]; rfl
theorem slices_ContainsFunc_impl_Func_eq (f : DF × Unit → Option Bool) (g : DF → Bool) {l : List DF} (hl : l.length < 4611686018427387904) (hK : 4611686018427387904 ≤ K) (hf : ∀ x ∈ l, f (x, ()) = some (g x)) :
    slices_ContainsFunc_impl_Func K (l, f, ()) = some (l.any g) := by
  simp only [slices_ContainsFunc_impl_Func, slices_IndexFunc_impl_Func]
  have := idx_impl_Func_l (K := K) f g l hl (some (-1 : Int)) (fun z => some z) l [] K rfl (by omega) hf
  simp only [List.length_nil, Nat.zero_add] at this
  rw [show ((0 : Nat) : Int) = 0 from rfl] at this
  rw [this, ← List.findIdx?_isSome]; cases l.findIdx? g <;> simp
theorem any_not' {α : Type} (l : List α) (g : α → Bool) : (!(l.any fun a => !g a)) = l.all g := by
  induction l with
  | nil => rfl
  | cons a l ih => simp only [List.any_cons, List.all_cons, Bool.not_or, Bool.not_not, ih]
theorem i_allAre_eq {l : List DF} (hl : l.length < 4611686018427387904) (hK : 4611686018427387904 ≤ K) {f : DF × Unit → Option Bool} {g : DF → Bool} (hf : ∀ x ∈ l, f (x, ()) = some (g x)) : i_allAre K (l, f, ()) = some (l.all g) := by
  simp only [i_allAre]
  rw [slices_ContainsFunc_impl_Func_eq _ (fun x => !g x) hl hK (fun x hx => by simp only [i_allAre_c1]; rw [hf x hx, some_bind']), some_bind', any_not']
/-- What a function is, told by numbers. -/
def pC (k : Nat) (f : DF) : Bool := inC f.1.toNat f.2.1.toNat k
def pU (f : DF) : Bool := decide ((essL f.1.toNat f.2.1.toNat).length ≤ 1)
def pJ (all : Bool) (f : DF) : Bool := joinB all f.1.toNat f.2.1.toNat
def pD (c : Nat) (f : DF) : Nat := degN f.1.toNat f.2.1.toNat c
theorem i_allIn_eq {l : List DF} (h : okL l) (hK : 4611686018427387904 ≤ K) {k : Nat} (hk : k < 5) : i_allIn K (l, (k : Int), ()) = some (l.all (pC k)) := by
  simp only [i_allIn]
  rw [slices_ContainsFunc_impl_Func_eq _ (fun x => !pC k x) (by have := h.2; omega) hK (fun x hx => by
    obtain ⟨n, b, rfl, hn, hb⟩ := h.nat hx
    simp only [i_allIn_c1]; rw [i_isIn_eq hn hb hk hK, some_bind']; rfl), some_bind', any_not']
theorem i_unary_eq {l : List DF} (h : okL l) (hK : 4611686018427387904 ≤ K) : i_allAre K (l, (fun y => i_Func_isUnary K (y.1, ())), ()) = some (l.all pU) :=
  i_allAre_eq (by have := h.2; omega) hK fun x hx => by
    obtain ⟨n, b, rfl, hn, hb⟩ := h.nat hx
    have := b4 hn hb
    exact i_Func_isUnary_eq hn (by omega) (by omega)
theorem i_disj_eq {l : List DF} (h : okL l) (hK : 4611686018427387904 ≤ K) : i_allAre K (l, (fun y => i_Func_isDisjunction K (y.1, ())), ()) = some (l.all (pJ false)) :=
  i_allAre_eq (by have := h.2; omega) hK fun x hx => by
    obtain ⟨n, b, rfl, hn, hb⟩ := h.nat hx
    have := b4 hn hb
    exact i_Func_isDisjunction_eq hn (by omega) hK
theorem i_conj_eq {l : List DF} (h : okL l) (hK : 4611686018427387904 ≤ K) : i_allAre K (l, (fun y => i_Func_isConjunction K (y.1, ())), ()) = some (l.all (pJ true)) :=
  i_allAre_eq (by have := h.2; omega) hK fun x hx => by
    obtain ⟨n, b, rfl, hn, hb⟩ := h.nat hx
    have := b4 hn hb
    exact i_Func_isConjunction_eq hn (by omega) hK
theorem degF_nat {n b c : Nat} (hn : n ≤ 4) (hb : b < 65536) (hc : c ≤ 1) : i_Func_degree K (((n : Int), (b : Int), ()), (c : Int), ()) = some ((degN n b c : Nat) : Int) := by
  simp only [i_Func_degree, degF]
  rw [if_pos ⟨by omega, by omega, by omega, by omega, by omega, by omega⟩]; simp
/-- The degree of a list. -/
def leastN (c : Nat) (l : List DF) : Nat := l.foldl (fun a f => min a (pD c f)) 9
theorem minL_nat (a b : Nat) : minL (a : Int) [(b : Int)] = ((min a b : Nat) : Int) := by
  simp only [minL]; split <;> omega
theorem i_least_eq {l : List DF} (h : okL l) (hK : 100 ≤ K) {c : Nat} (hc : c ≤ 1) : i_least K (l, (c : Int), ()) = some ((leastN c l : Nat) : Int) := by
  have h2 := h.2
  simp only [i_least]
  refine lpLF (l := l) (L := fun k (s : Nat) i => i_least_l3 K k (c : Int) (s : Int) l (l.length : Int) i (fun z2 => some z2)) (f := fun a f => min a (pD c f)) (B := 0) (kx := fun s => some (s : Int)) (fun k s => ?_) (fun k p y r s e _ => ?_) l [] K 9 rfl (by omega)
  · simp only [i_least_l3]; rw [ite_f (decide_eq_false (by omega))]
  · obtain ⟨n, b, rfl, hn, hb⟩ := h.nat (mem_mid e)
    subst e
    simp only [i_least_l3]
    rw [ite_t lt_len, ite_t bnds_mid, getD_midI, degF_nat hn (b4 hn hb) hc, some_bind', minL_nat, next_i (p := p) (r := r) (y := ((n : Int), (b : Int), ())) (by omega)]; rfl
/-- The classes of a list as digits. -/
def mask (c0 c1 c2 c3 c4 : Bool) : Int := ((c0.toNat + 2 * c1.toNat + 4 * c2.toNat + 8 * c3.toNat + 16 * c4.toNat : Nat) : Int)
theorem whole_eq {l : List DF} (h : okL l) : s_l02Whole K (l, ()) = some ((2 ^ l.length - 1 : Nat) : Int) := by
  have h2 := h.2
  have h3 : 2 ^ l.length ≤ 2 ^ 40 := Nat.pow_le_pow_right (by decide) h2
  have h4 : 1 ≤ 2 ^ l.length := Nat.one_le_two_pow
  simp only [s_l02Whole]
  rw [ite_t (u64_dec _), u64n (by omega), shl1 (by omega), w64 (by omega) (by omega)]
  congr 1; omega
theorem ones_bit {m i : Nat} (h : i < m) : (2 ^ m - 1).testBit i = true := by rw [Nat.testBit_two_pow_sub_one]; exact decide_eq_true h
theorem classes_l7 {l : List DF} (h : okL l) {c : Nat} (hc : c < 5) (v5 : Int) (kx : List DF → Int → Int → Int → Bool → Option R) (k : Nat) (hk : 100 ≤ k) (hK : 100 ≤ K) :
    s_l02Classes_l7 K k l ((2 ^ l.length - 1 : Nat) : Int) v5 (c : Int) true 0 kx = kx l ((2 ^ l.length - 1 : Nat) : Int) v5 (c : Int) (l.all (pC c)) := by
  have h2 := h.2
  have h3 : 2 ^ l.length ≤ 2 ^ 40 := Nat.pow_le_pow_right (by decide) h2
  refine (lpLF (l := l) (L := fun k (s : Bool) i => s_l02Classes_l7 K k l ((2 ^ l.length - 1 : Nat) : Int) v5 (c : Int) s i kx) (f := fun a f => a && pC c f) (B := 0) (kx := fun s => kx l ((2 ^ l.length - 1 : Nat) : Int) v5 (c : Int) s) (fun k s => ?_) (fun k p y r s e _ => ?_) l [] k true rfl (by omega)).trans ?_
  · simp only [s_l02Classes_l7]; rw [ite_f (decide_eq_false (by omega))]
  · obtain ⟨n, b, rfl, hn, hb⟩ := h.nat (mem_mid e)
    have hp : p.length < l.length := by rw [e]; simp
    have hw : IntKind.i64.wrap ((p.length : Int) + 1) = (((p ++ [((n : Int), (b : Int), ())]).length : Nat) : Int) := by rw [snoc_len]; exact w64s (by omega)
    simp only [s_l02Classes_l7]
    rw [ite_t (decide_eq_true (by omega))]
    cases s
    · rw [ite_f rfl, hw]; rfl
    · rw [ite_t rfl, ite_t (u64_dec _), u64n (by omega), bitI_bt _ (by omega), bt, if_pos (ones_bit hp), ite_f (by rfl), ite_t (bnds_n hp), hw]
      have hg : l.getD ((p.length : Nat) : Int).toNat ((0 : Int), (0 : Int), ()) = ((n : Int), (b : Int), ()) := by rw [e]; exact getD_midI p r _ _
      rw [hg, s_l02In_eq hn hb hc hK, some_bind']; rfl
  · congr 1
    have : ∀ (l : List DF) (a : Bool), l.foldl (fun a f => a && pC c f) a = (a && l.all (pC c)) := by
      intro l
      induction l with
      | nil => intro a; simp
      | cons y r ih => intro a; rw [List.foldl_cons, ih, List.all_cons, Bool.and_assoc]
    rw [this]; rfl
theorem classes_eq {l : List DF} (h : okL l) (hK : 200 ≤ K) : s_l02Classes K (l, ((2 ^ l.length - 1 : Nat) : Int), ()) = some (mask (l.all (pC 0)) (l.all (pC 1)) (l.all (pC 2)) (l.all (pC 3)) (l.all (pC 4))) := by
  obtain ⟨k, e⟩ : ∃ k, K = k + 100 + 6 := ⟨K - 106, by omega⟩
  have step : ∀ (k c : Nat) (x : Nat), c < 5 → x < 32 → 100 ≤ k → s_l02Classes_l3 K (k + 1) l ((2 ^ l.length - 1 : Nat) : Int) (x : Int) (c : Int) (fun z9 => some z9) = s_l02Classes_l3 K k l ((2 ^ l.length - 1 : Nat) : Int) (((x ||| (if l.all (pC c) = true then 2 ^ c else 0)) : Nat) : Int) ((c + 1 : Nat) : Int) (fun z9 => some z9) := by
    intro k c x hc hx hk
    simp only [s_l02Classes_l3]
    rw [ite_t (decide_eq_true (by omega)), classes_l7 h hc _ _ k hk (by omega), w64s (by omega)]
    cases l.all (pC c)
    · rw [ite_f rfl]; simp
    · have : 2 ^ c ≤ 2 ^ 4 := Nat.pow_le_pow_right (by decide) (by omega)
      rw [ite_t rfl, ite_t (u64_dec _), u64n (by omega), shl1 (by omega), bitI_or (by omega) (by omega)]; rfl
  have stop : ∀ (k x : Nat), s_l02Classes_l3 K (k + 1) l ((2 ^ l.length - 1 : Nat) : Int) (x : Int) ((5 : Nat) : Int) (fun z9 => some z9) = some (x : Int) := by
    intro k x; simp only [s_l02Classes_l3]; rw [ite_f (decide_eq_false (by omega))]
  simp only [s_l02Classes]
  have hlt : ∀ (x c : Nat) (q : Bool), x < 32 → c < 5 → (x ||| (if q = true then 2 ^ c else 0)) < 32 := by
    intro x c q hx hc
    refine Nat.or_lt_two_pow (n := 5) hx ?_
    cases q
    · show 0 < 2 ^ 5; decide
    · exact Nat.pow_lt_pow_right (by decide) hc
  suffices key : s_l02Classes_l3 K (k + 100 + 6) l ((2 ^ l.length - 1 : Nat) : Int) ((0 : Nat) : Int) ((0 : Nat) : Int) (fun z9 => some z9) = some (mask (l.all (pC 0)) (l.all (pC 1)) (l.all (pC 2)) (l.all (pC 3)) (l.all (pC 4))) by
    rw [← e] at key; exact key
  rw [step _ 0 0 (by omega) (by omega) (by omega), step _ 1 _ (by omega) (hlt _ 0 _ (by omega) (by omega)) (by omega), step _ 2 _ (by omega) (hlt _ 1 _ (hlt _ 0 _ (by omega) (by omega)) (by omega)) (by omega),
    step _ 3 _ (by omega) (hlt _ 2 _ (hlt _ 1 _ (hlt _ 0 _ (by omega) (by omega)) (by omega)) (by omega)) (by omega),
    step _ 4 _ (by omega) (hlt _ 3 _ (hlt _ 2 _ (hlt _ 1 _ (hlt _ 0 _ (by omega) (by omega)) (by omega)) (by omega)) (by omega)) (by omega), stop]
  generalize l.all (pC 0) = c0; generalize l.all (pC 1) = c1; generalize l.all (pC 2) = c2; generalize l.all (pC 3) = c3; generalize l.all (pC 4) = c4
  revert c0 c1 c2 c3 c4; decide
end Go.Proofs.YtfmenkglnkenpaaDoor.E
namespace Go.Proofs.YtfmenkglnkenpaaDoor.E
open Go Go.Proofs Go.Proofs.YtfmenkglnkenpaaDoor
set_option maxRecDepth 100000
set_option linter.unusedVariables false
noncomputable def as_w_szFuncS : Ty := (.pair (.sl tq0) (.pair (.int .i64) .unit))
noncomputable def sp_w_szFuncS (F : ((List dq0) × Int × Unit) → Option Int) : FnSpec := ⟨as_w_szFuncS, [false, false], (.int .i64), F⟩
noncomputable def w_szFuncS (K : Nat) (x : ((List dq0) × Int × Unit)) : Option Int :=
    let x1 := (decide ((IntKind.i64.wrap (x.2.1 - (x.1.length : Int))) < (0 : Int)))
    (if x1 = true then
    some (-1 : Int)
    else
    some (IntKind.i64.wrap (x.2.1 - (x.1.length : Int))))
noncomputable def rv_w_szFuncS : Lv := [(4, (.v (.int .i64)))]
theorem ok_w_szFuncS (K : Nat) : FnOk Tryd.prog 5 (sp_w_szFuncS (w_szFuncS K)) :=
  fn_okD tysOk [] 0 [] [] rv_w_szFuncS K Tryd.func5 (by kernel_rfl) trivial (fun _ => by kernel_rfl)
noncomputable def C_w_szFuncS (K : Nat) : CB Tryd.prog := .f _ _ (ok_w_szFuncS K)
noncomputable def as_s_l02Code : Ty := (.pair (.sl tq0) .unit)
noncomputable def sp_s_l02Code (F : ((List dq0) × Unit) → Option Int) : FnSpec := ⟨as_s_l02Code, [false], (.int .i64), F⟩
noncomputable def s_l02Code_l2 {R : Type} (K : Nat) : Nat → (List dq0) → Int → ((List dq0) → Option R) → (Int → Option R) → Option R
  | 0, _, _, _, _ => none
  | k + 1, v0, v3, kx0, kr =>
    (if (decide (v3 < (v0.length : Int))) = true then
    (if (bnds v3 (v0.length : Int)) = true then
    (s_l01Is K ((v0.getD v3.toNat ((0 : Int), (0 : Int), ())), ())).bind fun y1 =>
    (if (!y1) = true then
    kr (1 : Int)
    else
    s_l02Code_l2 K k v0 (IntKind.i64.wrap (v3 + (1 : Int))) kx0 kr)
    else
    none)
    else
    kx0 v0)
noncomputable def s_l02Code (K : Nat) (x : ((List dq0) × Unit)) : Option Int :=
    s_l02Code_l2 K K x.1 (0 : Int) (fun z2 =>
    (if (decide ((z2.length : Int) > (8 : Int))) = true then
    some (2 : Int)
    else
    some (0 : Int))) (fun z3 =>
    some z3)
noncomputable def X0_s_l02Code : Lv := [(0, (.v (.sl tq0)))]
noncomputable def rv_s_l02Code : Lv := [(2, (.v (.int .i64)))]
noncomputable def D_s_l02Code (K : Nat) : List (PD (den (.int .i64))) := [.L 2 [(0, (.v (.sl tq0))), (3, (.v (.int .i64)))] [] (fun k x kx kr => s_l02Code_l2 K k x.1 x.2.1 (fun z0 => kx 0 (mkSt X0_s_l02Code (z0, ()))) (fun z0 => kr (mkSt rv_s_l02Code (z0, ()))))]
theorem ok_s_l02Code (K : Nat) : FnOk Tryd.prog 14 (sp_s_l02Code (s_l02Code K)) :=
  fn_okD tysOk [C_s_l01Is K] 0 (D_s_l02Code K) [(0, X0_s_l02Code)] rv_s_l02Code K Tryd.func14 (by kernel_rfl) ⟨⟨fun _ _ _ _ => by kernel_rfl, fun _ _ _ => rfl⟩, trivial⟩ (fun _ => by kernel_rfl)
noncomputable def C_s_l02Code (K : Nat) : CB Tryd.prog := .f _ _ (ok_s_l02Code K)
noncomputable def as_s_CloneName : Ty := (.pair (.sl tq0) .unit)
noncomputable def sp_s_CloneName (F : ((List dq0) × Unit) → Option (ByteArray × Int × Unit)) : FnSpec := ⟨as_s_CloneName, [false], (.tup (.pair .str (.pair (.int .i64) .unit))), F⟩
noncomputable def s_CloneName (K : Nat) (x : ((List dq0) × Unit)) : Option (ByteArray × Int × Unit) :=
    (s_l02Code K (x.1, ())).bind fun y1 =>
    (if (!decide (y1 = (0 : Int))) = true then
    some ((⟨#[]⟩ : ByteArray), y1, ())
    else
    (s_l08Name K (x.1, ())).bind fun y2 =>
    some (y2, (0 : Int), ()))
noncomputable def rv_s_CloneName : Lv := [(2, (.v .str)), (3, (.v (.int .i64)))]
theorem ok_s_CloneName (K : Nat) : FnOk Tryd.prog 6 (sp_s_CloneName (s_CloneName K)) :=
  fn_okD tysOk [C_s_l02Code K, C_s_l08Name K] 0 [] [] rv_s_CloneName K Tryd.func6 (by kernel_rfl) trivial (fun _ => by kernel_rfl)
noncomputable def C_s_CloneName (K : Nat) : CB Tryd.prog := .f _ _ (ok_s_CloneName K)
noncomputable def as_w_toFunc : Ty := (.pair tq0 .unit)
noncomputable def sp_w_toFunc (F : (dq0 × Unit) → Option dq0) : FnSpec := ⟨as_w_toFunc, [false], tq0, F⟩
noncomputable def w_toFunc (K : Nat) (x : (dq0 × Unit)) : Option dq0 :=
    some ((x.1.1, ((0 : Int), (0 : Int), ()).2.1, ()).1, x.1.2.1, ())
noncomputable def rv_w_toFunc : Lv := [(2, (.bx (.v tq0)))]
theorem ok_w_toFunc (K : Nat) : FnOk Tryd.prog 16 (sp_w_toFunc (w_toFunc K)) :=
  fn_okD tysOk [] 0 [] [] rv_w_toFunc K Tryd.func16 (by kernel_rfl) trivial (fun _ => by kernel_rfl)
noncomputable def C_w_toFunc (K : Nat) : CB Tryd.prog := .f _ _ (ok_w_toFunc K)
noncomputable def as_w_toFuncS : Ty := (.pair (.sl tq0) .unit)
noncomputable def sp_w_toFuncS (F : ((List dq0) × Unit) → Option (List dq0)) : FnSpec := ⟨as_w_toFuncS, [false], (.sl tq0), F⟩
noncomputable def w_toFuncS_l3 {R : Type} (K : Nat) : Nat → (List dq0) → (List dq0) → Int → ((List dq0) → Option R) → Option R
  | 0, _, _, _, _ => none
  | k + 1, v0, v3, v4, kx0 =>
    (if (decide (v4 < (v0.length : Int))) = true then
    (if (bnds v4 (v0.length : Int)) = true then
    (w_toFunc K ((v0.getD v4.toNat ((0 : Int), (0 : Int), ())), ())).bind fun y2 =>
    (if (bnds v4 (v3.length : Int)) = true then
    let l3 := (v3.set v4.toNat y2)
    w_toFuncS_l3 K k v0 l3 (IntKind.i64.wrap (v4 + (1 : Int))) kx0
    else
    none)
    else
    none)
    else
    kx0 v3)
noncomputable def w_toFuncS (K : Nat) (x : ((List dq0) × Unit)) : Option (List dq0) :=
    (if (decide (0 ≤ (x.1.length : Int)) && decide ((x.1.length : Int) ≤ (lim : Int)) && decide ((x.1.length : Int) = (x.1.length : Int))) = true then
    let l1 := (List.replicate (x.1.length : Int).toNat ((0 : Int), (0 : Int), ()))
    w_toFuncS_l3 K K x.1 l1 (0 : Int) (fun z4 =>
    some z4)
    else
    none)
noncomputable def X0_w_toFuncS : Lv := [(3, (.r tq0))]
noncomputable def rv_w_toFuncS : Lv := [(2, (.r tq0))]
noncomputable def D_w_toFuncS (K : Nat) : List (PD (den (.sl tq0))) := [.L 3 [(0, (.v (.sl tq0))), (3, (.r tq0)), (4, (.v (.int .i64)))] [] (fun k x kx kr => w_toFuncS_l3 K k x.1 x.2.1 x.2.2.1 (fun z0 => kx 0 (mkSt X0_w_toFuncS (z0, ()))))]
theorem ok_w_toFuncS (K : Nat) : FnOk Tryd.prog 7 (sp_w_toFuncS (w_toFuncS K)) :=
  fn_okD tysOk [C_w_toFunc K] 0 (D_w_toFuncS K) [(0, X0_w_toFuncS)] rv_w_toFuncS K Tryd.func7 (by kernel_rfl) ⟨⟨fun _ _ _ _ => by kernel_rfl, fun _ _ _ => rfl⟩, trivial⟩ (fun _ => by kernel_rfl)
noncomputable def C_w_toFuncS (K : Nat) : CB Tryd.prog := .f _ _ (ok_w_toFuncS K)
noncomputable def as_i_areFuncs_c1 : Ty := (.pair tq0 .unit)
noncomputable def sp_i_areFuncs_c1 (F : (dq0 × Unit) → Option Bool) : FnSpec := ⟨as_i_areFuncs_c1, [false], .bool, F⟩
noncomputable def i_areFuncs_c1 (K : Nat) (x : (dq0 × Unit)) : Option Bool :=
    (i_IsFunc K (x.1, ())).bind fun y1 =>
    some (!y1)
noncomputable def rv_i_areFuncs_c1 : Lv := [(2, (.v .bool))]
theorem ok_i_areFuncs_c1 (K : Nat) : FnOk Tryd.prog 61 (sp_i_areFuncs_c1 (i_areFuncs_c1 K)) :=
  fn_okD tysOk [C_i_IsFunc K] 0 [] [] rv_i_areFuncs_c1 K Tryd.func61 (by kernel_rfl) trivial (fun _ => by kernel_rfl)
noncomputable def C_i_areFuncs_c1 (K : Nat) : CB Tryd.prog := .f _ _ (ok_i_areFuncs_c1 K)
noncomputable def as_i_areFuncs : Ty := (.pair (.sl tq0) .unit)
noncomputable def sp_i_areFuncs (F : ((List dq0) × Unit) → Option Bool) : FnSpec := ⟨as_i_areFuncs, [false], .bool, F⟩
noncomputable def i_areFuncs (K : Nat) (x : ((List dq0) × Unit)) : Option Bool :=
    (slices_ContainsFunc_impl_Func K (x.1, (fun y2 => i_areFuncs_c1 K (y2.1, ())), ())).bind fun y1 =>
    some (!y1)
noncomputable def rv_i_areFuncs : Lv := [(2, (.v .bool))]
theorem ok_i_areFuncs (K : Nat) : FnOk Tryd.prog 31 (sp_i_areFuncs (i_areFuncs K)) :=
  fn_okD tysOk [C_slices_ContainsFunc_impl_Func K, C_i_areFuncs_c1 K] 0 [] [] rv_i_areFuncs K Tryd.func31 (by kernel_rfl) trivial (fun _ => by kernel_rfl)
noncomputable def C_i_areFuncs (K : Nat) : CB Tryd.prog := .f _ _ (ok_i_areFuncs K)
noncomputable def as_i_listCode : Ty := (.pair (.sl tq0) .unit)
noncomputable def sp_i_listCode (F : ((List dq0) × Unit) → Option Int) : FnSpec := ⟨as_i_listCode, [false], (.int .i64), F⟩
noncomputable def i_listCode (K : Nat) (x : ((List dq0) × Unit)) : Option Int :=
    (i_areFuncs K (x.1, ())).bind fun y1 =>
    (if (!y1) = true then
    some (1 : Int)
    else
    (if (decide ((x.1.length : Int) > (8 : Int))) = true then
    some (2 : Int)
    else
    some (0 : Int)))
noncomputable def rv_i_listCode : Lv := [(2, (.v (.int .i64)))]
theorem ok_i_listCode (K : Nat) : FnOk Tryd.prog 17 (sp_i_listCode (i_listCode K)) :=
  fn_okD tysOk [C_i_areFuncs K] 0 [] [] rv_i_listCode K Tryd.func17 (by kernel_rfl) trivial (fun _ => by kernel_rfl)
noncomputable def C_i_listCode (K : Nat) : CB Tryd.prog := .f _ _ (ok_i_listCode K)
noncomputable def as_i_CloneName : Ty := (.pair (.sl tq0) .unit)
noncomputable def sp_i_CloneName (F : ((List dq0) × Unit) → Option (ByteArray × Int × Unit)) : FnSpec := ⟨as_i_CloneName, [false], (.tup (.pair .str (.pair (.int .i64) .unit))), F⟩
noncomputable def i_CloneName (K : Nat) (x : ((List dq0) × Unit)) : Option (ByteArray × Int × Unit) :=
    (i_listCode K (x.1, ())).bind fun y1 =>
    (if (!decide (y1 = (0 : Int))) = true then
    some ((⟨#[]⟩ : ByteArray), y1, ())
    else
    (i_cloneName K (x.1, ())).bind fun y2 =>
    some (y2, (0 : Int), ()))
noncomputable def rv_i_CloneName : Lv := [(2, (.v .str)), (3, (.v (.int .i64)))]
theorem ok_i_CloneName (K : Nat) : FnOk Tryd.prog 8 (sp_i_CloneName (i_CloneName K)) :=
  fn_okD tysOk [C_i_listCode K, C_i_cloneName K] 0 [] [] rv_i_CloneName K Tryd.func8 (by kernel_rfl) trivial (fun _ => by kernel_rfl)
noncomputable def C_i_CloneName (K : Nat) : CB Tryd.prog := .f _ _ (ok_i_CloneName K)
noncomputable def as_w_FnExactCloneName : Ty := (.pair (.sl tq0) .unit)
noncomputable def sp_w_FnExactCloneName (F : ((List dq0) × Unit) → Option Bool) : FnSpec := ⟨as_w_FnExactCloneName, [false], .bool, F⟩
noncomputable def w_FnExactCloneName_j10 {R : Type} (K : Nat) (k : Nat) (v0 : (List dq0)) (v6 : (List dq0)) (kn : Option R) (kr : (Bool → Option R)) : Option R :=
    (w_toFuncS K (v0, ())).bind fun y6 =>
    (w_eqFuncS K (v6, y6, ())).bind fun y7 =>
    (if (!y7) = true then
    kr false
    else
    kr true)
noncomputable def w_FnExactCloneName (K : Nat) (x : ((List dq0) × Unit)) : Option Bool :=
    (w_szFuncS K (x.1, (1048576 : Int), ())).bind fun y1 =>
    (if (decide (y1 < (0 : Int))) = true then
    some true
    else
    (w_toFuncS K (x.1, ())).bind fun y2 =>
    (s_CloneName K (y2, ())).bind fun y3 =>
    (w_toFuncS K (x.1, ())).bind fun y4 =>
    (i_CloneName K (y4, ())).bind fun y5 =>
    (if (cmpS .neq y5.1 y3.1) = true then
    some false
    else
    (if (!decide (y5.2.1 = y3.2.1)) = true then
    some false
    else
    w_FnExactCloneName_j10 K K x.1 y4 none (fun z8 =>
    some z8))))
noncomputable def rv_w_FnExactCloneName : Lv := [(2, (.v .bool))]
noncomputable def D_w_FnExactCloneName (K : Nat) : List (PD (den .bool)) := [.J 10 [(0, (.v (.sl tq0))), (6, (.r tq0))] [] 0 (fun k x kn kx kr => w_FnExactCloneName_j10 K k x.1 x.2.1 (kn ()) (fun z0 => kr (mkSt rv_w_FnExactCloneName (z0, ()))))]
theorem ok_w_FnExactCloneName (K : Nat) : FnOk Tryd.prog 3 (sp_w_FnExactCloneName (w_FnExactCloneName K)) :=
  fn_okD tysOk [C_w_szFuncS K, C_s_CloneName K, C_w_toFuncS K, C_i_CloneName K, C_w_eqFuncS K] 0 (D_w_FnExactCloneName K) [] rv_w_FnExactCloneName K Tryd.func3 (by kernel_rfl) ⟨fun _ _ _ _ _ => by kernel_rfl, trivial⟩ (fun _ => by kernel_rfl)
noncomputable def C_w_FnExactCloneName (K : Nat) : CB Tryd.prog := .f _ _ (ok_w_FnExactCloneName K)
end Go.Proofs.YtfmenkglnkenpaaDoor.E
namespace Go.Proofs.YtfmenkglnkenpaaDoor.E
open Go Go.Proofs
set_option linter.unusedVariables false
set_option linter.unusedSimpArgs false
variable {K : Nat} {R : Type}
/-! names of lists: the spec's way is the program's -/
section
variable {l p r : List DF} {n b : Nat} {v3 i : Int} {z w k : Nat} {u o a : Bool}
theorem name_j9 (e : l = p ++ ((n : Int), (b : Int), ()) :: r) (hn : n ≤ 4) (hb : b < 2 ^ 2 ^ n) (hK : 100 ≤ K) (kn : List DF → Int → Bool → Bool → Bool → Int → Int → Int → Option R) :
    s_l08Name_j9 K k l v3 u o a (z : Int) (w : Int) (p.length : Int) kn = kn l v3 u o a ((min z (degN n b 0) : Nat) : Int) ((min w (degN n b 1) : Nat) : Int) (p.length : Int) := by
  subst e
  have := b4 hn hb
  have h0 := s_l08Degree_eq (K := K) (c := 0) hn (by omega : b < 9223372036854775808) hK
  have h1 := s_l08Degree_eq (K := K) (c := 1) hn (by omega : b < 9223372036854775808) hK
  simp only [s_l08Name_j9]
  rw [ite_t bnds_mid, getD_midI, show ((0 : Int)) = ((0 : Nat) : Int) from rfl, h0, some_bind', ite_t bnds_mid, show ((1 : Int)) = ((1 : Nat) : Int) from rfl, h1, some_bind', minL_nat, minL_nat]
theorem name_j8 (e : l = p ++ ((n : Int), (b : Int), ()) :: r) (hn : n ≤ 4) (hb : b < 2 ^ 2 ^ n) (hK : 100 ≤ K) (kn : List DF → Int → Bool → Bool → Bool → Int → Int → Int → Option R) :
    s_l08Name_j8 K k l v3 u o a (z : Int) (w : Int) (p.length : Int) kn = kn l v3 u o (a && joinB true n b) ((min z (degN n b 0) : Nat) : Int) ((min w (degN n b 1) : Nat) : Int) (p.length : Int) := by
  simp only [s_l08Name_j8]
  cases a
  · rw [ite_f rfl, name_j9 e hn hb hK]; rfl
  · rw [ite_t rfl, ite_t (by rw [e]; exact bnds_mid), show l.getD ((p.length : Nat) : Int).toNat ((0 : Int), (0 : Int), ()) = ((n : Int), (b : Int), ()) by rw [e]; exact getD_midI p r _ _, s_l08Joined_eq true hn hb hK, some_bind', name_j9 e hn hb hK]; rfl
theorem name_j7 (e : l = p ++ ((n : Int), (b : Int), ()) :: r) (hn : n ≤ 4) (hb : b < 2 ^ 2 ^ n) (hK : 100 ≤ K) (kn : List DF → Int → Bool → Bool → Bool → Int → Int → Int → Option R) :
    s_l08Name_j7 K k l v3 u o a (z : Int) (w : Int) (p.length : Int) kn = kn l v3 u (o && joinB false n b) (a && joinB true n b) ((min z (degN n b 0) : Nat) : Int) ((min w (degN n b 1) : Nat) : Int) (p.length : Int) := by
  simp only [s_l08Name_j7]
  cases o
  · rw [ite_f rfl, name_j8 e hn hb hK]; rfl
  · rw [ite_t rfl, ite_t (by rw [e]; exact bnds_mid), show l.getD ((p.length : Nat) : Int).toNat ((0 : Int), (0 : Int), ()) = ((n : Int), (b : Int), ()) by rw [e]; exact getD_midI p r _ _, s_l08Joined_eq false hn hb hK, some_bind', name_j8 e hn hb hK]; rfl
end
theorem name_l4 {l : List DF} (h : okL l) (hK : 100 ≤ K) (v3 : Int) (kx0 : Int → Bool → Bool → Bool → Int → Int → Option R) (k : Nat) (hk : 100 ≤ k) :
    s_l08Name_l4 K k l v3 true true true 9 9 0 kx0 = kx0 v3 (l.all pU) (l.all (pJ false)) (l.all (pJ true)) ((leastN 0 l : Nat) : Int) ((leastN 1 l : Nat) : Int) := by
  have h2 := h.2
  refine (lpLF (l := l) (L := fun k (s : Bool × Bool × Bool × Nat × Nat) i => s_l08Name_l4 K k l v3 s.1 s.2.1 s.2.2.1 (s.2.2.2.1 : Int) (s.2.2.2.2 : Int) i kx0)
    (f := fun s y => (s.1 && pU y, s.2.1 && pJ false y, s.2.2.1 && pJ true y, min s.2.2.2.1 (pD 0 y), min s.2.2.2.2 (pD 1 y))) (B := 0)
    (kx := fun s => kx0 v3 s.1 s.2.1 s.2.2.1 (s.2.2.2.1 : Int) (s.2.2.2.2 : Int)) (fun k s => ?_) (fun k p y r s e _ => ?_) l [] k (true, true, true, 9, 9) rfl (by omega)).trans ?_
  · simp only [s_l08Name_l4]; rw [ite_f (decide_eq_false (by omega))]
  · obtain ⟨n, b, rfl, hn, hb⟩ := h.nat (mem_mid e)
    obtain ⟨u, o, a, z, w⟩ := s
    have hw : IntKind.i64.wrap ((p.length : Int) + 1) = (((p ++ [((n : Int), (b : Int), ())]).length : Nat) : Int) := by rw [snoc_len]; exact w64s (by rw [e] at h2; simp at h2; omega)
    simp only [s_l08Name_l4, s_l08Name_j5]
    rw [ite_t (by rw [e]; exact lt_len)]
    cases u
    · rw [ite_f rfl, name_j7 e hn hb hK, hw]; rfl
    · have := b4 hn hb
      rw [ite_t rfl, ite_t (by rw [e]; exact bnds_mid), show l.getD ((p.length : Nat) : Int).toNat ((0 : Int), (0 : Int), ()) = ((n : Int), (b : Int), ()) by rw [e]; exact getD_midI p r _ _, s_l01Essential_eq hn (by omega) (by omega), some_bind', name_j7 e hn hb hK, hw]
      have e1 : decide (((essL n b).length : Int) ≤ 1) = (true && pU ((n : Int), (b : Int), ())) := by
        rw [Bool.true_and, pU, Bool.eq_iff_iff, decide_eq_true_eq, decide_eq_true_eq]
        show ((essL n b).length : Int) ≤ 1 ↔ (essL n b).length ≤ 1
        omega
      rw [e1]; rfl
  · have : ∀ (l : List DF) (s : Bool × Bool × Bool × Nat × Nat), l.foldl (fun s y => (s.1 && pU y, s.2.1 && pJ false y, s.2.2.1 && pJ true y, min s.2.2.2.1 (pD 0 y), min s.2.2.2.2 (pD 1 y))) s
        = (s.1 && l.all pU, s.2.1 && l.all (pJ false), s.2.2.1 && l.all (pJ true), l.foldl (fun a f => min a (pD 0 f)) s.2.2.2.1, l.foldl (fun a f => min a (pD 1 f)) s.2.2.2.2) := by
      intro l
      induction l with
      | nil => intro s; simp
      | cons y r ih => intro s; rw [List.foldl_cons, ih]; simp [Bool.and_assoc]
    rw [this]; rfl
def four (z o : Bool) (a b c d : ByteArray) : ByteArray := if (z && o) = true then a else if z = true then b else if o = true then c else d
def kindN (kept mono : Bool) (a b c d : ByteArray) : ByteArray := if (kept && mono) = true then a else if mono = true then b else if kept = true then c else d
def degB (s : ByteArray) (d : Nat) : ByteArray := if d = 9 then s else (s ++ ⟨#[94]⟩) ++ ⟨#[(48 + d).toUInt8]⟩
/-- The name, out of what the list is. -/
def nameB (z o d m a u v e : Bool) (p q : Nat) : ByteArray :=
  if (u && m) = true then four z o ⟨#[73, 50]⟩ ⟨#[73, 48]⟩ ⟨#[73, 49]⟩ ⟨#[73]⟩
  else if u = true then (if d = true then ⟨#[78, 50]⟩ else ⟨#[78]⟩)
  else if v = true then four z o ⟨#[86, 50]⟩ ⟨#[86, 48]⟩ ⟨#[86, 49]⟩ ⟨#[86]⟩
  else if e = true then four z o ⟨#[69, 50]⟩ ⟨#[69, 48]⟩ ⟨#[69, 49]⟩ ⟨#[69]⟩
  else if (a && z && o) = true then ⟨#[76, 50]⟩
  else if (a && d) = true then ⟨#[76, 51]⟩
  else if a = true then four z o ⟨#[76, 50]⟩ ⟨#[76, 48]⟩ ⟨#[76, 49]⟩ ⟨#[76]⟩
  else if d = true then (if m = true then ⟨#[68, 50]⟩ else if z = true then ⟨#[68, 49]⟩ else ⟨#[68]⟩)
  else if 2 ≤ p then degB (kindN z m ⟨#[83, 48, 48]⟩ ⟨#[83, 48, 49]⟩ ⟨#[83, 48, 50]⟩ ⟨#[83, 48]⟩) p
  else if 2 ≤ q then degB (kindN o m ⟨#[83, 49, 48]⟩ ⟨#[83, 49, 49]⟩ ⟨#[83, 49, 50]⟩ ⟨#[83, 49]⟩) q
  else if m = true then four z o ⟨#[77, 50]⟩ ⟨#[77, 48]⟩ ⟨#[77, 49]⟩ ⟨#[77]⟩
  else four z o ⟨#[82, 50]⟩ ⟨#[82, 48]⟩ ⟨#[82, 49]⟩ ⟨#[66, 70]⟩
def nameV (l : List DF) : ByteArray := nameB (l.all (pC 0)) (l.all (pC 1)) (l.all (pC 2)) (l.all (pC 3)) (l.all (pC 4)) (l.all pU) (l.all (pJ false)) (l.all (pJ true)) (leastN 0 l) (leastN 1 l)
theorem leastN_le (c : Nat) (l : List DF) : leastN c l ≤ 9 := by
  have : ∀ (l : List DF) (a : Nat), l.foldl (fun a f => min a (pD c f)) a ≤ a := by
    intro l
    induction l with
    | nil => intro a; exact Nat.le_refl _
    | cons y r ih => intro a; exact Nat.le_trans (ih _) (Nat.min_le_left _ _)
  exact this l 9
theorem four_eq (c0 c1 c2 c3 c4 : Bool) (a b c d : ByteArray) : s_l08Four K (mask c0 c1 c2 c3 c4, a, b, c, d, ()) = some (four c0 c1 a b c d) := by
  simp only [s_l08Four, four]
  have h3 : bitI .and .i64 (mask c0 c1 c2 c3 c4) 3 = ((c0.toNat + 2 * c1.toNat : Nat) : Int) := by revert c0 c1 c2 c3 c4; decide
  rw [h3]
  cases c0 <;> cases c1 <;> rfl
theorem mask3 (c0 c1 c2 c3 c4 : Bool) : decide (bitI .and .i64 (mask c0 c1 c2 c3 c4) 3 = 3) = (c0 && c1) := by revert c0 c1 c2 c3 c4; decide
theorem mask_1 (c0 c1 c2 c3 c4 : Bool) : (!decide (bitI .and .i64 (mask c0 c1 c2 c3 c4) 1 = 0)) = c0 := by revert c0 c1 c2 c3 c4; decide
theorem mask_2 (c0 c1 c2 c3 c4 : Bool) : (!decide (bitI .and .i64 (mask c0 c1 c2 c3 c4) 2 = 0)) = c1 := by revert c0 c1 c2 c3 c4; decide
theorem mask_4 (c0 c1 c2 c3 c4 : Bool) : (!decide (bitI .and .i64 (mask c0 c1 c2 c3 c4) 4 = 0)) = c2 := by revert c0 c1 c2 c3 c4; decide
theorem mask_8 (c0 c1 c2 c3 c4 : Bool) : (!decide (bitI .and .i64 (mask c0 c1 c2 c3 c4) 8 = 0)) = c3 := by revert c0 c1 c2 c3 c4; decide
theorem mask_16 (c0 c1 c2 c3 c4 : Bool) : (!decide (bitI .and .i64 (mask c0 c1 c2 c3 c4) 16 = 0)) = c4 := by revert c0 c1 c2 c3 c4; decide
theorem kind_eq (a b : Bool) (c d e f : ByteArray) : s_l08Kind K (a, b, c, d, e, f, ()) = some (kindN a b c d e f) := by
  simp only [s_l08Kind, s_l08Kind_j3, gN_eq, kindN]
  cases a <;> cases b <;> rfl
theorem dec_eq {p : Nat} (h : p < 10) : s_l01Dec K (K + 1) ((p : Int), ()) = some (⟨#[(48 + p).toUInt8]⟩ : ByteArray) := by
  match p, h with
  | 0, _ => rfl | 1, _ => rfl | 2, _ => rfl | 3, _ => rfl | 4, _ => rfl | 5, _ => rfl | 6, _ => rfl | 7, _ => rfl | 8, _ => rfl | 9, _ => rfl
theorem fmt_eq {p : Nat} (h : p < 10) : strconv_FormatInt K ((p : Int), (10 : Int), ()) = some (⟨#[(48 + p).toUInt8]⟩ : ByteArray) := by
  match p, h with
  | 0, _ => rfl | 1, _ => rfl | 2, _ => rfl | 3, _ => rfl | 4, _ => rfl | 5, _ => rfl | 6, _ => rfl | 7, _ => rfl | 8, _ => rfl | 9, _ => rfl
theorem size_app (a b : ByteArray) : (a ++ b).size = a.size + b.size := ByteArray.size_append
theorem degrees_eq {s : ByteArray} (hs : s.size ≤ 10) {p : Nat} (h : p ≤ 9) (hK : 1 ≤ K) : s_l08Degrees K (s, (p : Int), ()) = some (degB s p) := by
  obtain ⟨k, rfl⟩ : ∃ k, K = k + 1 := ⟨K - 1, by omega⟩
  have h9 : (9 : Int) = ((9 : Nat) : Int) := rfl
  simp only [s_l08Degrees, degB]
  by_cases e : p = 9
  · rw [ite_t (decide_eq_true (by omega)), if_pos e]
  · rw [ite_f (decide_eq_false (by omega)), if_neg e, ite_t (decide_eq_true (by show s.size + 1 ≤ _; omega))]
    have hd : s_l01Dec (k + 1) (k + 1) ((p : Int), ()) = some (⟨#[(48 + p).toUInt8]⟩ : ByteArray) := by
      match p, h with
      | 0, _ => rfl | 1, _ => rfl | 2, _ => rfl | 3, _ => rfl | 4, _ => rfl | 5, _ => rfl | 6, _ => rfl | 7, _ => rfl | 8, _ => rfl | 9, _ => rfl
    rw [hd, some_bind', ite_t (decide_eq_true (by rw [size_app]; show s.size + 1 + 1 ≤ _; omega))]
theorem kindN_size (a b : Bool) (c d e f : ByteArray) (h : c.size ≤ 10 ∧ d.size ≤ 10 ∧ e.size ≤ 10 ∧ f.size ≤ 10) : (kindN a b c d e f).size ≤ 10 := by
  unfold kindN; cases a <;> cases b <;> simp [h]
theorem s_l08Name_eq {l : List DF} (h : okL l) (hK : 300 ≤ K) : s_l08Name K (l, ()) = some (nameV l) := by
  simp only [s_l08Name]
  rw [whole_eq h, some_bind', classes_eq h (by omega), some_bind', name_l4 h (by omega) _ _ K (by omega)]
  have hp := leastN_le 0 l
  have hq := leastN_le 1 l
  unfold nameV
  generalize l.all (pC 0) = c0; generalize l.all (pC 1) = c1; generalize l.all (pC 2) = c2; generalize l.all (pC 3) = c3; generalize l.all (pC 4) = c4
  generalize l.all pU = u; generalize l.all (pJ false) = v; generalize l.all (pJ true) = e; generalize leastN 0 l = p at *; generalize leastN 1 l = q at *
  have hp2 : decide ((p : Int) ≥ 2) = decide (2 ≤ p) := by rw [Bool.eq_iff_iff]; simp; omega
  have hq2 : decide ((q : Int) ≥ 2) = decide (2 ≤ q) := by rw [Bool.eq_iff_iff]; simp; omega
  have hk1 : ∀ x y : Bool, (kindN x y ⟨#[83, 48, 48]⟩ ⟨#[83, 48, 49]⟩ ⟨#[83, 48, 50]⟩ ⟨#[83, 48]⟩).size ≤ 10 := fun x y => kindN_size _ _ _ _ _ _ (by decide)
  have hk2 : ∀ x y : Bool, (kindN x y ⟨#[83, 49, 48]⟩ ⟨#[83, 49, 49]⟩ ⟨#[83, 49, 50]⟩ ⟨#[83, 49]⟩).size ≤ 10 := fun x y => kindN_size _ _ _ _ _ _ (by decide)
  have hdp := fun x y => degrees_eq (K := K) (hk1 x y) hp (by omega)
  have hdq := fun x y => degrees_eq (K := K) (hk2 x y) hq (by omega)
  simp only [s_l08Name_j14, s_l08Name_j16, s_l08Name_j24, s_l08Name_j26, s_l08Name_j30, s_l08Name_j32, s_l08Name_j40, gN_eq, mask_1, mask_2, mask_4, mask_8, mask_16, mask3, four_eq, kind_eq, some_bind', hdp, hdq, hp2, hq2, decide_eq_true_eq, nameB]
  cases u <;> cases c3 <;> cases c2 <;> cases v <;> cases e <;> cases c4 <;> cases c0 <;> cases c1 <;> simp [four] <;> (by_cases h1 : 2 ≤ p <;> by_cases h2 : 2 ≤ q <;> simp [h1, h2])
theorem byC_eq (x : UInt8) (z o : Bool) : i_byConstants K ((⟨#[x]⟩ : ByteArray), z, o, ()) = some (four z o ⟨#[x, 50]⟩ ⟨#[x, 48]⟩ ⟨#[x, 49]⟩ ⟨#[x]⟩) := by
  simp only [i_byConstants, i_byConstants_j3, gN_eq, four]
  cases z <;> cases o <;> rfl
theorem choose_eq (c : Bool) (a b : ByteArray) : i_choose K (c, a, b, ()) = some (if c = true then a else b) := by
  simp only [i_choose]; cases c <;> rfl
theorem app_bytes (a b : Array UInt8) : (⟨a⟩ : ByteArray) ++ ⟨b⟩ = ⟨a ++ b⟩ := by
  apply ByteArray.ext; simp
theorem sep_eq (x : UInt8) (z m : Bool) {p : Nat} (hp : p ≤ 9) : i_separatedName K ((⟨#[83, x]⟩ : ByteArray), z, m, (p : Int), ()) = some (degB (kindN z m ⟨#[83, x, 48]⟩ ⟨#[83, x, 49]⟩ ⟨#[83, x, 50]⟩ ⟨#[83, x]⟩) p) := by
  simp only [i_separatedName, choose_eq, some_bind', degB]
  by_cases e : p = 9
  · rw [ite_f (decide_eq_false (by omega)), if_pos e]
    cases z <;> cases m <;> rfl
  · rw [ite_t (decide_eq_true (by omega)), if_neg e, fmt_eq (by omega), some_bind']
    cases z <;> cases m <;> rfl
theorem clone_l3 {l : List DF} (h : okL l) (hK : 4611686018427387904 ≤ K) (kx0 : List DF → List Bool → Option R) (k : Nat) (hk : 10 ≤ k) :
    i_cloneName_l3 K k l (List.replicate 5 false) 0 kx0 = kx0 l [l.all (pC 0), l.all (pC 1), l.all (pC 2), l.all (pC 3), l.all (pC 4)] := by
  obtain ⟨k, rfl⟩ : ∃ m, k = m + 6 := ⟨k - 6, by omega⟩
  have step : ∀ (k c : Nat) (a : List Bool), c < 5 → i_cloneName_l3 K (k + 1) l a (c : Int) kx0 = i_cloneName_l3 K k l (a.set c (l.all (pC c))) ((c + 1 : Nat) : Int) kx0 := by
    intro k c a hc
    simp only [i_cloneName_l3]
    rw [ite_t (decide_eq_true (by omega)), i_allIn_eq h hK hc, some_bind', ite_t (bnds_t (by omega) (by omega)), w64s (by omega)]; rfl
  show i_cloneName_l3 K (k + 6) l _ ((0 : Nat) : Int) kx0 = _
  rw [step _ 0 _ (by omega), step _ 1 _ (by omega), step _ 2 _ (by omega), step _ 3 _ (by omega), step _ 4 _ (by omega)]
  simp only [i_cloneName_l3]; rw [ite_f (decide_eq_false (by omega))]; rfl
theorem i_cloneName_eq {l : List DF} (h : okL l) (hK : 4611686018427387904 ≤ K) : i_cloneName K (l, ()) = some (nameV l) := by
  have hp := leastN_le 0 l
  have hq := leastN_le 1 l
  have l0 := i_least_eq (K := K) h (by omega) (c := 0) (by omega)
  have l1 := i_least_eq (K := K) h (by omega) (c := 1) (by omega)
  simp only [i_cloneName]
  rw [clone_l3 h hK _ K (by omega)]
  have s0 := fun z m => sep_eq (K := K) 48 z m hp
  have s1 := fun z m => sep_eq (K := K) 49 z m hq
  have l0 : i_least K (l, 0, ()) = some ((leastN 0 l : Nat) : Int) := l0
  have l1 : i_least K (l, 1, ()) = some ((leastN 1 l : Nat) : Int) := l1
  have hp2 : decide (((leastN 0 l : Nat) : Int) ≥ 2) = decide (2 ≤ leastN 0 l) := by rw [Bool.eq_iff_iff]; simp; omega
  have hq2 : decide (((leastN 1 l : Nat) : Int) ≥ 2) = decide (2 ≤ leastN 1 l) := by rw [Bool.eq_iff_iff]; simp; omega
  have g0 : ∀ a b c d e : Bool, [a, b, c, d, e].getD (0 : Int).toNat false = a := fun _ _ _ _ _ => rfl
  have g1 : ∀ a b c d e : Bool, [a, b, c, d, e].getD (1 : Int).toNat false = b := fun _ _ _ _ _ => rfl
  have g2 : ∀ a b c d e : Bool, [a, b, c, d, e].getD (2 : Int).toNat false = c := fun _ _ _ _ _ => rfl
  have g3 : ∀ a b c d e : Bool, [a, b, c, d, e].getD (3 : Int).toNat false = d := fun _ _ _ _ _ => rfl
  have g4 : ∀ a b c d e : Bool, [a, b, c, d, e].getD (4 : Int).toNat false = e := fun _ _ _ _ _ => rfl
  rw [ite_t (by decide), ite_t (by decide), ite_t (by decide), ite_t (by decide), ite_t (by decide)]
  simp only [g0, g1, g2, g3, g4, i_unary_eq h hK, some_bind', i_cloneName_j10, i_cloneName_j18, i_cloneName_j20, i_cloneName_j30, gN_eq, i_disj_eq h hK, i_conj_eq h hK, byC_eq, choose_eq, l0, l1, s0, s1, hp2, hq2, nameV, nameB]
  generalize l.all (pC 0) = c0; generalize l.all (pC 1) = c1; generalize l.all (pC 2) = c2; generalize l.all (pC 3) = c3; generalize l.all (pC 4) = c4
  generalize l.all pU = u; generalize l.all (pJ false) = v; generalize l.all (pJ true) = e; generalize leastN 0 l = p at *; generalize leastN 1 l = q at *
  cases u <;> cases c3 <;> cases c2 <;> cases v <;> cases e <;> cases c4 <;> cases c0 <;> cases c1 <;> simp [four] <;> (by_cases h1 : 2 ≤ p <;> by_cases h2 : 2 ≤ q <;> simp [h1, h2])
end Go.Proofs.YtfmenkglnkenpaaDoor.E
namespace Go.Proofs.YtfmenkglnkenpaaDoor.E
open Go Go.Proofs
set_option linter.unusedVariables false
set_option linter.unusedSimpArgs false
variable {K : Nat} {R : Type}
/-! codes of lists; the law CloneName -/
def codeV (l : List DF) : Int := if l.all (isF 0) = true then (if 8 < l.length then 2 else 0) else 1
theorem i_areFuncs_eq {l : List DF} (hl : l.length < 4611686018427387904) (hK : 4611686018427387904 ≤ K) : i_areFuncs K (l, ()) = some (l.all (isF 0)) := by
  simp only [i_areFuncs]
  rw [slices_ContainsFunc_impl_Func_eq _ (fun x => !isF 0 x) hl hK (fun x hx => by simp only [i_areFuncs_c1]; rw [i_IsFunc_eq, some_bind']), some_bind', any_not']
theorem i_listCode_eq {l : List DF} (hl : l.length < 4611686018427387904) (hK : 4611686018427387904 ≤ K) : i_listCode K (l, ()) = some (codeV l) := by
  simp only [i_listCode]
  rw [i_areFuncs_eq hl hK, some_bind', codeV]
  cases l.all (isF 0)
  · rfl
  · rw [ite_f (c := !true) rfl, if_pos rfl]
    by_cases h : 8 < l.length
    · rw [ite_t (decide_eq_true (by omega)), if_pos h]
    · rw [ite_f (decide_eq_false (by omega)), if_neg h]
theorem s_l02Code_eq {l : List DF} (hl : l.length < 4611686018427387904) (hK : 4611686018427387904 ≤ K) : s_l02Code K (l, ()) = some (codeV l) := by
  simp only [s_l02Code]
  refine (lpLA (l := l) (L := fun k i => s_l02Code_l2 K k l i (fun z2 => (if (decide ((z2.length : Int) > (8 : Int))) = true then some (2 : Int) else some (0 : Int))) (fun z3 => some z3)) (g := isF 0) (B := 0)
    (kx := if (decide ((l.length : Int) > (8 : Int))) = true then some (2 : Int) else some (0 : Int)) (kf := some 1) (fun k => ?_) (fun k p y r e _ => ?_) l [] K rfl (by omega)).trans ?_
  · simp only [s_l02Code_l2]; rw [ite_f (decide_eq_false (by omega))]
  · subst e
    simp only [s_l02Code_l2]
    rw [ite_t lt_len, ite_t bnds_mid, getD_midI, s_l01Is_eq, some_bind', next_i hl, ite_not]
  · rw [codeV]
    cases l.all (isF 0)
    · rfl
    · rw [ite_t rfl, if_pos rfl]
      by_cases h : 8 < l.length
      · rw [ite_t (decide_eq_true (by omega)), if_pos h]
      · rw [ite_f (decide_eq_false (by omega)), if_neg h]
theorem set_mid' {α : Type} (p r : List α) (y z : α) : (p ++ y :: r).set p.length z = p ++ z :: r := by simp
theorem toFuncS_l (l : List DF) (hl : l.length < 4611686018427387904) (kx : List DF → Option R) : ∀ (r p : List DF) (k : Nat), l = p ++ r → r.length < k →
    w_toFuncS_l3 K k l (p ++ List.replicate r.length ((0 : Int), (0 : Int), ())) (p.length : Int) kx = kx l
  | _, _, 0, _, h => by omega
  | [], p, k + 1, e, h => by
    subst e
    simp only [w_toFuncS_l3]; rw [ite_f nlt_len]; simp
  | y :: r, p, k + 1, e, h => by
    subst e
    obtain ⟨n, b, u⟩ := y
    simp only [w_toFuncS_l3]
    rw [ite_t lt_len, ite_t bnds_mid, getD_midI]
    simp only [w_toFunc]
    rw [some_bind', ite_t (bnds_n (by simp)), next_i hl, Int.toNat_natCast, List.length_cons, List.replicate_succ, set_mid']
    have := toFuncS_l (p ++ (n, b, u) :: r) hl kx r (p ++ [(n, b, u)]) k (by simp) (by simpa using h)
    rw [← this]; congr 1; simp
theorem w_toFuncS_eq {l : List DF} (hl : l.length ≤ 1099511627776) (hK : 4611686018427387904 ≤ K) : w_toFuncS K (l, ()) = some l := by
  simp only [w_toFuncS]
  rw [ite_t (by
    have e : (lim : Int) = 1099511627776 := rfl
    rw [e, decide_eq_true (by omega : (0 : Int) ≤ l.length), decide_eq_true (by omega : (l.length : Int) ≤ 1099511627776)]; rfl)]
  have h1 : l.length < 4611686018427387904 := by omega
  have h2 : l.length < K := by omega
  have := toFuncS_l (K := K) l h1 (fun z4 => some z4) l [] K rfl h2
  rw [List.nil_append] at this
  rw [Int.toNat_natCast]; exact this
theorem w_eqFunc_self (y : DF) : w_eqFunc K (y, y, ()) = some true := by simp [w_eqFunc]
theorem w_eqFuncS_self {l : List DF} (hl : l.length < 4611686018427387904) (hK : 4611686018427387904 ≤ K) : w_eqFuncS K (l, l, ()) = some true := by
  simp only [w_eqFuncS]
  rw [ite_f (by simp)]
  refine (lpLA (l := l) (L := fun k i => w_eqFuncS_l4 K k l l i (some true) (fun z2 => some z2)) (g := fun _ => true) (B := 0) (kx := some true) (kf := some false) (fun k => ?_) (fun k p y r e _ => ?_) l [] K rfl (by omega)).trans ?_
  · simp only [w_eqFuncS_l4]; rw [ite_f (decide_eq_false (by omega))]
  · subst e
    simp only [w_eqFuncS_l4]
    rw [ite_t lt_len, ite_t bnds_mid, ite_t bnds_mid, getD_midI, w_eqFunc_self, some_bind', next_i hl]; rfl
  · simp
theorem okL_of_code {l : List DF} (h : codeV l = 0) : okL l ∧ l.length ≤ 8 := by
  unfold codeV at h
  split at h
  · rename_i h1
    rw [List.all_eq_true] at h1
    split at h
    · cases h
    · exact ⟨⟨h1, by omega⟩, by omega⟩
  · cases h
theorem i_CloneName_eq {l : List DF} (hl : l.length < 4611686018427387904) (hK : 4611686018427387904 ≤ K) : i_CloneName K (l, ()) = some (if codeV l = 0 then (nameV l, 0, ()) else (⟨#[]⟩, codeV l, ())) := by
  simp only [i_CloneName]
  rw [i_listCode_eq hl hK, some_bind']
  by_cases h : codeV l = 0
  · rw [ite_f (by simp [h]), i_cloneName_eq (okL_of_code h).1 hK, if_pos h]; rfl
  · rw [ite_t (by simp [h]), if_neg h]
theorem s_CloneName_eq {l : List DF} (hl : l.length < 4611686018427387904) (hK : 4611686018427387904 ≤ K) : s_CloneName K (l, ()) = some (if codeV l = 0 then (nameV l, 0, ()) else (⟨#[]⟩, codeV l, ())) := by
  simp only [s_CloneName]
  rw [s_l02Code_eq hl hK, some_bind']
  by_cases h : codeV l = 0
  · rw [ite_f (by simp [h]), s_l08Name_eq (okL_of_code h).1 (by omega), if_pos h]; rfl
  · rw [ite_t (by simp [h]), if_neg h]
theorem neq_self (a : ByteArray) : cmpS .neq a a = false := by simp [cmpS]
theorem law_CloneName {l : List DF} (hl : l.length ≤ 9223372036854775807) : w_FnExactCloneName 9223372036854775808 (l, ()) = some true := by
  simp only [w_FnExactCloneName, w_szFuncS]
  rw [w64 (by omega) (by omega)]
  by_cases h : 1048576 < l.length
  · rw [ite_t (decide_eq_true (by omega)), some_bind', ite_t (decide_eq_true (by omega))]
  · have hK : 4611686018427387904 ≤ 9223372036854775808 := by decide
    have hl : l.length < 4611686018427387904 := by omega
    rw [ite_f (decide_eq_false (by omega)), some_bind', ite_f (decide_eq_false (by omega)), w_toFuncS_eq (by omega) hK, some_bind', s_CloneName_eq hl hK, some_bind', some_bind', i_CloneName_eq hl hK, some_bind', ite_f (neq_self _), ite_f (by simp)]
    simp only [w_FnExactCloneName_j10]
    rw [w_toFuncS_eq (by omega) hK, some_bind', w_eqFuncS_self hl hK, some_bind']; rfl
end Go.Proofs.YtfmenkglnkenpaaDoor.E
namespace Go.Proofs.YtfmenkglnkenpaaDoor.E
open Go Go.Proofs
set_option linter.unusedVariables false
set_option linter.unusedSimpArgs false
set_option maxRecDepth 100000
variable {K : Nat} {R : Type}
/-! generators of names -/
theorem gens_law : ∀ t ∈ allNames, w_FnExactGeneratorsOf 9223372036854775808 (t, ()) = some true := by decide +kernel
/-- The names without a degree. -/
def plainN : List ByteArray := allNames.filter fun a => a.size ≤ 3 && !a.data.toList.contains 94
theorem mem_of {a : ByteArray} {l : List ByteArray} (h : (l.any fun b => b.data.toList == a.data.toList) = true) : a ∈ l := by
  obtain ⟨b, hb, e⟩ := List.any_eq_true.1 h
  rw [beq_iff_eq] at e
  have : b = a := ByteArray.ext (Array.toList_inj.mp e)
  rw [← this]; exact hb
theorem eql_iff (a b : ByteArray) : cmpS .eql a b = true ↔ a = b := by
  simp only [cmpS, beq_iff_eq, ByteArray.toList_eq]
  exact ⟨fun h => ByteArray.ext (Array.toList_inj.mp h), fun h => by rw [h]⟩
theorem eql_ne {a b : ByteArray} (h : a ≠ b) : cmpS .eql a b = false := by
  cases e : cmpS .eql a b
  · rfl
  · exact absurd ((eql_iff a b).1 e) h
theorem nc {a c : ByteArray} (h : a ∉ plainN) (hc : c ∈ plainN) : cmpS .eql a c = false := eql_ne fun e => h (e ▸ hc)
theorem ba_nil : (⟨#[]⟩ : ByteArray) = ByteArray.empty := rfl
theorem ba_list (a : ByteArray) : a = ⟨a.data.toList.toArray⟩ := by cases a; simp
theorem base_j69 {x y : UInt8} (hx : x = 69 ∨ x = 73 ∨ x = 86) (h : (⟨#[x, y]⟩ : ByteArray) ∉ plainN) (v4 v5 : Int × Int × Unit) (v15 : List DF) (kn : Option R) (kr : List DF → Bool → Option R) (k : Nat) :
    s_l08Base_j69 K k ⟨#[x, y]⟩ v4 v5 v15 kn kr = kr [] false := by
  have he : (⟨#[x, y]⟩ : ByteArray).extract (1 : Int).toNat (((⟨#[x, y]⟩ : ByteArray).size : Int)).toNat = ⟨#[y]⟩ := by
    show (⟨#[x, y]⟩ : ByteArray).extract 1 2 = ⟨#[y]⟩
    apply ByteArray.ext; simp [ByteArray.data_extract]
  have hy : ∀ c, c = 48 ∨ c = 49 ∨ c = 50 → y ≠ c := fun c hc e => by
    subst e
    rcases hx with rfl | rfl | rfl <;> rcases hc with rfl | rfl | rfl <;> exact h (mem_of (by decide +kernel))
  have hb : ∀ c, c = 48 ∨ c = 49 ∨ c = 50 → cmpS .eql (⟨#[y]⟩ : ByteArray) ⟨#[c]⟩ = false := fun c hc => eql_ne fun e => hy c hc (by
    have := congrArg (fun b : ByteArray => b.data.toList) e
    simpa using this)
  simp only [s_l08Base_j69]
  rw [he, ite_t (by rfl), ite_f (eql_ne (by intro e; have := congrArg ByteArray.size e; cases this)), ite_f (hb 48 (.inl rfl)), ite_f (hb 49 (.inr (.inl rfl))), ite_f (hb 50 (.inr (.inr rfl)))]
theorem base_not {a : ByteArray} (h : a ∉ plainN) : s_l08Base K (a, ()) = some ([], false, ()) := by
  simp only [s_l08Base]
  rw [ite_f (nc h (mem_of (by decide +kernel))), ite_f (nc h (mem_of (by decide +kernel))), ite_f (nc h (mem_of (by decide +kernel))), ite_f (nc h (mem_of (by decide +kernel))), ite_f (nc h (mem_of (by decide +kernel))), ite_f (nc h (mem_of (by decide +kernel))), ite_f (nc h (mem_of (by decide +kernel))), ite_f (nc h (mem_of (by decide +kernel))), ite_f (nc h (mem_of (by decide +kernel))), ite_f (nc h (mem_of (by decide +kernel))), ite_f (nc h (mem_of (by decide +kernel))), ite_f (nc h (mem_of (by decide +kernel))), ite_f (nc h (mem_of (by decide +kernel))), ite_f (nc h (mem_of (by decide +kernel))), ite_f (nc h (mem_of (by decide +kernel))), ite_f (nc h (mem_of (by decide +kernel))), ite_f (nc h (mem_of (by decide +kernel))), ite_f (nc h (mem_of (by decide +kernel))), ite_f (nc h (mem_of (by decide +kernel))), ite_f (nc h (mem_of (by decide +kernel))), ite_f (nc h (mem_of (by decide +kernel))), ite_f (nc h (mem_of (by decide +kernel))), ite_f (nc h (mem_of (by decide +kernel))), ite_f (nc h (mem_of (by decide +kernel))), ite_f (nc h (mem_of (by decide +kernel))), ite_f (nc h (mem_of (by decide +kernel)))]
  by_cases h0 : a.size = 0
  · rw [ite_t (decide_eq_true (by omega))]
  · rw [ite_f (decide_eq_false (by omega))]
    by_cases h2 : 2 < a.size
    · rw [ite_t (decide_eq_true (by omega))]
    · rw [ite_f (decide_eq_false (by omega))]
      simp only [s_l08Base_j61]
      obtain ⟨d⟩ := a
      obtain ⟨l⟩ := d
      match l, h0, h2, h with
      | [], h0, _, _ => exact absurd rfl h0
      | [x], _, _, h =>
        have hx : ∀ c, c = 69 ∨ c = 73 ∨ c = 86 → x ≠ c := fun c hc e => by
          subst e
          rcases hc with rfl | rfl | rfl <;> exact h (mem_of (by decide +kernel))
        have hb : ∀ c : UInt8, c = 69 ∨ c = 73 ∨ c = 86 → decide (byteAt (⟨⟨[x]⟩⟩ : ByteArray) 0 = ((c.toNat : Nat) : Int)) = false := fun c hc => decide_eq_false fun e => hx c hc (by
          have e : ((x.toNat : Nat) : Int) = ((c.toNat : Nat) : Int) := e
          exact UInt8.toNat_inj.1 (by omega))
        have h69 : decide (byteAt (⟨⟨[x]⟩⟩ : ByteArray) 0 = (69 : Int)) = false := hb 69 (.inl rfl)
        have h73 : decide (byteAt (⟨⟨[x]⟩⟩ : ByteArray) 0 = (73 : Int)) = false := hb 73 (.inr (.inl rfl))
        have h86 : decide (byteAt (⟨⟨[x]⟩⟩ : ByteArray) 0 = (86 : Int)) = false := hb 86 (.inr (.inr rfl))
        rw [ite_t (by rfl), ite_f h69, ite_f h73, ite_f h86]
      | [x, y], _, _, h =>
        have hb : ∀ c : UInt8, x ≠ c → decide (byteAt (⟨⟨[x, y]⟩⟩ : ByteArray) 0 = ((c.toNat : Nat) : Int)) = false := fun c hc => decide_eq_false fun e => hc (by
          have e : ((x.toNat : Nat) : Int) = ((c.toNat : Nat) : Int) := e
          exact UInt8.toNat_inj.1 (by omega))
        have ht : ∀ c : UInt8, x = c → decide (byteAt (⟨⟨[x, y]⟩⟩ : ByteArray) 0 = ((c.toNat : Nat) : Int)) = true := fun c hc => decide_eq_true (by subst hc; rfl)
        rw [ite_t (by rfl)]
        by_cases e1 : x = 69
        · rw [ite_t (show decide (byteAt (⟨⟨[x, y]⟩⟩ : ByteArray) 0 = (69 : Int)) = true from ht 69 e1), base_j69 (.inl e1) h]
        · have h69 : decide (byteAt (⟨⟨[x, y]⟩⟩ : ByteArray) 0 = (69 : Int)) = false := hb 69 e1
          rw [ite_f h69]
          by_cases e2 : x = 73
          · rw [ite_t (show decide (byteAt (⟨⟨[x, y]⟩⟩ : ByteArray) 0 = (73 : Int)) = true from ht 73 e2), base_j69 (.inr (.inl e2)) h]
          · have h73 : decide (byteAt (⟨⟨[x, y]⟩⟩ : ByteArray) 0 = (73 : Int)) = false := hb 73 e2
            rw [ite_f h73]
            by_cases e3 : x = 86
            · rw [ite_t (show decide (byteAt (⟨⟨[x, y]⟩⟩ : ByteArray) 0 = (86 : Int)) = true from ht 86 e3), base_j69 (.inr (.inr e3)) h]
            · have h86 : decide (byteAt (⟨⟨[x, y]⟩⟩ : ByteArray) 0 = (86 : Int)) = false := hb 86 e3
              rw [ite_f h86]
      | x :: y :: z :: r, _, h2, _ => exact absurd (show 2 < (x :: y :: z :: r).length by simp) h2
theorem base_some : ∀ t ∈ plainN, (s_l08Base 9223372036854775808 (t, ())).isSome = true := by decide +kernel
/-- The names: those without a degree, and those with one. -/
theorem names_sub : ∀ a ∈ plainN, a ∈ allNames := fun a h => (List.mem_filter.1 h).1
theorem names_deg : ∀ p ∈ plainN, ∀ d : UInt8, (d = 50 ∨ d = 51) → p.data.toList.head? = some 83 → (⟨(p.data.toList ++ [94, d]).toArray⟩ : ByteArray) ∈ allNames := by
  have h : ∀ p ∈ plainN, (p.data.toList.head? == some 83) = true → ([50, 51] : List UInt8).all (fun d => allNames.any fun b => b.data.toList == p.data.toList ++ [94, d]) = true := by decide +kernel
  intro p hp d hd hh
  have := h p hp (by simp [hh])
  rw [List.all_eq_true] at this
  exact mem_of (this d (by rcases hd with rfl | rfl <;> simp))
theorem byteAt_l (l : List UInt8) (i : Nat) (h : i < l.length) : byteAt (⟨l.toArray⟩ : ByteArray) (i : Int) = ((l[i].toNat : Nat) : Int) := by
  simp [byteAt, Array.getD, h]
theorem gen_not {a : ByteArray} (h : a ∉ allNames) (hs : a.size < 4611686018427387904) : s_l08Generators 9223372036854775808 (a, ()) = some ([], false, ()) := by
  have hp : a ∉ plainN := fun e => h (names_sub a e)
  have hb := base_not (K := 9223372036854775808) hp
  simp only [s_l08Generators, s_l08Generators_j3, gN_eq]
  rw [w64 (by omega) (by omega)]
  by_cases h4 : a.size < 4
  · rw [ite_t (decide_eq_true (by omega)), hb, some_bind']
  · rw [ite_f (decide_eq_false (by omega)), ite_t (bnds_t (by omega) (by omega))]
    obtain ⟨p, x, d, rfl⟩ : ∃ p x d, a = ⟨(p ++ [x, d]).toArray⟩ := by
      obtain ⟨⟨l⟩⟩ := a
      have hl : 4 ≤ l.length := by
        have : (⟨⟨l⟩⟩ : ByteArray).size = l.length := rfl
        omega
      refine ⟨l.take (l.length - 2), l[l.length - 2]'(by omega), l[l.length - 1]'(by omega), ?_⟩
      apply ByteArray.ext
      show (⟨l⟩ : Array UInt8) = ⟨_⟩
      congr 1
      have e1 : l.drop (l.length - 2) = [l[l.length - 2]'(by omega), l[l.length - 1]'(by omega)] := by
        rw [List.drop_eq_getElem_cons (by omega)]
        congr 1
        rw [List.drop_eq_getElem_cons (by omega), List.drop_eq_nil_of_le (by omega)]
        congr 2
        omega
      rw [← e1, List.take_append_drop]
    have hz : (⟨(p ++ [x, d]).toArray⟩ : ByteArray).size = p.length + 2 := by show ((p ++ [x, d]).toArray).size = _; simp
    rw [hz] at h4 hs ⊢
    have e2 : ((p.length + 2 : Nat) : Int) - 2 = (p.length : Int) := by omega
    rw [e2]
    have hx : byteAt (⟨(p ++ [x, d]).toArray⟩ : ByteArray) (p.length : Int) = ((x.toNat : Nat) : Int) := by
      rw [byteAt_l _ _ (by simp)]; simp
    have hd : byteAt (⟨(p ++ [x, d]).toArray⟩ : ByteArray) ((p.length + 1 : Nat) : Int) = ((d.toNat : Nat) : Int) := by
      rw [byteAt_l _ _ (by simp)]; simp
    have h0 : byteAt (⟨(p ++ [x, d]).toArray⟩ : ByteArray) 0 = (((p.head?.getD 0).toNat : Nat) : Int) := by
      have := byteAt_l (p ++ [x, d]) 0 (by simp)
      rw [show (((0 : Nat) : Int)) = 0 from rfl] at this
      rw [this]
      cases p with
      | nil => simp at h4
      | cons y r => simp
    have hc : ∀ (u : UInt8) (n : Nat), n < 256 → decide (((u.toNat : Nat) : Int) = (n : Int)) = decide (u = UInt8.ofNat n) := fun u n hn => by
      rw [Bool.eq_iff_iff, decide_eq_true_eq, decide_eq_true_eq]
      constructor
      · intro e
        apply UInt8.toNat_inj.1
        rw [UInt8.toNat_ofNat']
        omega
      · intro e; rw [e, UInt8.toNat_ofNat']; omega
    rw [hx]
    have c94 := hc x 94 (by decide)
    rw [show ((94 : Nat) : Int) = 94 from rfl] at c94
    rw [c94]
    by_cases e3 : x = UInt8.ofNat 94
    · subst e3
      rw [ite_f (by rw [decide_eq_true rfl]; rfl)]
      simp only [s_l08Generators_j4]
      have hext : (⟨(p ++ [UInt8.ofNat 94, d]).toArray⟩ : ByteArray).extract (0 : Int).toNat ((p.length : Int)).toNat = ⟨p.toArray⟩ := by
        apply ByteArray.ext
        rw [ByteArray.data_extract]
        simp
      have i1 : (decide (0 ≤ (0 : Int)) && decide ((0 : Int) ≤ (p.length : Int)) && decide ((p.length : Int) ≤ ((⟨(p ++ [UInt8.ofNat 94, d]).toArray⟩ : ByteArray).size : Int))) = true := by
        rw [hz]; simp; omega
      have hbn : bnds ((p.length + 1 : Nat) : Int) ((⟨(p ++ [UInt8.ofNat 94, d]).toArray⟩ : ByteArray).size : Int) = true := bnds_n (by rw [hz]; omega)
      rw [ite_t i1, hext, w64s (by omega)]
      simp only [hbn, if_true, hd]
      have c51 := hc d 51 (by decide)
      have c50 := hc d 50 (by decide)
      have c83 := hc (p.head?.getD 0) 83 (by decide)
      rw [show ((51 : Nat) : Int) = 51 from rfl] at c51
      rw [show ((50 : Nat) : Int) = 50 from rfl] at c50
      rw [show ((83 : Nat) : Int) = 83 from rfl] at c83
      have j8 : ∀ (l : List DF) (ok : Bool) (v7 : Int) (kr : List DF → Bool → Option ((List DF) × Bool × Unit)), (ok = true → ¬ ((d = 50 ∨ d = 51) ∧ p.head? = some 83)) → s_l08Generators_j8 9223372036854775808 9223372036854775808 (⟨(p ++ [UInt8.ofNat 94, d]).toArray⟩ : ByteArray) (p.length : Int) l ok v7 none kr = kr [] false := by
        intro l ok v7 kr hok
        simp only [s_l08Generators_j8]
        cases ok
        · rw [ite_t (by rfl)]
        · rw [ite_f (by rfl), ite_t (bnds_t (by omega) (by rw [hz]; omega)), h0, c83]
          by_cases e8 : p.head?.getD 0 = UInt8.ofNat 83
          · have hh : p.head? = some 83 := by
              cases p with
              | nil => simp at h4
              | cons y r => simpa using e8
            rw [ite_f (by rw [decide_eq_true e8]; rfl), w64s (by omega), ite_t (bnds_n (by rw [hz]; omega)), hd, c50, c51]
            have n50 : d ≠ UInt8.ofNat 50 := fun e => hok rfl ⟨.inl e, hh⟩
            have n51 : d ≠ UInt8.ofNat 51 := fun e => hok rfl ⟨.inr e, hh⟩
            rw [ite_t (by rw [decide_eq_false n50]; rfl), ite_t (bnds_n (by rw [hz]; omega)), ite_t (by rw [decide_eq_false n51]; rfl)]
          · rw [ite_t (by rw [decide_eq_false e8]; rfl)]
      by_cases hpp : (⟨p.toArray⟩ : ByteArray) ∈ plainN
      · have hnot : ¬ ((d = 50 ∨ d = 51) ∧ p.head? = some 83) := fun ⟨e1, e2⟩ => h (by
          have := names_deg _ hpp d e1 e2
          simpa using this)
        obtain ⟨y, hy⟩ : ∃ y, s_l08Base 9223372036854775808 (⟨p.toArray⟩, ()) = some y := by
          exact Option.isSome_iff_exists.1 (base_some _ hpp)
        rw [hy, some_bind']
        by_cases e5 : d = UInt8.ofNat 51
        · rw [c51, ite_t (decide_eq_true e5), j8 _ _ _ _ (fun _ => hnot)]
        · rw [c51, ite_f (decide_eq_false e5), j8 _ _ _ _ (fun _ => hnot)]
      · rw [base_not hpp, some_bind']
        by_cases e5 : d = UInt8.ofNat 51
        · rw [c51, ite_t (decide_eq_true e5), j8 _ _ _ _ (fun h => by cases h)]
        · rw [c51, ite_f (decide_eq_false e5), j8 _ _ _ _ (fun h => by cases h)]
    · rw [ite_t (by rw [decide_eq_false e3]; rfl), hb, some_bind']
theorem idx_str (v1 : ByteArray) (l : List ByteArray) (hl : l.length < 4611686018427387904) (hv : v1 ∉ l) (kx : Option R) (kr : Int → Option R) (k : Nat) (hk : l.length < k) :
    slices_Index_string_l2 K k l v1 (l.length : Int) 0 kx kr = kx := by
  refine (lpLA (l := l) (L := fun k i => slices_Index_string_l2 K k l v1 (l.length : Int) i kx kr) (g := fun y => true) (B := 0) (kx := kx) (kf := kx) (fun k => ?_) (fun k p y r e _ => ?_) l [] k rfl (by omega)).trans (by simp)
  · simp only [slices_Index_string_l2]; rw [ite_f (decide_eq_false (by omega))]
  · have hy : v1 ≠ y := fun h => hv (by rw [e, h]; simp)
    subst e
    simp only [slices_Index_string_l2]
    rw [ite_t lt_len, ite_t bnds_mid, getD_midI, ite_f (eql_ne hy), next_i hl]; rfl
theorem i_gen_not {a : ByteArray} (h : a ∉ allNames) (hK : 100 ≤ K) : i_generators K (a, ()) = some ([], false, ()) := by
  have hl : allNames.length = 54 := by kernel_rfl
  simp only [i_generators, i_CloneNames, slices_Contains_string, slices_Index_string, some_bind']
  rw [idx_str a allNames (by omega) h _ _ K (by omega)]; rfl
theorem law_GeneratorsOf {a : ByteArray} (hs : a.size ≤ 9223372036854775807) : w_FnExactGeneratorsOf 9223372036854775808 (a, ()) = some true := by
  by_cases h : a ∈ allNames
  · exact gens_law a h
  · simp only [w_FnExactGeneratorsOf]
    by_cases h1 : 1048576 < a.size
    · rw [ite_t (decide_eq_true (by omega))]
    · have hg := gen_not h (by omega)
      have hi := i_gen_not (K := 9223372036854775808) h (by decide)
      rw [ite_f (decide_eq_false (by omega))]
      simp only [s_GeneratorsOf, i_GeneratorsOf, w_FnExactGeneratorsOf_j7, w_FnExactGeneratorsOf_j18, hg, hi, some_bind']
      decide +kernel
end Go.Proofs.YtfmenkglnkenpaaDoor.E
namespace Go.Proofs.YtfmenkglnkenpaaDoor.E
open Go Go.Proofs
/-- FnExactGeneratorsOf, in plain numbers and lists: no condition but what is known of all data. -/
theorem PuFnExactGeneratorsOf (x : den as_w_FnExactGeneratorsOf) (h : okD as_w_FnExactGeneratorsOf x) : ∃ K, w_FnExactGeneratorsOf K x = some true := by
  obtain ⟨a, u⟩ := x
  exact ⟨9223372036854775808, law_GeneratorsOf (Nat.le_trans h.1 (by decide))⟩
end Go.Proofs.YtfmenkglnkenpaaDoor.E
