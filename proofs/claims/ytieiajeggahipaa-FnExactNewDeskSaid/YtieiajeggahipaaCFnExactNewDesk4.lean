/-
  What the Go functions that FnExactNewDesk reaches hand back, each as a plain function with a proof that the call does so, and plain lemmas on them. Conditions: those of each theorem.
-/
import Derived.Test.YtieiajeggahipaaCFnExactNewDesk3
namespace Go.Proofs.Ytieiajeggahipaa.E
open Go Go.Proofs Go.Proofs.Ytieiajeggahipaa
set_option maxRecDepth 100000
set_option linter.unusedVariables false
noncomputable def as_internal_stringslite_Cut : Ty := (.pair .str (.pair .str .unit))
noncomputable def sp_internal_stringslite_Cut (F : (ByteArray × ByteArray × Unit) → Option (ByteArray × ByteArray × Bool × Unit)) : FnSpec := ⟨as_internal_stringslite_Cut, [false, false], (.tup (.pair .str (.pair .str (.pair .bool .unit)))), F⟩
noncomputable def internal_stringslite_Cut (K : Nat) (x : (ByteArray × ByteArray × Unit)) : Option (ByteArray × ByteArray × Bool × Unit) :=
    (internal_stringslite_Index K (x.1, x.2.1, ())).bind fun y1 =>
    (if (decide (y1 ≥ (0 : Int))) = true then
    (if (decide (0 ≤ (0 : Int)) && decide ((0 : Int) ≤ y1) && decide (y1 ≤ (x.1.size : Int))) = true then
    (if (decide (0 ≤ (IntKind.i64.wrap (y1 + (x.2.1.size : Int)))) && decide ((IntKind.i64.wrap (y1 + (x.2.1.size : Int))) ≤ (x.1.size : Int)) && decide ((x.1.size : Int) ≤ (x.1.size : Int))) = true then
    let x2 := (x.1.extract (IntKind.i64.wrap (y1 + (x.2.1.size : Int))).toNat (x.1.size : Int).toNat)
    some ((x.1.extract (0 : Int).toNat y1.toNat), x2, true, ())
    else
    none)
    else
    none)
    else
    some (x.1, (⟨#[]⟩ : ByteArray), false, ()))
noncomputable def rv_internal_stringslite_Cut : Lv := [(4, (.v .str)), (5, (.v .str)), (6, (.v .bool))]
noncomputable def sg_internal_stringslite_Cut {R : Type} (K : Nat) (k : Nat) : List (Nat × SegS R) := []
noncomputable def su_internal_stringslite_Cut : List (Nat × Unit) := []
noncomputable def en_internal_stringslite_Cut {R : Type} (K : Nat) (k : Nat) : Env R := { L := lk [], X := lk [], S := lk (sg_internal_stringslite_Cut K k), rv := rv_internal_stringslite_Cut }
noncomputable def cf_internal_stringslite_Cut (K : Nat) : Cfg := { ty := lk tys, fn := lk [(154, sp_internal_stringslite_Index (internal_stringslite_Index K))], prot := 0, nt := Try.f148.ntmps }
theorem e_internal_stringslite_Cut (K : Nat) (x : den as_internal_stringslite_Cut) : internal_stringslite_Cut K x = evFn (cf_internal_stringslite_Cut K) as_internal_stringslite_Cut [false, false] (.tup (.pair .str (.pair .str (.pair .bool .unit)))) (en_internal_stringslite_Cut K K) Try.f148.results.toList (bodyOf Try.f148) x := by kernel_rfl
theorem ok_internal_stringslite_Cut (K : Nat) : FnOk Try.prog 148 (sp_internal_stringslite_Cut (internal_stringslite_Cut K)) :=
  fn_ok (cf := cf_internal_stringslite_Cut K) (en := en_internal_stringslite_Cut K K) (c := bodyOf Try.f148) Try.func148 (by kernel_rfl) (by kernel_rfl) tysOk (fns_ok (l := [(154, sp_internal_stringslite_Index (internal_stringslite_Index K))]) ⟨ok_internal_stringslite_Index K, trivial⟩) (by kernel_rfl) rfl (Nat.le_of_ble_eq_true (by kernel_rfl)) (by kernel_rfl) (of_decide_eq_true (by kernel_rfl)) (by decide) (fun C hP O => lpOk_of (en := en_internal_stringslite_Cut K K) (S := hasK su_internal_stringslite_Cut) (fun i => hasK_lk (sg_internal_stringslite_Cut K K) i) _ (by rw [show partsOf (hasK su_internal_stringslite_Cut) (bodyOf Try.f148) = [] from by kernel_rfl]; exact trivial)) (fun x y h => by rw [← e_internal_stringslite_Cut]; exact h)
noncomputable def as_strings_Cut : Ty := (.pair .str (.pair .str .unit))
noncomputable def sp_strings_Cut (F : (ByteArray × ByteArray × Unit) → Option (ByteArray × ByteArray × Bool × Unit)) : FnSpec := ⟨as_strings_Cut, [false, false], (.tup (.pair .str (.pair .str (.pair .bool .unit)))), F⟩
noncomputable def strings_Cut (K : Nat) (x : (ByteArray × ByteArray × Unit)) : Option (ByteArray × ByteArray × Bool × Unit) :=
    (internal_stringslite_Cut K (x.1, x.2.1, ())).bind fun y1 =>
    some (y1.1, y1.2.1, y1.2.2.1, ())
noncomputable def rv_strings_Cut : Lv := [(4, (.v .str)), (5, (.v .str)), (6, (.v .bool))]
noncomputable def sg_strings_Cut {R : Type} (K : Nat) (k : Nat) : List (Nat × SegS R) := []
noncomputable def su_strings_Cut : List (Nat × Unit) := []
noncomputable def en_strings_Cut {R : Type} (K : Nat) (k : Nat) : Env R := { L := lk [], X := lk [], S := lk (sg_strings_Cut K k), rv := rv_strings_Cut }
noncomputable def cf_strings_Cut (K : Nat) : Cfg := { ty := lk tys, fn := lk [(148, sp_internal_stringslite_Cut (internal_stringslite_Cut K))], prot := 0, nt := Try.f136.ntmps }
theorem e_strings_Cut (K : Nat) (x : den as_strings_Cut) : strings_Cut K x = evFn (cf_strings_Cut K) as_strings_Cut [false, false] (.tup (.pair .str (.pair .str (.pair .bool .unit)))) (en_strings_Cut K K) Try.f136.results.toList (bodyOf Try.f136) x := by kernel_rfl
theorem ok_strings_Cut (K : Nat) : FnOk Try.prog 136 (sp_strings_Cut (strings_Cut K)) :=
  fn_ok (cf := cf_strings_Cut K) (en := en_strings_Cut K K) (c := bodyOf Try.f136) Try.func136 (by kernel_rfl) (by kernel_rfl) tysOk (fns_ok (l := [(148, sp_internal_stringslite_Cut (internal_stringslite_Cut K))]) ⟨ok_internal_stringslite_Cut K, trivial⟩) (by kernel_rfl) rfl (Nat.le_of_ble_eq_true (by kernel_rfl)) (by kernel_rfl) (of_decide_eq_true (by kernel_rfl)) (by decide) (fun C hP O => lpOk_of (en := en_strings_Cut K K) (S := hasK su_strings_Cut) (fun i => hasK_lk (sg_strings_Cut K K) i) _ (by rw [show partsOf (hasK su_strings_Cut) (bodyOf Try.f136) = [] from by kernel_rfl]; exact trivial)) (fun x y h => by rw [← e_strings_Cut]; exact h)
noncomputable def as_i_within : Ty := (.pair (.int .i64) (.pair (.int .i64) (.pair (.int .i64) .unit)))
noncomputable def sp_i_within (F : (Int × Int × Int × Unit) → Option Bool) : FnSpec := ⟨as_i_within, [false, false, false], .bool, F⟩
noncomputable def i_within (K : Nat) (x : (Int × Int × Int × Unit)) : Option Bool :=
    (if (decide (x.1 ≥ x.2.1)) = true then
    some (decide (x.1 ≤ x.2.2.1))
    else
    some false)
noncomputable def rv_i_within : Lv := [(6, (.v .bool))]
noncomputable def sg_i_within {R : Type} (K : Nat) (k : Nat) : List (Nat × SegS R) := []
noncomputable def su_i_within : List (Nat × Unit) := []
noncomputable def en_i_within {R : Type} (K : Nat) (k : Nat) : Env R := { L := lk [], X := lk [], S := lk (sg_i_within K k), rv := rv_i_within }
noncomputable def cf_i_within (K : Nat) : Cfg := { ty := lk tys, fn := lk [], prot := 0, nt := Try.f79.ntmps }
theorem e_i_within (K : Nat) (x : den as_i_within) : i_within K x = evFn (cf_i_within K) as_i_within [false, false, false] .bool (en_i_within K K) Try.f79.results.toList (bodyOf Try.f79) x := by kernel_rfl
theorem ok_i_within (K : Nat) : FnOk Try.prog 79 (sp_i_within (i_within K)) :=
  fn_ok (cf := cf_i_within K) (en := en_i_within K K) (c := bodyOf Try.f79) Try.func79 (by kernel_rfl) (by kernel_rfl) tysOk (fns_ok (l := []) trivial) (by kernel_rfl) rfl (Nat.le_of_ble_eq_true (by kernel_rfl)) (by kernel_rfl) (of_decide_eq_true (by kernel_rfl)) (by decide) (fun C hP O => lpOk_of (en := en_i_within K K) (S := hasK su_i_within) (fun i => hasK_lk (sg_i_within K K) i) _ (by rw [show partsOf (hasK su_i_within) (bodyOf Try.f79) = [] from by kernel_rfl]; exact trivial)) (fun x y h => by rw [← e_i_within]; exact h)
noncomputable def as_i_isArity : Ty := (.pair (.int .i64) .unit)
noncomputable def sp_i_isArity (F : (Int × Unit) → Option Bool) : FnSpec := ⟨as_i_isArity, [false], .bool, F⟩
noncomputable def i_isArity (K : Nat) (x : (Int × Unit)) : Option Bool :=
    (i_within K (x.1, (0 : Int), (4 : Int), ())).bind fun y1 =>
    some y1
noncomputable def rv_i_isArity : Lv := [(2, (.v .bool))]
noncomputable def sg_i_isArity {R : Type} (K : Nat) (k : Nat) : List (Nat × SegS R) := []
noncomputable def su_i_isArity : List (Nat × Unit) := []
noncomputable def en_i_isArity {R : Type} (K : Nat) (k : Nat) : Env R := { L := lk [], X := lk [], S := lk (sg_i_isArity K k), rv := rv_i_isArity }
noncomputable def cf_i_isArity (K : Nat) : Cfg := { ty := lk tys, fn := lk [(79, sp_i_within (i_within K))], prot := 0, nt := Try.f57.ntmps }
theorem e_i_isArity (K : Nat) (x : den as_i_isArity) : i_isArity K x = evFn (cf_i_isArity K) as_i_isArity [false] .bool (en_i_isArity K K) Try.f57.results.toList (bodyOf Try.f57) x := by kernel_rfl
theorem ok_i_isArity (K : Nat) : FnOk Try.prog 57 (sp_i_isArity (i_isArity K)) :=
  fn_ok (cf := cf_i_isArity K) (en := en_i_isArity K K) (c := bodyOf Try.f57) Try.func57 (by kernel_rfl) (by kernel_rfl) tysOk (fns_ok (l := [(79, sp_i_within (i_within K))]) ⟨ok_i_within K, trivial⟩) (by kernel_rfl) rfl (Nat.le_of_ble_eq_true (by kernel_rfl)) (by kernel_rfl) (of_decide_eq_true (by kernel_rfl)) (by decide) (fun C hP O => lpOk_of (en := en_i_isArity K K) (S := hasK su_i_isArity) (fun i => hasK_lk (sg_i_isArity K K) i) _ (by rw [show partsOf (hasK su_i_isArity) (bodyOf Try.f57) = [] from by kernel_rfl]; exact trivial)) (fun x y h => by rw [← e_i_isArity]; exact h)
noncomputable def as_i_funcsOf : Ty := (.pair (.int .i64) .unit)
noncomputable def sp_i_funcsOf (F : (Int × Unit) → Option Int) : FnSpec := ⟨as_i_funcsOf, [false], (.int .i64), F⟩
noncomputable def i_funcsOf (K : Nat) (x : (Int × Unit)) : Option Int :=
    (i_rowsOf K (x.1, ())).bind fun y1 =>
    (if (decide ((0 : Int) ≤ y1)) = true then
    some (shlI .i64 (1 : Int) y1)
    else
    none)
noncomputable def rv_i_funcsOf : Lv := [(2, (.v (.int .i64)))]
noncomputable def sg_i_funcsOf {R : Type} (K : Nat) (k : Nat) : List (Nat × SegS R) := []
noncomputable def su_i_funcsOf : List (Nat × Unit) := []
noncomputable def en_i_funcsOf {R : Type} (K : Nat) (k : Nat) : Env R := { L := lk [], X := lk [], S := lk (sg_i_funcsOf K k), rv := rv_i_funcsOf }
noncomputable def cf_i_funcsOf (K : Nat) : Cfg := { ty := lk tys, fn := lk [(90, sp_i_rowsOf (i_rowsOf K))], prot := 0, nt := Try.f58.ntmps }
theorem e_i_funcsOf (K : Nat) (x : den as_i_funcsOf) : i_funcsOf K x = evFn (cf_i_funcsOf K) as_i_funcsOf [false] (.int .i64) (en_i_funcsOf K K) Try.f58.results.toList (bodyOf Try.f58) x := by kernel_rfl
theorem ok_i_funcsOf (K : Nat) : FnOk Try.prog 58 (sp_i_funcsOf (i_funcsOf K)) :=
  fn_ok (cf := cf_i_funcsOf K) (en := en_i_funcsOf K K) (c := bodyOf Try.f58) Try.func58 (by kernel_rfl) (by kernel_rfl) tysOk (fns_ok (l := [(90, sp_i_rowsOf (i_rowsOf K))]) ⟨ok_i_rowsOf K, trivial⟩) (by kernel_rfl) rfl (Nat.le_of_ble_eq_true (by kernel_rfl)) (by kernel_rfl) (of_decide_eq_true (by kernel_rfl)) (by decide) (fun C hP O => lpOk_of (en := en_i_funcsOf K K) (S := hasK su_i_funcsOf) (fun i => hasK_lk (sg_i_funcsOf K K) i) _ (by rw [show partsOf (hasK su_i_funcsOf) (bodyOf Try.f58) = [] from by kernel_rfl]; exact trivial)) (fun x y h => by rw [← e_i_funcsOf]; exact h)
noncomputable def as_i_IsFunc : Ty := (.pair (.st (.pair (.int .i64) (.pair (.int .i64) .unit))) .unit)
noncomputable def sp_i_IsFunc (F : ((Int × Int × Unit) × Unit) → Option Bool) : FnSpec := ⟨as_i_IsFunc, [false], .bool, F⟩
noncomputable def i_IsFunc (K : Nat) (x : ((Int × Int × Unit) × Unit)) : Option Bool :=
    (i_isArity K (x.1.1, ())).bind fun y1 =>
    (if y1 = true then
    (i_funcsOf K (x.1.1, ())).bind fun y2 =>
    (i_within K (x.1.2.1, (0 : Int), (IntKind.i64.wrap (y2 - (1 : Int))), ())).bind fun y3 =>
    some y3
    else
    some false)
noncomputable def rv_i_IsFunc : Lv := [(2, (.v .bool))]
noncomputable def sg_i_IsFunc {R : Type} (K : Nat) (k : Nat) : List (Nat × SegS R) := []
noncomputable def su_i_IsFunc : List (Nat × Unit) := []
noncomputable def en_i_IsFunc {R : Type} (K : Nat) (k : Nat) : Env R := { L := lk [], X := lk [], S := lk (sg_i_IsFunc K k), rv := rv_i_IsFunc }
noncomputable def cf_i_IsFunc (K : Nat) : Cfg := { ty := lk tys, fn := lk [(57, sp_i_isArity (i_isArity K)), (58, sp_i_funcsOf (i_funcsOf K)), (79, sp_i_within (i_within K))], prot := 0, nt := Try.f137.ntmps }
theorem e_i_IsFunc (K : Nat) (x : den as_i_IsFunc) : i_IsFunc K x = evFn (cf_i_IsFunc K) as_i_IsFunc [false] .bool (en_i_IsFunc K K) Try.f137.results.toList (bodyOf Try.f137) x := by kernel_rfl
theorem ok_i_IsFunc (K : Nat) : FnOk Try.prog 137 (sp_i_IsFunc (i_IsFunc K)) :=
  fn_ok (cf := cf_i_IsFunc K) (en := en_i_IsFunc K K) (c := bodyOf Try.f137) Try.func137 (by kernel_rfl) (by kernel_rfl) tysOk (fns_ok (l := [(57, sp_i_isArity (i_isArity K)), (58, sp_i_funcsOf (i_funcsOf K)), (79, sp_i_within (i_within K))]) ⟨ok_i_isArity K, ⟨ok_i_funcsOf K, ⟨ok_i_within K, trivial⟩⟩⟩) (by kernel_rfl) rfl (Nat.le_of_ble_eq_true (by kernel_rfl)) (by kernel_rfl) (of_decide_eq_true (by kernel_rfl)) (by decide) (fun C hP O => lpOk_of (en := en_i_IsFunc K K) (S := hasK su_i_IsFunc) (fun i => hasK_lk (sg_i_IsFunc K K) i) _ (by rw [show partsOf (hasK su_i_IsFunc) (bodyOf Try.f137) = [] from by kernel_rfl]; exact trivial)) (fun x y h => by rw [← e_i_IsFunc]; exact h)
noncomputable def as_i_bit : Ty := (.pair (.int .i64) (.pair (.int .i64) .unit))
noncomputable def sp_i_bit (F : (Int × Int × Unit) → Option Int) : FnSpec := ⟨as_i_bit, [false, false], (.int .i64), F⟩
noncomputable def i_bit (K : Nat) (x : (Int × Int × Unit)) : Option Int :=
    (if (decide ((0 : Int) ≤ x.2.1)) = true then
    some (bitI .and .i64 (shrI .i64 x.1 x.2.1) (1 : Int))
    else
    none)
noncomputable def rv_i_bit : Lv := [(4, (.v (.int .i64)))]
noncomputable def sg_i_bit {R : Type} (K : Nat) (k : Nat) : List (Nat × SegS R) := []
noncomputable def su_i_bit : List (Nat × Unit) := []
noncomputable def en_i_bit {R : Type} (K : Nat) (k : Nat) : Env R := { L := lk [], X := lk [], S := lk (sg_i_bit K k), rv := rv_i_bit }
noncomputable def cf_i_bit (K : Nat) : Cfg := { ty := lk tys, fn := lk [], prot := 0, nt := Try.f96.ntmps }
theorem e_i_bit (K : Nat) (x : den as_i_bit) : i_bit K x = evFn (cf_i_bit K) as_i_bit [false, false] (.int .i64) (en_i_bit K K) Try.f96.results.toList (bodyOf Try.f96) x := by kernel_rfl
theorem ok_i_bit (K : Nat) : FnOk Try.prog 96 (sp_i_bit (i_bit K)) :=
  fn_ok (cf := cf_i_bit K) (en := en_i_bit K K) (c := bodyOf Try.f96) Try.func96 (by kernel_rfl) (by kernel_rfl) tysOk (fns_ok (l := []) trivial) (by kernel_rfl) rfl (Nat.le_of_ble_eq_true (by kernel_rfl)) (by kernel_rfl) (of_decide_eq_true (by kernel_rfl)) (by decide) (fun C hP O => lpOk_of (en := en_i_bit K K) (S := hasK su_i_bit) (fun i => hasK_lk (sg_i_bit K K) i) _ (by rw [show partsOf (hasK su_i_bit) (bodyOf Try.f96) = [] from by kernel_rfl]; exact trivial)) (fun x y h => by rw [← e_i_bit]; exact h)
noncomputable def as_i_Func_at : Ty := (.pair (.st (.pair (.int .i64) (.pair (.int .i64) .unit))) (.pair (.int .i64) .unit))
noncomputable def sp_i_Func_at (F : ((Int × Int × Unit) × Int × Unit) → Option Int) : FnSpec := ⟨as_i_Func_at, [false, false], (.int .i64), F⟩
noncomputable def i_Func_at (K : Nat) (x : ((Int × Int × Unit) × Int × Unit)) : Option Int :=
    (i_bit K (x.1.2.1, x.2.1, ())).bind fun y1 =>
    some y1
noncomputable def rv_i_Func_at : Lv := [(4, (.v (.int .i64)))]
noncomputable def sg_i_Func_at {R : Type} (K : Nat) (k : Nat) : List (Nat × SegS R) := []
noncomputable def su_i_Func_at : List (Nat × Unit) := []
noncomputable def en_i_Func_at {R : Type} (K : Nat) (k : Nat) : Env R := { L := lk [], X := lk [], S := lk (sg_i_Func_at K k), rv := rv_i_Func_at }
noncomputable def cf_i_Func_at (K : Nat) : Cfg := { ty := lk tys, fn := lk [(96, sp_i_bit (i_bit K))], prot := 0, nt := Try.f112.ntmps }
theorem e_i_Func_at (K : Nat) (x : den as_i_Func_at) : i_Func_at K x = evFn (cf_i_Func_at K) as_i_Func_at [false, false] (.int .i64) (en_i_Func_at K K) Try.f112.results.toList (bodyOf Try.f112) x := by kernel_rfl
theorem ok_i_Func_at (K : Nat) : FnOk Try.prog 112 (sp_i_Func_at (i_Func_at K)) :=
  fn_ok (cf := cf_i_Func_at K) (en := en_i_Func_at K K) (c := bodyOf Try.f112) Try.func112 (by kernel_rfl) (by kernel_rfl) tysOk (fns_ok (l := [(96, sp_i_bit (i_bit K))]) ⟨ok_i_bit K, trivial⟩) (by kernel_rfl) rfl (Nat.le_of_ble_eq_true (by kernel_rfl)) (by kernel_rfl) (of_decide_eq_true (by kernel_rfl)) (by decide) (fun C hP O => lpOk_of (en := en_i_Func_at K K) (S := hasK su_i_Func_at) (fun i => hasK_lk (sg_i_Func_at K K) i) _ (by rw [show partsOf (hasK su_i_Func_at) (bodyOf Try.f112) = [] from by kernel_rfl]; exact trivial)) (fun x y h => by rw [← e_i_Func_at]; exact h)
noncomputable def as_i_Func_rows : Ty := (.pair (.st (.pair (.int .i64) (.pair (.int .i64) .unit))) .unit)
noncomputable def sp_i_Func_rows (F : ((Int × Int × Unit) × Unit) → Option Int) : FnSpec := ⟨as_i_Func_rows, [false], (.int .i64), F⟩
noncomputable def i_Func_rows (K : Nat) (x : ((Int × Int × Unit) × Unit)) : Option Int :=
    (i_rowsOf K (x.1.1, ())).bind fun y1 =>
    some y1
noncomputable def rv_i_Func_rows : Lv := [(2, (.v (.int .i64)))]
noncomputable def sg_i_Func_rows {R : Type} (K : Nat) (k : Nat) : List (Nat × SegS R) := []
noncomputable def su_i_Func_rows : List (Nat × Unit) := []
noncomputable def en_i_Func_rows {R : Type} (K : Nat) (k : Nat) : Env R := { L := lk [], X := lk [], S := lk (sg_i_Func_rows K k), rv := rv_i_Func_rows }
noncomputable def cf_i_Func_rows (K : Nat) : Cfg := { ty := lk tys, fn := lk [(90, sp_i_rowsOf (i_rowsOf K))], prot := 0, nt := Try.f113.ntmps }
theorem e_i_Func_rows (K : Nat) (x : den as_i_Func_rows) : i_Func_rows K x = evFn (cf_i_Func_rows K) as_i_Func_rows [false] (.int .i64) (en_i_Func_rows K K) Try.f113.results.toList (bodyOf Try.f113) x := by kernel_rfl
theorem ok_i_Func_rows (K : Nat) : FnOk Try.prog 113 (sp_i_Func_rows (i_Func_rows K)) :=
  fn_ok (cf := cf_i_Func_rows K) (en := en_i_Func_rows K K) (c := bodyOf Try.f113) Try.func113 (by kernel_rfl) (by kernel_rfl) tysOk (fns_ok (l := [(90, sp_i_rowsOf (i_rowsOf K))]) ⟨ok_i_rowsOf K, trivial⟩) (by kernel_rfl) rfl (Nat.le_of_ble_eq_true (by kernel_rfl)) (by kernel_rfl) (of_decide_eq_true (by kernel_rfl)) (by decide) (fun C hP O => lpOk_of (en := en_i_Func_rows K K) (S := hasK su_i_Func_rows) (fun i => hasK_lk (sg_i_Func_rows K K) i) _ (by rw [show partsOf (hasK su_i_Func_rows) (bodyOf Try.f113) = [] from by kernel_rfl]; exact trivial)) (fun x y h => by rw [← e_i_Func_rows]; exact h)
noncomputable def as_i_Func_text : Ty := (.pair (.st (.pair (.int .i64) (.pair (.int .i64) .unit))) .unit)
noncomputable def sp_i_Func_text (F : ((Int × Int × Unit) × Unit) → Option ByteArray) : FnSpec := ⟨as_i_Func_text, [false], .str, F⟩
noncomputable def i_Func_text_l3 {R : Type} (K : Nat) : Nat → (Int × Int × Unit) → (List Int) → Int → Int → ((List Int) → Option R) → Option R
  | 0, _, _, _, _, _ => none
  | k + 1, v1, v3, v11, v12, kx0 =>
    (if (decide (v12 < v11)) = true then
    (i_Func_at K (v1, v12, ())).bind fun y3 =>
    let l4 := [(IntKind.u8.wrap ((48 : Int) + (IntKind.u8.wrap y3)))]
    (if (decide (v3.length + l4.length ≤ lim)) = true then
    let l5 := (v3 ++ l4)
    i_Func_text_l3 K k v1 l5 v11 (IntKind.i64.wrap (v12 + (1 : Int))) kx0
    else
    none)
    else
    kx0 v3)
noncomputable def i_Func_text (K : Nat) (x : ((Int × Int × Unit) × Unit)) : Option ByteArray :=
    let l1 := [(IntKind.u8.wrap ((48 : Int) + (IntKind.u8.wrap x.1.1))), (58 : Int)]
    (i_Func_rows K (x.1, ())).bind fun y2 =>
    i_Func_text_l3 K K x.1 l1 y2 (0 : Int) (fun z6 =>
    some (bytesOf z6))
noncomputable def lv_i_Func_text_L3 : Lv := [(1, (.bx (.v (.st (.pair (.int .i64) (.pair (.int .i64) .unit)))))), (3, (.r (.int .u8))), (11, (.v (.int .i64))), (12, (.v (.int .i64)))]
noncomputable def lv_i_Func_text_X0 : Lv := [(3, (.r (.int .u8)))]
noncomputable def rv_i_Func_text : Lv := [(2, (.v .str))]
noncomputable def gi_Func_text_l3 {R : Type} (K : Nat) (k : Nat) (x : den lv_i_Func_text_L3.ty) (kx : Nat → St → Option R) (kr : St → Option R) : Option R := i_Func_text_l3 K k x.1 x.2.1 x.2.2.1 x.2.2.2.1 (fun z0 => kx 0 (mkSt lv_i_Func_text_X0 (z0, ())))
noncomputable def sg_i_Func_text {R : Type} (K : Nat) (k : Nat) : List (Nat × SegS R) := []
noncomputable def su_i_Func_text : List (Nat × Unit) := []
noncomputable def en_i_Func_text {R : Type} (K : Nat) (k : Nat) : Env R := { L := lk [(3, mkLoop lv_i_Func_text_L3 (gi_Func_text_l3 K k))], X := lk [(0, lv_i_Func_text_X0)], S := lk (sg_i_Func_text K k), rv := rv_i_Func_text }
noncomputable def cf_i_Func_text (K : Nat) : Cfg := { ty := lk tys, fn := lk [(112, sp_i_Func_at (i_Func_at K)), (113, sp_i_Func_rows (i_Func_rows K))], prot := 0, nt := Try.f138.ntmps }
noncomputable def c_i_Func_text_L3 : Code := nthC (partsOf (hasK su_i_Func_text) (bodyOf Try.f138)) 0
theorem ei_Func_text_l3 {R : Type} (K : Nat) (k : Nat) (x : den lv_i_Func_text_L3.ty) (kx : Nat → St → Option R) (kr : St → Option R) : gi_Func_text_l3 K (k + 1) x kx kr = evC (cf_i_Func_text K) (en_i_Func_text K k) c_i_Func_text_L3 (mkSt lv_i_Func_text_L3 x) (fun s => mkLoop lv_i_Func_text_L3 (gi_Func_text_l3 K k) s kx kr) kx kr := by kernel_rfl
theorem si_Func_text_l3 {R : Type} (K : Nat) (C : Cx) (hP : C.P = Try.prog) (O : CfgOk C (cf_i_Func_text K)) (k : Nat) : LpS C (R := R) (mkLoop lv_i_Func_text_L3 (gi_Func_text_l3 K k)) c_i_Func_text_L3 :=
  loop_sound O (by rw [hP]; kernel_rfl) (fun x kx kr => rfl) (ei_Func_text_l3 K) (fun k => lpOk_of (en := en_i_Func_text K k) (S := hasK su_i_Func_text) (fun i => hasK_lk (sg_i_Func_text K k) i) _ (by rw [show partsOf (hasK su_i_Func_text) c_i_Func_text_L3 = [] from by kernel_rfl]; exact trivial)) k
theorem e_i_Func_text (K : Nat) (x : den as_i_Func_text) : i_Func_text K x = evFn (cf_i_Func_text K) as_i_Func_text [false] .str (en_i_Func_text K K) Try.f138.results.toList (bodyOf Try.f138) x := by kernel_rfl
theorem ok_i_Func_text (K : Nat) : FnOk Try.prog 138 (sp_i_Func_text (i_Func_text K)) :=
  fn_ok (cf := cf_i_Func_text K) (en := en_i_Func_text K K) (c := bodyOf Try.f138) Try.func138 (by kernel_rfl) (by kernel_rfl) tysOk (fns_ok (l := [(112, sp_i_Func_at (i_Func_at K)), (113, sp_i_Func_rows (i_Func_rows K))]) ⟨ok_i_Func_at K, ⟨ok_i_Func_rows K, trivial⟩⟩) (by kernel_rfl) rfl (Nat.le_of_ble_eq_true (by kernel_rfl)) (by kernel_rfl) (of_decide_eq_true (by kernel_rfl)) (by decide) (fun C hP O => lpOk_of (en := en_i_Func_text K K) (S := hasK su_i_Func_text) (fun i => hasK_lk (sg_i_Func_text K K) i) _ (by rw [show partsOf (hasK su_i_Func_text) (bodyOf Try.f138) = [(true, c_i_Func_text_L3)] from by kernel_rfl]; exact (lpL_loop (f := mkLoop lv_i_Func_text_L3 (gi_Func_text_l3 K K)) (by kernel_rfl) (si_Func_text_l3 K C hP O K) trivial))) (fun x y h => by rw [← e_i_Func_text]; exact h)
noncomputable def as_i_readFunc : Ty := (.pair .str .unit)
noncomputable def sp_i_readFunc (F : (ByteArray × Unit) → Option ((Int × Int × Unit) × Bool × Unit)) : FnSpec := ⟨as_i_readFunc, [false], (.tup (.pair (.st (.pair (.int .i64) (.pair (.int .i64) .unit))) (.pair .bool .unit))), F⟩
noncomputable def i_readFunc_l6 {R : Type} (K : Nat) : Nat → ByteArray → (Int × Int × Unit) → ByteArray → (Int × Int × Unit) → Int → Int → (ByteArray → (Int × Int × Unit) → (Int × Int × Unit) → Option R) → Option R
  | 0, _, _, _, _, _, _, _ => none
  | k + 1, v0, v2, v5, v7, v31, v32, kx0 =>
    (if (decide (v32 < v31)) = true then
    (if (bnds v32 (v5.size : Int)) = true then
    (if (decide ((byteAt v5 v32) = (49 : Int))) = true then
    (if (decide ((0 : Int) ≤ v32)) = true then
    i_readFunc_l6 K k v0 v2 v5 (v7.1, (bitI .or .i64 v7.2.1 (shlI .i64 (1 : Int) v32)), ()) v31 (IntKind.i64.wrap (v32 + (1 : Int))) kx0
    else
    none)
    else
    i_readFunc_l6 K k v0 v2 v5 v7 v31 (IntKind.i64.wrap (v32 + (1 : Int))) kx0)
    else
    none)
    else
    kx0 v0 v2 v7)
noncomputable def i_readFunc_j4 {R : Type} (K : Nat) (k : Nat) (v0 : ByteArray) (v2 : (Int × Int × Unit)) (v4 : ByteArray) (v5 : ByteArray) (kn : Option R) (kr : ((Int × Int × Unit) → Bool → Option R)) : Option R :=
    (if (bnds (0 : Int) (v4.size : Int)) = true then
    let x3 := (IntKind.i64.wrap ((IntKind.i64.wrap (byteAt v4 (0 : Int))) - (48 : Int)))
    i_readFunc_l6 K k v0 v2 v5 (x3, ((0 : Int), (0 : Int), ()).2.1, ()) (v5.size : Int) (0 : Int) (fun z4 z5 z6 =>
    (i_IsFunc K (z6, ())).bind fun y7 =>
    (if (!y7) = true then
    kr ((0 : Int), (0 : Int), ()) false
    else
    (i_Func_text K (z6, ())).bind fun y8 =>
    (if (cmpS .neq y8 z4) = true then
    kr ((0 : Int), (0 : Int), ()) false
    else
    kr z6 true)))
    else
    none)
noncomputable def i_readFunc (K : Nat) (x : (ByteArray × Unit)) : Option ((Int × Int × Unit) × Bool × Unit) :=
    (strings_Cut K (x.1, (⟨#[58]⟩ : ByteArray), ())).bind fun y1 =>
    (if (!decide ((y1.1.size : Int) = (1 : Int))) = true then
    some (((0 : Int), (0 : Int), ()), false, ())
    else
    (i_rowsOf K ((4 : Int), ())).bind fun y2 =>
    (if (decide ((y1.2.1.size : Int) > y2)) = true then
    some (((0 : Int), (0 : Int), ()), false, ())
    else
    i_readFunc_j4 K K x.1 ((0 : Int), (0 : Int), ()) y1.1 y1.2.1 none (fun z9 z10 =>
    some (z9, z10, ()))))
noncomputable def lv_i_readFunc_J4 : Lv := [(0, (.v .str)), (2, (.bx (.v (.st (.pair (.int .i64) (.pair (.int .i64) .unit)))))), (4, (.v .str)), (5, (.v .str))]
noncomputable def lv_i_readFunc_L6 : Lv := [(0, (.v .str)), (2, (.bx (.v (.st (.pair (.int .i64) (.pair (.int .i64) .unit)))))), (5, (.v .str)), (7, (.bx (.v (.st (.pair (.int .i64) (.pair (.int .i64) .unit)))))), (31, (.v (.int .i64))), (32, (.v (.int .i64)))]
noncomputable def lv_i_readFunc_N4 : Lv := []
noncomputable def lv_i_readFunc_X0 : Lv := [(0, (.v .str)), (2, (.bx (.v (.st (.pair (.int .i64) (.pair (.int .i64) .unit)))))), (7, (.bx (.v (.st (.pair (.int .i64) (.pair (.int .i64) .unit))))))]
noncomputable def rv_i_readFunc : Lv := [(2, (.bx (.v (.st (.pair (.int .i64) (.pair (.int .i64) .unit)))))), (3, (.v .bool))]
noncomputable def gi_readFunc_l6 {R : Type} (K : Nat) (k : Nat) (x : den lv_i_readFunc_L6.ty) (kx : Nat → St → Option R) (kr : St → Option R) : Option R := i_readFunc_l6 K k x.1 x.2.1 x.2.2.1 x.2.2.2.1 x.2.2.2.2.1 x.2.2.2.2.2.1 (fun z0 z1 z2 => kx 0 (mkSt lv_i_readFunc_X0 (z0, z1, z2, ())))
noncomputable def gi_readFunc_j4 {R : Type} (K : Nat) (k : Nat) (x : den lv_i_readFunc_J4.ty) (kn : den lv_i_readFunc_N4.ty → Option R) (kx : Nat → St → Option R) (kr : St → Option R) : Option R := i_readFunc_j4 K k x.1 x.2.1 x.2.2.1 x.2.2.2.1 (kn ()) (fun z0 z1 => kr (mkSt rv_i_readFunc (z0, z1, ())))
noncomputable def sg_i_readFunc {R : Type} (K : Nat) (k : Nat) : List (Nat × SegS R) := [(4, mkSeg lv_i_readFunc_J4 lv_i_readFunc_N4 (gi_readFunc_j4 K k))]
noncomputable def su_i_readFunc : List (Nat × Unit) := [(4, ())]
noncomputable def en_i_readFunc {R : Type} (K : Nat) (k : Nat) : Env R := { L := lk [(6, mkLoop lv_i_readFunc_L6 (gi_readFunc_l6 K k))], X := lk [(0, lv_i_readFunc_X0)], S := lk (sg_i_readFunc K k), rv := rv_i_readFunc }
noncomputable def cf_i_readFunc (K : Nat) : Cfg := { ty := lk tys, fn := lk [(90, sp_i_rowsOf (i_rowsOf K)), (136, sp_strings_Cut (strings_Cut K)), (137, sp_i_IsFunc (i_IsFunc K)), (138, sp_i_Func_text (i_Func_text K))], prot := 0, nt := Try.f120.ntmps }
noncomputable def c_i_readFunc_J4 : Code := nthC (partsOf (hasK su_i_readFunc) (bodyOf Try.f120)) 0
noncomputable def c_i_readFunc_L6 : Code := nthC (partsOf (hasK su_i_readFunc) c_i_readFunc_J4) 0
theorem ei_readFunc_l6 {R : Type} (K : Nat) (k : Nat) (x : den lv_i_readFunc_L6.ty) (kx : Nat → St → Option R) (kr : St → Option R) : gi_readFunc_l6 K (k + 1) x kx kr = evC (cf_i_readFunc K) (en_i_readFunc K k) c_i_readFunc_L6 (mkSt lv_i_readFunc_L6 x) (fun s => mkLoop lv_i_readFunc_L6 (gi_readFunc_l6 K k) s kx kr) kx kr := by kernel_rfl
theorem si_readFunc_l6 {R : Type} (K : Nat) (C : Cx) (hP : C.P = Try.prog) (O : CfgOk C (cf_i_readFunc K)) (k : Nat) : LpS C (R := R) (mkLoop lv_i_readFunc_L6 (gi_readFunc_l6 K k)) c_i_readFunc_L6 :=
  loop_sound O (by rw [hP]; kernel_rfl) (fun x kx kr => rfl) (ei_readFunc_l6 K) (fun k => lpOk_of (en := en_i_readFunc K k) (S := hasK su_i_readFunc) (fun i => hasK_lk (sg_i_readFunc K k) i) _ (by rw [show partsOf (hasK su_i_readFunc) c_i_readFunc_L6 = [] from by kernel_rfl]; exact trivial)) k
theorem ei_readFunc_j4 {R : Type} (K : Nat) (k : Nat) (x : den lv_i_readFunc_J4.ty) (kn : den lv_i_readFunc_N4.ty → Option R) (kx : Nat → St → Option R) (kr : St → Option R) : gi_readFunc_j4 K k x kn kx kr = evC (cf_i_readFunc K) (en_i_readFunc K k) c_i_readFunc_J4 (mkSt lv_i_readFunc_J4 x) (cutK lv_i_readFunc_N4 kn) kx kr := by kernel_rfl
theorem si_readFunc_j4 {R : Type} (K : Nat) (C : Cx) (hP : C.P = Try.prog) (O : CfgOk C (cf_i_readFunc K)) (k : Nat) : SgS C (R := R) (mkSeg lv_i_readFunc_J4 lv_i_readFunc_N4 (gi_readFunc_j4 K k)) c_i_readFunc_J4 :=
  seg_sound O (by rw [hP]; kernel_rfl) (ei_readFunc_j4 K k) (lpOk_of (en := en_i_readFunc K k) (S := hasK su_i_readFunc) (fun i => hasK_lk (sg_i_readFunc K k) i) _ (by rw [show partsOf (hasK su_i_readFunc) c_i_readFunc_J4 = [(true, c_i_readFunc_L6)] from by kernel_rfl]; exact (lpL_loop (f := mkLoop lv_i_readFunc_L6 (gi_readFunc_l6 K k)) (by kernel_rfl) (si_readFunc_l6 K C hP O k) trivial)))
theorem e_i_readFunc (K : Nat) (x : den as_i_readFunc) : i_readFunc K x = evFn (cf_i_readFunc K) as_i_readFunc [false] (.tup (.pair (.st (.pair (.int .i64) (.pair (.int .i64) .unit))) (.pair .bool .unit))) (en_i_readFunc K K) Try.f120.results.toList (bodyOf Try.f120) x := by kernel_rfl
theorem ok_i_readFunc (K : Nat) : FnOk Try.prog 120 (sp_i_readFunc (i_readFunc K)) :=
  fn_ok (cf := cf_i_readFunc K) (en := en_i_readFunc K K) (c := bodyOf Try.f120) Try.func120 (by kernel_rfl) (by kernel_rfl) tysOk (fns_ok (l := [(90, sp_i_rowsOf (i_rowsOf K)), (136, sp_strings_Cut (strings_Cut K)), (137, sp_i_IsFunc (i_IsFunc K)), (138, sp_i_Func_text (i_Func_text K))]) ⟨ok_i_rowsOf K, ⟨ok_strings_Cut K, ⟨ok_i_IsFunc K, ⟨ok_i_Func_text K, trivial⟩⟩⟩⟩) (by kernel_rfl) rfl (Nat.le_of_ble_eq_true (by kernel_rfl)) (by kernel_rfl) (of_decide_eq_true (by kernel_rfl)) (by decide) (fun C hP O => lpOk_of (en := en_i_readFunc K K) (S := hasK su_i_readFunc) (fun i => hasK_lk (sg_i_readFunc K K) i) _ (by rw [show partsOf (hasK su_i_readFunc) (bodyOf Try.f120) = [(false, c_i_readFunc_J4)] from by kernel_rfl]; exact (lpL_seg (f := mkSeg lv_i_readFunc_J4 lv_i_readFunc_N4 (gi_readFunc_j4 K K)) (by kernel_rfl) (si_readFunc_j4 K C hP O K) trivial))) (fun x y h => by rw [← e_i_readFunc]; exact h)
noncomputable def as_i_namedFunc : Ty := (.pair .str .unit)
noncomputable def sp_i_namedFunc (F : (ByteArray × Unit) → Option ((Int × Int × Unit) × Bool × Unit)) : FnSpec := ⟨as_i_namedFunc, [false], (.tup (.pair (.st (.pair (.int .i64) (.pair (.int .i64) .unit))) (.pair .bool .unit))), F⟩
noncomputable def i_namedFunc_l2 {R : Type} (K : Nat) : Nat → ByteArray → (Int × Int × Unit) → (List (ByteArray × ByteArray × Unit)) → Int → Int → ((Int × Int × Unit) → Option R) → ((Int × Int × Unit) → Bool → Option R) → Option R
  | 0, _, _, _, _, _, _, _ => none
  | k + 1, v0, v2, v6, v7, v8, kx0, kr =>
    (if (decide (v8 < v7)) = true then
    (if (bnds v8 (v6.length : Int)) = true then
    let x2 := (cmpS .eql ((v6.getD v8.toNat (ByteArray.empty, ByteArray.empty, ())).1) v0)
    (if x2 = true then
    let x3 := (v6.getD v8.toNat (ByteArray.empty, ByteArray.empty, ())).2.1
    (i_readFunc K (x3, ())).bind fun y4 =>
    kr y4.1 y4.2.1
    else
    i_namedFunc_l2 K k v0 v2 v6 v7 (IntKind.i64.wrap (v8 + (1 : Int))) kx0 kr)
    else
    none)
    else
    kx0 v2)
noncomputable def i_namedFunc (K : Nat) (x : (ByteArray × Unit)) : Option ((Int × Int × Unit) × Bool × Unit) :=
    (i_names K ()).bind fun y1 =>
    i_namedFunc_l2 K K x.1 ((0 : Int), (0 : Int), ()) y1 (y1.length : Int) (0 : Int) (fun z5 =>
    some (((0 : Int), (0 : Int), ()), false, ())) (fun z6 z7 =>
    some (z6, z7, ()))
noncomputable def lv_i_namedFunc_L2 : Lv := [(0, (.v .str)), (2, (.bx (.v (.st (.pair (.int .i64) (.pair (.int .i64) .unit)))))), (6, (.r (.st (.pair .str (.pair .str .unit))))), (7, (.v (.int .i64))), (8, (.v (.int .i64)))]
noncomputable def lv_i_namedFunc_X0 : Lv := [(2, (.bx (.v (.st (.pair (.int .i64) (.pair (.int .i64) .unit))))))]
noncomputable def rv_i_namedFunc : Lv := [(2, (.bx (.v (.st (.pair (.int .i64) (.pair (.int .i64) .unit)))))), (3, (.v .bool))]
noncomputable def gi_namedFunc_l2 {R : Type} (K : Nat) (k : Nat) (x : den lv_i_namedFunc_L2.ty) (kx : Nat → St → Option R) (kr : St → Option R) : Option R := i_namedFunc_l2 K k x.1 x.2.1 x.2.2.1 x.2.2.2.1 x.2.2.2.2.1 (fun z0 => kx 0 (mkSt lv_i_namedFunc_X0 (z0, ()))) (fun z0 z1 => kr (mkSt rv_i_namedFunc (z0, z1, ())))
noncomputable def sg_i_namedFunc {R : Type} (K : Nat) (k : Nat) : List (Nat × SegS R) := []
noncomputable def su_i_namedFunc : List (Nat × Unit) := []
noncomputable def en_i_namedFunc {R : Type} (K : Nat) (k : Nat) : Env R := { L := lk [(2, mkLoop lv_i_namedFunc_L2 (gi_namedFunc_l2 K k))], X := lk [(0, lv_i_namedFunc_X0)], S := lk (sg_i_namedFunc K k), rv := rv_i_namedFunc }
noncomputable def cf_i_namedFunc (K : Nat) : Cfg := { ty := lk tys, fn := lk [(119, sp_i_names (i_names K)), (120, sp_i_readFunc (i_readFunc K))], prot := 0, nt := Try.f69.ntmps }
noncomputable def c_i_namedFunc_L2 : Code := nthC (partsOf (hasK su_i_namedFunc) (bodyOf Try.f69)) 0
theorem ei_namedFunc_l2 {R : Type} (K : Nat) (k : Nat) (x : den lv_i_namedFunc_L2.ty) (kx : Nat → St → Option R) (kr : St → Option R) : gi_namedFunc_l2 K (k + 1) x kx kr = evC (cf_i_namedFunc K) (en_i_namedFunc K k) c_i_namedFunc_L2 (mkSt lv_i_namedFunc_L2 x) (fun s => mkLoop lv_i_namedFunc_L2 (gi_namedFunc_l2 K k) s kx kr) kx kr := by kernel_rfl
theorem si_namedFunc_l2 {R : Type} (K : Nat) (C : Cx) (hP : C.P = Try.prog) (O : CfgOk C (cf_i_namedFunc K)) (k : Nat) : LpS C (R := R) (mkLoop lv_i_namedFunc_L2 (gi_namedFunc_l2 K k)) c_i_namedFunc_L2 :=
  loop_sound O (by rw [hP]; kernel_rfl) (fun x kx kr => rfl) (ei_namedFunc_l2 K) (fun k => lpOk_of (en := en_i_namedFunc K k) (S := hasK su_i_namedFunc) (fun i => hasK_lk (sg_i_namedFunc K k) i) _ (by rw [show partsOf (hasK su_i_namedFunc) c_i_namedFunc_L2 = [] from by kernel_rfl]; exact trivial)) k
theorem e_i_namedFunc (K : Nat) (x : den as_i_namedFunc) : i_namedFunc K x = evFn (cf_i_namedFunc K) as_i_namedFunc [false] (.tup (.pair (.st (.pair (.int .i64) (.pair (.int .i64) .unit))) (.pair .bool .unit))) (en_i_namedFunc K K) Try.f69.results.toList (bodyOf Try.f69) x := by kernel_rfl
theorem ok_i_namedFunc (K : Nat) : FnOk Try.prog 69 (sp_i_namedFunc (i_namedFunc K)) :=
  fn_ok (cf := cf_i_namedFunc K) (en := en_i_namedFunc K K) (c := bodyOf Try.f69) Try.func69 (by kernel_rfl) (by kernel_rfl) tysOk (fns_ok (l := [(119, sp_i_names (i_names K)), (120, sp_i_readFunc (i_readFunc K))]) ⟨ok_i_names K, ⟨ok_i_readFunc K, trivial⟩⟩) (by kernel_rfl) rfl (Nat.le_of_ble_eq_true (by kernel_rfl)) (by kernel_rfl) (of_decide_eq_true (by kernel_rfl)) (by decide) (fun C hP O => lpOk_of (en := en_i_namedFunc K K) (S := hasK su_i_namedFunc) (fun i => hasK_lk (sg_i_namedFunc K K) i) _ (by rw [show partsOf (hasK su_i_namedFunc) (bodyOf Try.f69) = [(true, c_i_namedFunc_L2)] from by kernel_rfl]; exact (lpL_loop (f := mkLoop lv_i_namedFunc_L2 (gi_namedFunc_l2 K K)) (by kernel_rfl) (si_namedFunc_l2 K C hP O K) trivial))) (fun x y h => by rw [← e_i_namedFunc]; exact h)
noncomputable def as_i_NewDesk : Ty := .unit
noncomputable def sp_i_NewDesk (F : Unit → Option ((Int × Int × Unit) × (List (Int × Int × Unit)) × (Int × Int × Unit) × Unit)) : FnSpec := ⟨as_i_NewDesk, [], (.st (.pair (.st (.pair (.int .i64) (.pair (.int .i64) .unit))) (.pair (.sl (.st (.pair (.int .i64) (.pair (.int .i64) .unit)))) (.pair (.st (.pair (.int .i64) (.pair (.int .i64) .unit))) .unit)))), F⟩
noncomputable def i_NewDesk (K : Nat) (x : Unit) : Option ((Int × Int × Unit) × (List (Int × Int × Unit)) × (Int × Int × Unit) × Unit) :=
    (i_namedFunc K ((⟨#[97, 110, 100]⟩ : ByteArray), ())).bind fun y1 =>
    let x2 := (((2 : Int), ((0 : Int), (0 : Int), ()).2.1, ()).1, (13 : Int), ())
    some (y1.1, ([] : List (Int × Int × Unit)), x2, ())
noncomputable def rv_i_NewDesk : Lv := [(0, (.bx (.st (.pair (.v (.st (.pair (.int .i64) (.pair (.int .i64) .unit)))) (.pair (.r (.st (.pair (.int .i64) (.pair (.int .i64) .unit)))) (.pair (.v (.st (.pair (.int .i64) (.pair (.int .i64) .unit)))) .unit))))))]
noncomputable def sg_i_NewDesk {R : Type} (K : Nat) (k : Nat) : List (Nat × SegS R) := []
noncomputable def su_i_NewDesk : List (Nat × Unit) := []
noncomputable def en_i_NewDesk {R : Type} (K : Nat) (k : Nat) : Env R := { L := lk [], X := lk [], S := lk (sg_i_NewDesk K k), rv := rv_i_NewDesk }
noncomputable def cf_i_NewDesk (K : Nat) : Cfg := { ty := lk tys, fn := lk [(69, sp_i_namedFunc (i_namedFunc K))], prot := 0, nt := Try.f26.ntmps }
theorem e_i_NewDesk (K : Nat) (x : den as_i_NewDesk) : i_NewDesk K x = evFn (cf_i_NewDesk K) as_i_NewDesk [] (.st (.pair (.st (.pair (.int .i64) (.pair (.int .i64) .unit))) (.pair (.sl (.st (.pair (.int .i64) (.pair (.int .i64) .unit)))) (.pair (.st (.pair (.int .i64) (.pair (.int .i64) .unit))) .unit)))) (en_i_NewDesk K K) Try.f26.results.toList (bodyOf Try.f26) x := by kernel_rfl
theorem ok_i_NewDesk (K : Nat) : FnOk Try.prog 26 (sp_i_NewDesk (i_NewDesk K)) :=
  fn_ok (cf := cf_i_NewDesk K) (en := en_i_NewDesk K K) (c := bodyOf Try.f26) Try.func26 (by kernel_rfl) (by kernel_rfl) tysOk (fns_ok (l := [(69, sp_i_namedFunc (i_namedFunc K))]) ⟨ok_i_namedFunc K, trivial⟩) (by kernel_rfl) rfl (Nat.le_of_ble_eq_true (by kernel_rfl)) (by kernel_rfl) (of_decide_eq_true (by kernel_rfl)) (by decide) (fun C hP O => lpOk_of (en := en_i_NewDesk K K) (S := hasK su_i_NewDesk) (fun i => hasK_lk (sg_i_NewDesk K K) i) _ (by rw [show partsOf (hasK su_i_NewDesk) (bodyOf Try.f26) = [] from by kernel_rfl]; exact trivial)) (fun x y h => by rw [← e_i_NewDesk]; exact h)
noncomputable def as_w_eqFunc : Ty := (.pair (.st (.pair (.int .i64) (.pair (.int .i64) .unit))) (.pair (.st (.pair (.int .i64) (.pair (.int .i64) .unit))) .unit))
noncomputable def sp_w_eqFunc (F : ((Int × Int × Unit) × (Int × Int × Unit) × Unit) → Option Bool) : FnSpec := ⟨as_w_eqFunc, [false, false], .bool, F⟩
noncomputable def w_eqFunc (K : Nat) (x : ((Int × Int × Unit) × (Int × Int × Unit) × Unit)) : Option Bool :=
    (if (!decide (x.1.1 = x.2.1.1)) = true then
    some false
    else
    (if (!decide (x.1.2.1 = x.2.1.2.1)) = true then
    some false
    else
    some true))
noncomputable def rv_w_eqFunc : Lv := [(4, (.v .bool))]
noncomputable def sg_w_eqFunc {R : Type} (K : Nat) (k : Nat) : List (Nat × SegS R) := []
noncomputable def su_w_eqFunc : List (Nat × Unit) := []
noncomputable def en_w_eqFunc {R : Type} (K : Nat) (k : Nat) : Env R := { L := lk [], X := lk [], S := lk (sg_w_eqFunc K k), rv := rv_w_eqFunc }
noncomputable def cf_w_eqFunc (K : Nat) : Cfg := { ty := lk tys, fn := lk [], prot := 0, nt := Try.f70.ntmps }
theorem e_w_eqFunc (K : Nat) (x : den as_w_eqFunc) : w_eqFunc K x = evFn (cf_w_eqFunc K) as_w_eqFunc [false, false] .bool (en_w_eqFunc K K) Try.f70.results.toList (bodyOf Try.f70) x := by kernel_rfl
theorem ok_w_eqFunc (K : Nat) : FnOk Try.prog 70 (sp_w_eqFunc (w_eqFunc K)) :=
  fn_ok (cf := cf_w_eqFunc K) (en := en_w_eqFunc K K) (c := bodyOf Try.f70) Try.func70 (by kernel_rfl) (by kernel_rfl) tysOk (fns_ok (l := []) trivial) (by kernel_rfl) rfl (Nat.le_of_ble_eq_true (by kernel_rfl)) (by kernel_rfl) (of_decide_eq_true (by kernel_rfl)) (by decide) (fun C hP O => lpOk_of (en := en_w_eqFunc K K) (S := hasK su_w_eqFunc) (fun i => hasK_lk (sg_w_eqFunc K K) i) _ (by rw [show partsOf (hasK su_w_eqFunc) (bodyOf Try.f70) = [] from by kernel_rfl]; exact trivial)) (fun x y h => by rw [← e_w_eqFunc]; exact h)
noncomputable def as_w_eqFuncS : Ty := (.pair (.sl (.st (.pair (.int .i64) (.pair (.int .i64) .unit)))) (.pair (.sl (.st (.pair (.int .i64) (.pair (.int .i64) .unit)))) .unit))
noncomputable def sp_w_eqFuncS (F : ((List (Int × Int × Unit)) × (List (Int × Int × Unit)) × Unit) → Option Bool) : FnSpec := ⟨as_w_eqFuncS, [false, false], .bool, F⟩
noncomputable def w_eqFuncS_l4 {R : Type} (K : Nat) : Nat → (List (Int × Int × Unit)) → (List (Int × Int × Unit)) → Int → (Option R) → (Bool → Option R) → Option R
  | 0, _, _, _, _, _ => none
  | k + 1, v0, v1, v5, kx0, kr =>
    (if (decide (v5 < (v0.length : Int))) = true then
    (if (bnds v5 (v0.length : Int)) = true then
    (if (bnds v5 (v1.length : Int)) = true then
    (w_eqFunc K ((v0.getD v5.toNat ((0 : Int), (0 : Int), ())), (v1.getD v5.toNat ((0 : Int), (0 : Int), ())), ())).bind fun y1 =>
    (if (!y1) = true then
    kr false
    else
    w_eqFuncS_l4 K k v0 v1 (IntKind.i64.wrap (v5 + (1 : Int))) kx0 kr)
    else
    none)
    else
    none)
    else
    kx0)
noncomputable def w_eqFuncS (K : Nat) (x : ((List (Int × Int × Unit)) × (List (Int × Int × Unit)) × Unit)) : Option Bool :=
    (if (!decide ((x.1.length : Int) = (x.2.1.length : Int))) = true then
    some false
    else
    w_eqFuncS_l4 K K x.1 x.2.1 (0 : Int) (some true) (fun z2 =>
    some z2))
noncomputable def lv_w_eqFuncS_L4 : Lv := [(0, (.v (.sl (.st (.pair (.int .i64) (.pair (.int .i64) .unit)))))), (1, (.v (.sl (.st (.pair (.int .i64) (.pair (.int .i64) .unit)))))), (5, (.v (.int .i64)))]
noncomputable def lv_w_eqFuncS_X0 : Lv := []
noncomputable def rv_w_eqFuncS : Lv := [(4, (.v .bool))]
noncomputable def gw_eqFuncS_l4 {R : Type} (K : Nat) (k : Nat) (x : den lv_w_eqFuncS_L4.ty) (kx : Nat → St → Option R) (kr : St → Option R) : Option R := w_eqFuncS_l4 K k x.1 x.2.1 x.2.2.1 (kx 0 (mkSt lv_w_eqFuncS_X0 ())) (fun z0 => kr (mkSt rv_w_eqFuncS (z0, ())))
noncomputable def sg_w_eqFuncS {R : Type} (K : Nat) (k : Nat) : List (Nat × SegS R) := []
noncomputable def su_w_eqFuncS : List (Nat × Unit) := []
noncomputable def en_w_eqFuncS {R : Type} (K : Nat) (k : Nat) : Env R := { L := lk [(4, mkLoop lv_w_eqFuncS_L4 (gw_eqFuncS_l4 K k))], X := lk [(0, lv_w_eqFuncS_X0)], S := lk (sg_w_eqFuncS K k), rv := rv_w_eqFuncS }
noncomputable def cf_w_eqFuncS (K : Nat) : Cfg := { ty := lk tys, fn := lk [(70, sp_w_eqFunc (w_eqFunc K))], prot := 0, nt := Try.f71.ntmps }
noncomputable def c_w_eqFuncS_L4 : Code := nthC (partsOf (hasK su_w_eqFuncS) (bodyOf Try.f71)) 0
theorem ew_eqFuncS_l4 {R : Type} (K : Nat) (k : Nat) (x : den lv_w_eqFuncS_L4.ty) (kx : Nat → St → Option R) (kr : St → Option R) : gw_eqFuncS_l4 K (k + 1) x kx kr = evC (cf_w_eqFuncS K) (en_w_eqFuncS K k) c_w_eqFuncS_L4 (mkSt lv_w_eqFuncS_L4 x) (fun s => mkLoop lv_w_eqFuncS_L4 (gw_eqFuncS_l4 K k) s kx kr) kx kr := by kernel_rfl
theorem sw_eqFuncS_l4 {R : Type} (K : Nat) (C : Cx) (hP : C.P = Try.prog) (O : CfgOk C (cf_w_eqFuncS K)) (k : Nat) : LpS C (R := R) (mkLoop lv_w_eqFuncS_L4 (gw_eqFuncS_l4 K k)) c_w_eqFuncS_L4 :=
  loop_sound O (by rw [hP]; kernel_rfl) (fun x kx kr => rfl) (ew_eqFuncS_l4 K) (fun k => lpOk_of (en := en_w_eqFuncS K k) (S := hasK su_w_eqFuncS) (fun i => hasK_lk (sg_w_eqFuncS K k) i) _ (by rw [show partsOf (hasK su_w_eqFuncS) c_w_eqFuncS_L4 = [] from by kernel_rfl]; exact trivial)) k
theorem e_w_eqFuncS (K : Nat) (x : den as_w_eqFuncS) : w_eqFuncS K x = evFn (cf_w_eqFuncS K) as_w_eqFuncS [false, false] .bool (en_w_eqFuncS K K) Try.f71.results.toList (bodyOf Try.f71) x := by kernel_rfl
theorem ok_w_eqFuncS (K : Nat) : FnOk Try.prog 71 (sp_w_eqFuncS (w_eqFuncS K)) :=
  fn_ok (cf := cf_w_eqFuncS K) (en := en_w_eqFuncS K K) (c := bodyOf Try.f71) Try.func71 (by kernel_rfl) (by kernel_rfl) tysOk (fns_ok (l := [(70, sp_w_eqFunc (w_eqFunc K))]) ⟨ok_w_eqFunc K, trivial⟩) (by kernel_rfl) rfl (Nat.le_of_ble_eq_true (by kernel_rfl)) (by kernel_rfl) (of_decide_eq_true (by kernel_rfl)) (by decide) (fun C hP O => lpOk_of (en := en_w_eqFuncS K K) (S := hasK su_w_eqFuncS) (fun i => hasK_lk (sg_w_eqFuncS K K) i) _ (by rw [show partsOf (hasK su_w_eqFuncS) (bodyOf Try.f71) = [(true, c_w_eqFuncS_L4)] from by kernel_rfl]; exact (lpL_loop (f := mkLoop lv_w_eqFuncS_L4 (gw_eqFuncS_l4 K K)) (by kernel_rfl) (sw_eqFuncS_l4 K C hP O K) trivial))) (fun x y h => by rw [← e_w_eqFuncS]; exact h)
noncomputable def as_w_eqRelation : Ty := (.pair (.st (.pair (.int .i64) (.pair (.int .i64) .unit))) (.pair (.st (.pair (.int .i64) (.pair (.int .i64) .unit))) .unit))
noncomputable def sp_w_eqRelation (F : ((Int × Int × Unit) × (Int × Int × Unit) × Unit) → Option Bool) : FnSpec := ⟨as_w_eqRelation, [false, false], .bool, F⟩
noncomputable def w_eqRelation (K : Nat) (x : ((Int × Int × Unit) × (Int × Int × Unit) × Unit)) : Option Bool :=
    (if (!decide (x.1.1 = x.2.1.1)) = true then
    some false
    else
    (if (!decide (x.1.2.1 = x.2.1.2.1)) = true then
    some false
    else
    some true))
noncomputable def rv_w_eqRelation : Lv := [(4, (.v .bool))]
noncomputable def sg_w_eqRelation {R : Type} (K : Nat) (k : Nat) : List (Nat × SegS R) := []
noncomputable def su_w_eqRelation : List (Nat × Unit) := []
noncomputable def en_w_eqRelation {R : Type} (K : Nat) (k : Nat) : Env R := { L := lk [], X := lk [], S := lk (sg_w_eqRelation K k), rv := rv_w_eqRelation }
noncomputable def cf_w_eqRelation (K : Nat) : Cfg := { ty := lk tys, fn := lk [], prot := 0, nt := Try.f72.ntmps }
theorem e_w_eqRelation (K : Nat) (x : den as_w_eqRelation) : w_eqRelation K x = evFn (cf_w_eqRelation K) as_w_eqRelation [false, false] .bool (en_w_eqRelation K K) Try.f72.results.toList (bodyOf Try.f72) x := by kernel_rfl
theorem ok_w_eqRelation (K : Nat) : FnOk Try.prog 72 (sp_w_eqRelation (w_eqRelation K)) :=
  fn_ok (cf := cf_w_eqRelation K) (en := en_w_eqRelation K K) (c := bodyOf Try.f72) Try.func72 (by kernel_rfl) (by kernel_rfl) tysOk (fns_ok (l := []) trivial) (by kernel_rfl) rfl (Nat.le_of_ble_eq_true (by kernel_rfl)) (by kernel_rfl) (of_decide_eq_true (by kernel_rfl)) (by decide) (fun C hP O => lpOk_of (en := en_w_eqRelation K K) (S := hasK su_w_eqRelation) (fun i => hasK_lk (sg_w_eqRelation K K) i) _ (by rw [show partsOf (hasK su_w_eqRelation) (bodyOf Try.f72) = [] from by kernel_rfl]; exact trivial)) (fun x y h => by rw [← e_w_eqRelation]; exact h)
noncomputable def as_w_eqDesk : Ty := (.pair (.st (.pair (.st (.pair (.int .i64) (.pair (.int .i64) .unit))) (.pair (.sl (.st (.pair (.int .i64) (.pair (.int .i64) .unit)))) (.pair (.st (.pair (.int .i64) (.pair (.int .i64) .unit))) .unit)))) (.pair (.st (.pair (.st (.pair (.int .i64) (.pair (.int .i64) .unit))) (.pair (.sl (.st (.pair (.int .i64) (.pair (.int .i64) .unit)))) (.pair (.st (.pair (.int .i64) (.pair (.int .i64) .unit))) .unit)))) .unit))
noncomputable def sp_w_eqDesk (F : (((Int × Int × Unit) × (List (Int × Int × Unit)) × (Int × Int × Unit) × Unit) × ((Int × Int × Unit) × (List (Int × Int × Unit)) × (Int × Int × Unit) × Unit) × Unit) → Option Bool) : FnSpec := ⟨as_w_eqDesk, [false, false], .bool, F⟩
noncomputable def w_eqDesk (K : Nat) (x : (((Int × Int × Unit) × (List (Int × Int × Unit)) × (Int × Int × Unit) × Unit) × ((Int × Int × Unit) × (List (Int × Int × Unit)) × (Int × Int × Unit) × Unit) × Unit)) : Option Bool :=
    (w_eqFunc K (x.1.1, x.2.1.1, ())).bind fun y1 =>
    (if (!y1) = true then
    some false
    else
    (w_eqFuncS K (x.1.2.1, x.2.1.2.1, ())).bind fun y2 =>
    (if (!y2) = true then
    some false
    else
    (w_eqRelation K (x.1.2.2.1, x.2.1.2.2.1, ())).bind fun y3 =>
    (if (!y3) = true then
    some false
    else
    some true)))
noncomputable def rv_w_eqDesk : Lv := [(4, (.v .bool))]
noncomputable def sg_w_eqDesk {R : Type} (K : Nat) (k : Nat) : List (Nat × SegS R) := []
noncomputable def su_w_eqDesk : List (Nat × Unit) := []
noncomputable def en_w_eqDesk {R : Type} (K : Nat) (k : Nat) : Env R := { L := lk [], X := lk [], S := lk (sg_w_eqDesk K k), rv := rv_w_eqDesk }
noncomputable def cf_w_eqDesk (K : Nat) : Cfg := { ty := lk tys, fn := lk [(70, sp_w_eqFunc (w_eqFunc K)), (71, sp_w_eqFuncS (w_eqFuncS K)), (72, sp_w_eqRelation (w_eqRelation K))], prot := 0, nt := Try.f27.ntmps }
theorem e_w_eqDesk (K : Nat) (x : den as_w_eqDesk) : w_eqDesk K x = evFn (cf_w_eqDesk K) as_w_eqDesk [false, false] .bool (en_w_eqDesk K K) Try.f27.results.toList (bodyOf Try.f27) x := by kernel_rfl
theorem ok_w_eqDesk (K : Nat) : FnOk Try.prog 27 (sp_w_eqDesk (w_eqDesk K)) :=
  fn_ok (cf := cf_w_eqDesk K) (en := en_w_eqDesk K K) (c := bodyOf Try.f27) Try.func27 (by kernel_rfl) (by kernel_rfl) tysOk (fns_ok (l := [(70, sp_w_eqFunc (w_eqFunc K)), (71, sp_w_eqFuncS (w_eqFuncS K)), (72, sp_w_eqRelation (w_eqRelation K))]) ⟨ok_w_eqFunc K, ⟨ok_w_eqFuncS K, ⟨ok_w_eqRelation K, trivial⟩⟩⟩) (by kernel_rfl) rfl (Nat.le_of_ble_eq_true (by kernel_rfl)) (by kernel_rfl) (of_decide_eq_true (by kernel_rfl)) (by decide) (fun C hP O => lpOk_of (en := en_w_eqDesk K K) (S := hasK su_w_eqDesk) (fun i => hasK_lk (sg_w_eqDesk K K) i) _ (by rw [show partsOf (hasK su_w_eqDesk) (bodyOf Try.f27) = [] from by kernel_rfl]; exact trivial)) (fun x y h => by rw [← e_w_eqDesk]; exact h)
noncomputable def as_w_markFuncS : Ty := (.pair (.sl (.st (.pair (.int .i64) (.pair (.int .i64) .unit)))) (.pair (.int .i64) .unit))
noncomputable def sp_w_markFuncS (F : ((List (Int × Int × Unit)) × Int × Unit) → Option (Int × ((List (Int × Int × Unit)) × Unit))) : FnSpec := ⟨as_w_markFuncS, [true, false], (.pair (.int .i64) (.pair (.sl (.st (.pair (.int .i64) (.pair (.int .i64) .unit)))) .unit)), F⟩
noncomputable def w_markFuncS_l2 {R : Type} (K : Nat) : Nat → (List (Int × Int × Unit)) → Int → Int → ((List (Int × Int × Unit)) → Int → Option R) → Option R
  | 0, _, _, _, _ => none
  | k + 1, v0, v1, v5, kx0 =>
    (if (decide (v5 < (v0.length : Int))) = true then
    (if (bnds v5 (v0.length : Int)) = true then
    let l1 := (v0.set v5.toNat (v1, (v0.getD v5.toNat ((0 : Int), (0 : Int), ())).2.1, ()))
    (if (bnds v5 (l1.length : Int)) = true then
    let l2 := (l1.set v5.toNat ((l1.getD v5.toNat ((0 : Int), (0 : Int), ())).1, (IntKind.i64.wrap (v1 + (1 : Int))), ()))
    let x3 := (IntKind.i64.wrap ((IntKind.i64.wrap (v1 + (1 : Int))) + (1 : Int)))
    w_markFuncS_l2 K k l2 x3 (IntKind.i64.wrap (v5 + (1 : Int))) kx0
    else
    none)
    else
    none)
    else
    kx0 v0 v1)
noncomputable def w_markFuncS (K : Nat) (x : ((List (Int × Int × Unit)) × Int × Unit)) : Option (Int × ((List (Int × Int × Unit)) × Unit)) :=
    w_markFuncS_l2 K K x.1 x.2.1 (0 : Int) (fun z4 z5 =>
    some (z5, (z4, ())))
noncomputable def lv_w_markFuncS_L2 : Lv := [(0, (.r (.st (.pair (.int .i64) (.pair (.int .i64) .unit))))), (1, (.v (.int .i64))), (5, (.v (.int .i64)))]
noncomputable def lv_w_markFuncS_X0 : Lv := [(0, (.r (.st (.pair (.int .i64) (.pair (.int .i64) .unit))))), (1, (.v (.int .i64)))]
noncomputable def rv_w_markFuncS : Lv := [(0, (.r (.st (.pair (.int .i64) (.pair (.int .i64) .unit))))), (4, (.v (.int .i64)))]
noncomputable def gw_markFuncS_l2 {R : Type} (K : Nat) (k : Nat) (x : den lv_w_markFuncS_L2.ty) (kx : Nat → St → Option R) (kr : St → Option R) : Option R := w_markFuncS_l2 K k x.1 x.2.1 x.2.2.1 (fun z0 z1 => kx 0 (mkSt lv_w_markFuncS_X0 (z0, z1, ())))
noncomputable def sg_w_markFuncS {R : Type} (K : Nat) (k : Nat) : List (Nat × SegS R) := []
noncomputable def su_w_markFuncS : List (Nat × Unit) := []
noncomputable def en_w_markFuncS {R : Type} (K : Nat) (k : Nat) : Env R := { L := lk [(2, mkLoop lv_w_markFuncS_L2 (gw_markFuncS_l2 K k))], X := lk [(0, lv_w_markFuncS_X0)], S := lk (sg_w_markFuncS K k), rv := rv_w_markFuncS }
noncomputable def cf_w_markFuncS (K : Nat) : Cfg := { ty := lk tys, fn := lk [], prot := 1, nt := Try.f73.ntmps }
noncomputable def c_w_markFuncS_L2 : Code := nthC (partsOf (hasK su_w_markFuncS) (bodyOf Try.f73)) 0
theorem ew_markFuncS_l2 {R : Type} (K : Nat) (k : Nat) (x : den lv_w_markFuncS_L2.ty) (kx : Nat → St → Option R) (kr : St → Option R) : gw_markFuncS_l2 K (k + 1) x kx kr = evC (cf_w_markFuncS K) (en_w_markFuncS K k) c_w_markFuncS_L2 (mkSt lv_w_markFuncS_L2 x) (fun s => mkLoop lv_w_markFuncS_L2 (gw_markFuncS_l2 K k) s kx kr) kx kr := by kernel_rfl
theorem sw_markFuncS_l2 {R : Type} (K : Nat) (C : Cx) (hP : C.P = Try.prog) (O : CfgOk C (cf_w_markFuncS K)) (k : Nat) : LpS C (R := R) (mkLoop lv_w_markFuncS_L2 (gw_markFuncS_l2 K k)) c_w_markFuncS_L2 :=
  loop_sound O (by rw [hP]; kernel_rfl) (fun x kx kr => rfl) (ew_markFuncS_l2 K) (fun k => lpOk_of (en := en_w_markFuncS K k) (S := hasK su_w_markFuncS) (fun i => hasK_lk (sg_w_markFuncS K k) i) _ (by rw [show partsOf (hasK su_w_markFuncS) c_w_markFuncS_L2 = [] from by kernel_rfl]; exact trivial)) k
theorem e_w_markFuncS (K : Nat) (x : den as_w_markFuncS) : w_markFuncS K x = evFn (cf_w_markFuncS K) as_w_markFuncS [true, false] (.pair (.int .i64) (.pair (.sl (.st (.pair (.int .i64) (.pair (.int .i64) .unit)))) .unit)) (en_w_markFuncS K K) Try.f73.results.toList (bodyOf Try.f73) x := by kernel_rfl
theorem ok_w_markFuncS (K : Nat) : FnOk Try.prog 73 (sp_w_markFuncS (w_markFuncS K)) :=
  fn_ok (cf := cf_w_markFuncS K) (en := en_w_markFuncS K K) (c := bodyOf Try.f73) Try.func73 (by kernel_rfl) (by kernel_rfl) tysOk (fns_ok (l := []) trivial) (by kernel_rfl) rfl (Nat.le_of_ble_eq_true (by kernel_rfl)) (by kernel_rfl) (of_decide_eq_true (by kernel_rfl)) (by decide) (fun C hP O => lpOk_of (en := en_w_markFuncS K K) (S := hasK su_w_markFuncS) (fun i => hasK_lk (sg_w_markFuncS K K) i) _ (by rw [show partsOf (hasK su_w_markFuncS) (bodyOf Try.f73) = [(true, c_w_markFuncS_L2)] from by kernel_rfl]; exact (lpL_loop (f := mkLoop lv_w_markFuncS_L2 (gw_markFuncS_l2 K K)) (by kernel_rfl) (sw_markFuncS_l2 K C hP O K) trivial))) (fun x y h => by rw [← e_w_markFuncS]; exact h)
noncomputable def as_w_markDesk : Ty := (.pair (.st (.pair (.st (.pair (.int .i64) (.pair (.int .i64) .unit))) (.pair (.sl (.st (.pair (.int .i64) (.pair (.int .i64) .unit)))) (.pair (.st (.pair (.int .i64) (.pair (.int .i64) .unit))) .unit)))) (.pair (.int .i64) .unit))
noncomputable def sp_w_markDesk (F : (((Int × Int × Unit) × (List (Int × Int × Unit)) × (Int × Int × Unit) × Unit) × Int × Unit) → Option (Int × (((Int × Int × Unit) × (List (Int × Int × Unit)) × (Int × Int × Unit) × Unit) × Unit))) : FnSpec := ⟨as_w_markDesk, [true, false], (.pair (.int .i64) (.pair (.st (.pair (.st (.pair (.int .i64) (.pair (.int .i64) .unit))) (.pair (.sl (.st (.pair (.int .i64) (.pair (.int .i64) .unit)))) (.pair (.st (.pair (.int .i64) (.pair (.int .i64) .unit))) .unit)))) .unit)), F⟩
noncomputable def w_markDesk (K : Nat) (x : (((Int × Int × Unit) × (List (Int × Int × Unit)) × (Int × Int × Unit) × Unit) × Int × Unit)) : Option (Int × (((Int × Int × Unit) × (List (Int × Int × Unit)) × (Int × Int × Unit) × Unit) × Unit)) :=
    (w_markFuncS K (x.1.2.1, x.2.1, ())).bind fun y1 =>
    some (y1.1, ((x.1.1, y1.2.1, x.1.2.2.1, ()), ()))
noncomputable def rv_w_markDesk : Lv := [(0, (.st (.pair (.v (.st (.pair (.int .i64) (.pair (.int .i64) .unit)))) (.pair (.r (.st (.pair (.int .i64) (.pair (.int .i64) .unit)))) (.pair (.v (.st (.pair (.int .i64) (.pair (.int .i64) .unit)))) .unit))))), (4, (.v (.int .i64)))]
noncomputable def sg_w_markDesk {R : Type} (K : Nat) (k : Nat) : List (Nat × SegS R) := []
noncomputable def su_w_markDesk : List (Nat × Unit) := []
noncomputable def en_w_markDesk {R : Type} (K : Nat) (k : Nat) : Env R := { L := lk [], X := lk [], S := lk (sg_w_markDesk K k), rv := rv_w_markDesk }
noncomputable def cf_w_markDesk (K : Nat) : Cfg := { ty := lk tys, fn := lk [(73, sp_w_markFuncS (w_markFuncS K))], prot := 1, nt := Try.f28.ntmps }
theorem e_w_markDesk (K : Nat) (x : den as_w_markDesk) : w_markDesk K x = evFn (cf_w_markDesk K) as_w_markDesk [true, false] (.pair (.int .i64) (.pair (.st (.pair (.st (.pair (.int .i64) (.pair (.int .i64) .unit))) (.pair (.sl (.st (.pair (.int .i64) (.pair (.int .i64) .unit)))) (.pair (.st (.pair (.int .i64) (.pair (.int .i64) .unit))) .unit)))) .unit)) (en_w_markDesk K K) Try.f28.results.toList (bodyOf Try.f28) x := by kernel_rfl
theorem ok_w_markDesk (K : Nat) : FnOk Try.prog 28 (sp_w_markDesk (w_markDesk K)) :=
  fn_ok (cf := cf_w_markDesk K) (en := en_w_markDesk K K) (c := bodyOf Try.f28) Try.func28 (by kernel_rfl) (by kernel_rfl) tysOk (fns_ok (l := [(73, sp_w_markFuncS (w_markFuncS K))]) ⟨ok_w_markFuncS K, trivial⟩) (by kernel_rfl) rfl (Nat.le_of_ble_eq_true (by kernel_rfl)) (by kernel_rfl) (of_decide_eq_true (by kernel_rfl)) (by decide) (fun C hP O => lpOk_of (en := en_w_markDesk K K) (S := hasK su_w_markDesk) (fun i => hasK_lk (sg_w_markDesk K K) i) _ (by rw [show partsOf (hasK su_w_markDesk) (bodyOf Try.f28) = [] from by kernel_rfl]; exact trivial)) (fun x y h => by rw [← e_w_markDesk]; exact h)
noncomputable def as_w_heldFuncS : Ty := (.pair (.sl (.st (.pair (.int .i64) (.pair (.int .i64) .unit)))) (.pair (.int .i64) .unit))
noncomputable def sp_w_heldFuncS (F : ((List (Int × Int × Unit)) × Int × Unit) → Option Int) : FnSpec := ⟨as_w_heldFuncS, [false, false], (.int .i64), F⟩
noncomputable def w_heldFuncS_l2 {R : Type} (K : Nat) : Nat → (List (Int × Int × Unit)) → Int → Int → (Int → Option R) → (Int → Option R) → Option R
  | 0, _, _, _, _, _ => none
  | k + 1, v0, v1, v5, kx0, kr =>
    (if (decide (v5 < (v0.length : Int))) = true then
    (if (bnds v5 (v0.length : Int)) = true then
    let x1 := (!decide ((v0.getD v5.toNat ((0 : Int), (0 : Int), ())).1 = v1))
    (if x1 = true then
    kr (-1 : Int)
    else
    (if (bnds v5 (v0.length : Int)) = true then
    let x2 := (!decide ((v0.getD v5.toNat ((0 : Int), (0 : Int), ())).2.1 = (IntKind.i64.wrap (v1 + (1 : Int)))))
    (if x2 = true then
    kr (-1 : Int)
    else
    let x3 := (IntKind.i64.wrap ((IntKind.i64.wrap (v1 + (1 : Int))) + (1 : Int)))
    w_heldFuncS_l2 K k v0 x3 (IntKind.i64.wrap (v5 + (1 : Int))) kx0 kr)
    else
    none))
    else
    none)
    else
    kx0 v1)
noncomputable def w_heldFuncS (K : Nat) (x : ((List (Int × Int × Unit)) × Int × Unit)) : Option Int :=
    w_heldFuncS_l2 K K x.1 x.2.1 (0 : Int) (fun z4 =>
    some z4) (fun z5 =>
    some z5)
noncomputable def lv_w_heldFuncS_L2 : Lv := [(0, (.v (.sl (.st (.pair (.int .i64) (.pair (.int .i64) .unit)))))), (1, (.v (.int .i64))), (5, (.v (.int .i64)))]
noncomputable def lv_w_heldFuncS_X0 : Lv := [(1, (.v (.int .i64)))]
noncomputable def rv_w_heldFuncS : Lv := [(4, (.v (.int .i64)))]
noncomputable def gw_heldFuncS_l2 {R : Type} (K : Nat) (k : Nat) (x : den lv_w_heldFuncS_L2.ty) (kx : Nat → St → Option R) (kr : St → Option R) : Option R := w_heldFuncS_l2 K k x.1 x.2.1 x.2.2.1 (fun z0 => kx 0 (mkSt lv_w_heldFuncS_X0 (z0, ()))) (fun z0 => kr (mkSt rv_w_heldFuncS (z0, ())))
noncomputable def sg_w_heldFuncS {R : Type} (K : Nat) (k : Nat) : List (Nat × SegS R) := []
noncomputable def su_w_heldFuncS : List (Nat × Unit) := []
noncomputable def en_w_heldFuncS {R : Type} (K : Nat) (k : Nat) : Env R := { L := lk [(2, mkLoop lv_w_heldFuncS_L2 (gw_heldFuncS_l2 K k))], X := lk [(0, lv_w_heldFuncS_X0)], S := lk (sg_w_heldFuncS K k), rv := rv_w_heldFuncS }
noncomputable def cf_w_heldFuncS (K : Nat) : Cfg := { ty := lk tys, fn := lk [], prot := 0, nt := Try.f74.ntmps }
noncomputable def c_w_heldFuncS_L2 : Code := nthC (partsOf (hasK su_w_heldFuncS) (bodyOf Try.f74)) 0
theorem ew_heldFuncS_l2 {R : Type} (K : Nat) (k : Nat) (x : den lv_w_heldFuncS_L2.ty) (kx : Nat → St → Option R) (kr : St → Option R) : gw_heldFuncS_l2 K (k + 1) x kx kr = evC (cf_w_heldFuncS K) (en_w_heldFuncS K k) c_w_heldFuncS_L2 (mkSt lv_w_heldFuncS_L2 x) (fun s => mkLoop lv_w_heldFuncS_L2 (gw_heldFuncS_l2 K k) s kx kr) kx kr := by kernel_rfl
theorem sw_heldFuncS_l2 {R : Type} (K : Nat) (C : Cx) (hP : C.P = Try.prog) (O : CfgOk C (cf_w_heldFuncS K)) (k : Nat) : LpS C (R := R) (mkLoop lv_w_heldFuncS_L2 (gw_heldFuncS_l2 K k)) c_w_heldFuncS_L2 :=
  loop_sound O (by rw [hP]; kernel_rfl) (fun x kx kr => rfl) (ew_heldFuncS_l2 K) (fun k => lpOk_of (en := en_w_heldFuncS K k) (S := hasK su_w_heldFuncS) (fun i => hasK_lk (sg_w_heldFuncS K k) i) _ (by rw [show partsOf (hasK su_w_heldFuncS) c_w_heldFuncS_L2 = [] from by kernel_rfl]; exact trivial)) k
theorem e_w_heldFuncS (K : Nat) (x : den as_w_heldFuncS) : w_heldFuncS K x = evFn (cf_w_heldFuncS K) as_w_heldFuncS [false, false] (.int .i64) (en_w_heldFuncS K K) Try.f74.results.toList (bodyOf Try.f74) x := by kernel_rfl
theorem ok_w_heldFuncS (K : Nat) : FnOk Try.prog 74 (sp_w_heldFuncS (w_heldFuncS K)) :=
  fn_ok (cf := cf_w_heldFuncS K) (en := en_w_heldFuncS K K) (c := bodyOf Try.f74) Try.func74 (by kernel_rfl) (by kernel_rfl) tysOk (fns_ok (l := []) trivial) (by kernel_rfl) rfl (Nat.le_of_ble_eq_true (by kernel_rfl)) (by kernel_rfl) (of_decide_eq_true (by kernel_rfl)) (by decide) (fun C hP O => lpOk_of (en := en_w_heldFuncS K K) (S := hasK su_w_heldFuncS) (fun i => hasK_lk (sg_w_heldFuncS K K) i) _ (by rw [show partsOf (hasK su_w_heldFuncS) (bodyOf Try.f74) = [(true, c_w_heldFuncS_L2)] from by kernel_rfl]; exact (lpL_loop (f := mkLoop lv_w_heldFuncS_L2 (gw_heldFuncS_l2 K K)) (by kernel_rfl) (sw_heldFuncS_l2 K C hP O K) trivial))) (fun x y h => by rw [← e_w_heldFuncS]; exact h)
noncomputable def as_w_heldDesk : Ty := (.pair (.st (.pair (.st (.pair (.int .i64) (.pair (.int .i64) .unit))) (.pair (.sl (.st (.pair (.int .i64) (.pair (.int .i64) .unit)))) (.pair (.st (.pair (.int .i64) (.pair (.int .i64) .unit))) .unit)))) (.pair (.int .i64) .unit))
noncomputable def sp_w_heldDesk (F : (((Int × Int × Unit) × (List (Int × Int × Unit)) × (Int × Int × Unit) × Unit) × Int × Unit) → Option Int) : FnSpec := ⟨as_w_heldDesk, [false, false], (.int .i64), F⟩
noncomputable def w_heldDesk (K : Nat) (x : (((Int × Int × Unit) × (List (Int × Int × Unit)) × (Int × Int × Unit) × Unit) × Int × Unit)) : Option Int :=
    (w_heldFuncS K (x.1.2.1, x.2.1, ())).bind fun y1 =>
    (if (decide (y1 < (0 : Int))) = true then
    some (-1 : Int)
    else
    some y1)
noncomputable def rv_w_heldDesk : Lv := [(4, (.v (.int .i64)))]
noncomputable def sg_w_heldDesk {R : Type} (K : Nat) (k : Nat) : List (Nat × SegS R) := []
noncomputable def su_w_heldDesk : List (Nat × Unit) := []
noncomputable def en_w_heldDesk {R : Type} (K : Nat) (k : Nat) : Env R := { L := lk [], X := lk [], S := lk (sg_w_heldDesk K k), rv := rv_w_heldDesk }
noncomputable def cf_w_heldDesk (K : Nat) : Cfg := { ty := lk tys, fn := lk [(74, sp_w_heldFuncS (w_heldFuncS K))], prot := 0, nt := Try.f29.ntmps }
theorem e_w_heldDesk (K : Nat) (x : den as_w_heldDesk) : w_heldDesk K x = evFn (cf_w_heldDesk K) as_w_heldDesk [false, false] (.int .i64) (en_w_heldDesk K K) Try.f29.results.toList (bodyOf Try.f29) x := by kernel_rfl
theorem ok_w_heldDesk (K : Nat) : FnOk Try.prog 29 (sp_w_heldDesk (w_heldDesk K)) :=
  fn_ok (cf := cf_w_heldDesk K) (en := en_w_heldDesk K K) (c := bodyOf Try.f29) Try.func29 (by kernel_rfl) (by kernel_rfl) tysOk (fns_ok (l := [(74, sp_w_heldFuncS (w_heldFuncS K))]) ⟨ok_w_heldFuncS K, trivial⟩) (by kernel_rfl) rfl (Nat.le_of_ble_eq_true (by kernel_rfl)) (by kernel_rfl) (of_decide_eq_true (by kernel_rfl)) (by decide) (fun C hP O => lpOk_of (en := en_w_heldDesk K K) (S := hasK su_w_heldDesk) (fun i => hasK_lk (sg_w_heldDesk K K) i) _ (by rw [show partsOf (hasK su_w_heldDesk) (bodyOf Try.f29) = [] from by kernel_rfl]; exact trivial)) (fun x y h => by rw [← e_w_heldDesk]; exact h)
noncomputable def as_w_FnExactNewDesk : Ty := .unit
noncomputable def sp_w_FnExactNewDesk (F : Unit → Option Bool) : FnSpec := ⟨as_w_FnExactNewDesk, [], .bool, F⟩
noncomputable def w_FnExactNewDesk (K : Nat) (x : Unit) : Option Bool :=
    (s_NewDesk K ()).bind fun y1 =>
    (i_NewDesk K ()).bind fun y2 =>
    (w_eqDesk K ((y2.1, y2.2.1, y2.2.2.1, ()), (y1.1, y1.2.1, y1.2.2.1, ()), ())).bind fun y3 =>
    (if (!y3) = true then
    some false
    else
    (w_markDesk K ((y2.1, y2.2.1, y2.2.2.1, ()), (1 : Int), ())).bind fun y4 =>
    (w_heldDesk K ((y2.1, y4.2.1.2.1, y2.2.2.1, ()), (1 : Int), ())).bind fun y5 =>
    (if (decide (y5 < (0 : Int))) = true then
    some false
    else
    (if (!decide (y5 = y4.1)) = true then
    some false
    else
    (i_NewDesk K ()).bind fun y6 =>
    (w_eqDesk K ((y6.1, y6.2.1, y6.2.2.1, ()), (y1.1, y1.2.1, y1.2.2.1, ()), ())).bind fun y7 =>
    (if (!y7) = true then
    some false
    else
    (w_heldDesk K ((y2.1, y4.2.1.2.1, y2.2.2.1, ()), (1 : Int), ())).bind fun y8 =>
    (if (decide (y8 < (0 : Int))) = true then
    some false
    else
    (if (!decide (y8 = y4.1)) = true then
    some false
    else
    some true))))))
noncomputable def rv_w_FnExactNewDesk : Lv := [(0, (.v .bool))]
noncomputable def sg_w_FnExactNewDesk {R : Type} (K : Nat) (k : Nat) : List (Nat × SegS R) := []
noncomputable def su_w_FnExactNewDesk : List (Nat × Unit) := []
noncomputable def en_w_FnExactNewDesk {R : Type} (K : Nat) (k : Nat) : Env R := { L := lk [], X := lk [], S := lk (sg_w_FnExactNewDesk K k), rv := rv_w_FnExactNewDesk }
noncomputable def cf_w_FnExactNewDesk (K : Nat) : Cfg := { ty := lk tys, fn := lk [(25, sp_s_NewDesk (s_NewDesk K)), (26, sp_i_NewDesk (i_NewDesk K)), (27, sp_w_eqDesk (w_eqDesk K)), (28, sp_w_markDesk (w_markDesk K)), (29, sp_w_heldDesk (w_heldDesk K))], prot := 0, nt := Try.f5.ntmps }
theorem e_w_FnExactNewDesk (K : Nat) (x : den as_w_FnExactNewDesk) : w_FnExactNewDesk K x = evFn (cf_w_FnExactNewDesk K) as_w_FnExactNewDesk [] .bool (en_w_FnExactNewDesk K K) Try.f5.results.toList (bodyOf Try.f5) x := by kernel_rfl
theorem ok_w_FnExactNewDesk (K : Nat) : FnOk Try.prog 5 (sp_w_FnExactNewDesk (w_FnExactNewDesk K)) :=
  fn_ok (cf := cf_w_FnExactNewDesk K) (en := en_w_FnExactNewDesk K K) (c := bodyOf Try.f5) Try.func5 (by kernel_rfl) (by kernel_rfl) tysOk (fns_ok (l := [(25, sp_s_NewDesk (s_NewDesk K)), (26, sp_i_NewDesk (i_NewDesk K)), (27, sp_w_eqDesk (w_eqDesk K)), (28, sp_w_markDesk (w_markDesk K)), (29, sp_w_heldDesk (w_heldDesk K))]) ⟨ok_s_NewDesk K, ⟨ok_i_NewDesk K, ⟨ok_w_eqDesk K, ⟨ok_w_markDesk K, ⟨ok_w_heldDesk K, trivial⟩⟩⟩⟩⟩) (by kernel_rfl) rfl (Nat.le_of_ble_eq_true (by kernel_rfl)) (by kernel_rfl) (of_decide_eq_true (by kernel_rfl)) (by decide) (fun C hP O => lpOk_of (en := en_w_FnExactNewDesk K K) (S := hasK su_w_FnExactNewDesk) (fun i => hasK_lk (sg_w_FnExactNewDesk K K) i) _ (by rw [show partsOf (hasK su_w_FnExactNewDesk) (bodyOf Try.f5) = [] from by kernel_rfl]; exact trivial)) (fun x y h => by rw [← e_w_FnExactNewDesk]; exact h)
end Go.Proofs.Ytieiajeggahipaa.E
namespace Go.Proofs.Ytieiajeggahipaa.E
open Go Go.Proofs Go.Proofs.Ytieiajeggahipaa
theorem PuFnExactNewDesk (x : den as_w_FnExactNewDesk) (h : okD as_w_FnExactNewDesk x) : ∃ K, w_FnExactNewDesk K x = some true := ⟨50, show w_FnExactNewDesk 50 () = some true by decide +kernel⟩
end Go.Proofs.Ytieiajeggahipaa.E
