/-
  Plain lemmas: what the functions hand back, and that the statement holds of it. Conditions: those of each theorem.
-/
import Derived.Test.YtieiajeggahipaaCFnExactKindCounts4
namespace Go.Proofs.Ytieiajeggahipaa.E
open Go Go.Proofs Go.Proofs.Ytieiajeggahipaa
set_option maxRecDepth 100000
set_option linter.unusedVariables false
noncomputable def as_math_bits_Mul64 : Ty := (.pair (.int .u64) (.pair (.int .u64) .unit))
noncomputable def sp_math_bits_Mul64 (F : (Int × Int × Unit) → Option (Int × Int × Unit)) : FnSpec := ⟨as_math_bits_Mul64, [false, false], (.tup (.pair (.int .u64) (.pair (.int .u64) .unit))), F⟩
noncomputable def math_bits_Mul64 (K : Nat) (x : (Int × Int × Unit)) : Option (Int × Int × Unit) :=
    let x1 := (IntKind.u64.wrap ((bitI .and .u64 x.1 (4294967295 : Int)) * (bitI .and .u64 x.2.1 (4294967295 : Int))))
    let x2 := (IntKind.u64.wrap ((shrI .u64 x.1 (32 : Int)) * (bitI .and .u64 x.2.1 (4294967295 : Int))))
    let x3 := (bitI .and .u64 (IntKind.u64.wrap (x2 + (shrI .u64 x1 (32 : Int)))) (4294967295 : Int))
    let x4 := (shrI .u64 (IntKind.u64.wrap (x2 + (shrI .u64 x1 (32 : Int)))) (32 : Int))
    let x5 := (IntKind.u64.wrap ((bitI .and .u64 x.1 (4294967295 : Int)) * (shrI .u64 x.2.1 (32 : Int))))
    let x6 := (IntKind.u64.wrap ((shrI .u64 x.1 (32 : Int)) * (shrI .u64 x.2.1 (32 : Int))))
    let x7 := (IntKind.u64.wrap ((IntKind.u64.wrap (x6 + x4)) + (shrI .u64 (IntKind.u64.wrap (x3 + x5)) (32 : Int))))
    some (x7, (IntKind.u64.wrap (x.1 * x.2.1)), ())
noncomputable def rv_math_bits_Mul64 : Lv := [(4, (.v (.int .u64))), (5, (.v (.int .u64)))]
noncomputable def sg_math_bits_Mul64 {R : Type} (K : Nat) (k : Nat) : List (Nat × SegS R) := []
noncomputable def su_math_bits_Mul64 : List (Nat × Unit) := []
noncomputable def en_math_bits_Mul64 {R : Type} (K : Nat) (k : Nat) : Env R := { L := lk [], X := lk [], S := lk (sg_math_bits_Mul64 K k), rv := rv_math_bits_Mul64 }
noncomputable def cf_math_bits_Mul64 (K : Nat) : Cfg := { ty := lk tys, fn := lk [], fs := lk [], prot := 0, nt := Try.f153.ntmps }
theorem e_math_bits_Mul64 (K : Nat) (x : den as_math_bits_Mul64) : math_bits_Mul64 K x = evFn (cf_math_bits_Mul64 K) as_math_bits_Mul64 [false, false] (.tup (.pair (.int .u64) (.pair (.int .u64) .unit))) (en_math_bits_Mul64 K K) Try.f153.results.toList (bodyOf Try.f153) x := by kernel_rfl
theorem ok_math_bits_Mul64 (K : Nat) : FnOk Try.prog 153 (sp_math_bits_Mul64 (math_bits_Mul64 K)) :=
  fn_ok (cf := cf_math_bits_Mul64 K) (en := en_math_bits_Mul64 K K) (c := bodyOf Try.f153) Try.func153 (by kernel_rfl) (by kernel_rfl) tysOk (fns_ok (l := []) trivial) (shs_ok (l := []) trivial) (by kernel_rfl) rfl (Nat.le_of_ble_eq_true (by kernel_rfl)) (by kernel_rfl) (of_decide_eq_true (by kernel_rfl)) (by decide) (fun C hP O => lpOk_of (en := en_math_bits_Mul64 K K) (S := hasK su_math_bits_Mul64) (fun i => hasK_lk (sg_math_bits_Mul64 K K) i) _ (by rw [show partsOf (hasK su_math_bits_Mul64) (bodyOf Try.f153) = [] from by kernel_rfl]; exact trivial)) (fun x y h => by rw [← e_math_bits_Mul64]; exact h)
noncomputable def as_math_bits_Mul : Ty := (.pair (.int .u64) (.pair (.int .u64) .unit))
noncomputable def sp_math_bits_Mul (F : (Int × Int × Unit) → Option (Int × Int × Unit)) : FnSpec := ⟨as_math_bits_Mul, [false, false], (.tup (.pair (.int .u64) (.pair (.int .u64) .unit))), F⟩
noncomputable def math_bits_Mul (K : Nat) (x : (Int × Int × Unit)) : Option (Int × Int × Unit) :=
    (math_bits_Mul64 K (x.1, x.2.1, ())).bind fun y1 =>
    some (y1.1, y1.2.1, ())
noncomputable def rv_math_bits_Mul : Lv := [(4, (.v (.int .u64))), (5, (.v (.int .u64)))]
noncomputable def sg_math_bits_Mul {R : Type} (K : Nat) (k : Nat) : List (Nat × SegS R) := []
noncomputable def su_math_bits_Mul : List (Nat × Unit) := []
noncomputable def en_math_bits_Mul {R : Type} (K : Nat) (k : Nat) : Env R := { L := lk [], X := lk [], S := lk (sg_math_bits_Mul K k), rv := rv_math_bits_Mul }
noncomputable def cf_math_bits_Mul (K : Nat) : Cfg := { ty := lk tys, fn := lk [(153, sp_math_bits_Mul64 (math_bits_Mul64 K))], fs := lk [], prot := 0, nt := Try.f147.ntmps }
theorem e_math_bits_Mul (K : Nat) (x : den as_math_bits_Mul) : math_bits_Mul K x = evFn (cf_math_bits_Mul K) as_math_bits_Mul [false, false] (.tup (.pair (.int .u64) (.pair (.int .u64) .unit))) (en_math_bits_Mul K K) Try.f147.results.toList (bodyOf Try.f147) x := by kernel_rfl
theorem ok_math_bits_Mul (K : Nat) : FnOk Try.prog 147 (sp_math_bits_Mul (math_bits_Mul K)) :=
  fn_ok (cf := cf_math_bits_Mul K) (en := en_math_bits_Mul K K) (c := bodyOf Try.f147) Try.func147 (by kernel_rfl) (by kernel_rfl) tysOk (fns_ok (l := [(153, sp_math_bits_Mul64 (math_bits_Mul64 K))]) ⟨ok_math_bits_Mul64 K, trivial⟩) (shs_ok (l := []) trivial) (by kernel_rfl) rfl (Nat.le_of_ble_eq_true (by kernel_rfl)) (by kernel_rfl) (of_decide_eq_true (by kernel_rfl)) (by decide) (fun C hP O => lpOk_of (en := en_math_bits_Mul K K) (S := hasK su_math_bits_Mul) (fun i => hasK_lk (sg_math_bits_Mul K K) i) _ (by rw [show partsOf (hasK su_math_bits_Mul) (bodyOf Try.f147) = [] from by kernel_rfl]; exact trivial)) (fun x y h => by rw [← e_math_bits_Mul]; exact h)
noncomputable def as_slices_Repeat_int64 : Ty := (.pair (.sl (.int .i64)) (.pair (.int .i64) .unit))
noncomputable def sp_slices_Repeat_int64 (F : ((List Int) × Int × Unit) → Option (List Int)) : FnSpec := ⟨as_slices_Repeat_int64, [false, false], (.sl (.int .i64)), F⟩
noncomputable def slices_Repeat_int64_l8 {R : Type} (K : Nat) : Nat → (List Int) → Int → ((List Int) → Option R) → Option R
  | 0, _, _, _ => none
  | k + 1, v7, v8, kx0 =>
    (if (decide (v8 < (v7.length : Int))) = true then
    (if (decide (0 ≤ v8) && decide (v8 ≤ (v7.length : Int)) && decide ((v7.length : Int) ≤ (v7.length : Int))) = true then
    (if (decide (0 ≤ (0 : Int)) && decide ((0 : Int) ≤ v8) && decide (v8 ≤ (v7.length : Int))) = true then
    let l4 := (sliceL v7 (0 : Int) ((0 : Int) + (v8 - (0 : Int))))
    let l5 := (copyL v7 l4 v8.toNat ((v7.length : Int) - v8).toNat)
    let x6 := (IntKind.i64.wrap (v8 + ((min l4.length ((v7.length : Int) - v8).toNat : Nat) : Int)))
    slices_Repeat_int64_l8 K k l5 x6 kx0
    else
    none)
    else
    none)
    else
    kx0 v7)
noncomputable def slices_Repeat_int64_j6 {R : Type} (K : Nat) (k : Nat) (v0 : (List Int)) (v6 : Int) (kn : Option R) (kr : ((List Int) → Option R)) : Option R :=
    (if (decide (0 ≤ (IntKind.i64.wrap v6)) && decide ((IntKind.i64.wrap v6) ≤ (lim : Int)) && decide ((IntKind.i64.wrap v6) = (IntKind.i64.wrap v6))) = true then
    let l2 := (List.replicate (IntKind.i64.wrap v6).toNat (0 : Int))
    let l3 := (copyL l2 v0 0 l2.length)
    slices_Repeat_int64_l8 K k l3 ((min v0.length l2.length : Nat) : Int) (fun z7 =>
    kr z7)
    else
    none)
noncomputable def slices_Repeat_int64_j3 {R : Type} (K : Nat) (k : Nat) (v0 : (List Int)) (v1 : Int) (kn : Option R) (kr : ((List Int) → Option R)) : Option R :=
    (math_bits_Mul K ((IntKind.u64.wrap (v0.length : Int)), (IntKind.u64.wrap v1), ())).bind fun y1 =>
    (if (decide (y1.1 > (0 : Int))) = true then
    none
    else
    (if (decide (y1.2.1 > (9223372036854775807 : Int))) = true then
    none
    else
    slices_Repeat_int64_j6 K k v0 y1.2.1 none (fun z8 =>
    kr z8)))
noncomputable def slices_Repeat_int64 (K : Nat) (x : ((List Int) × Int × Unit)) : Option (List Int) :=
    (if (decide (x.2.1 < (0 : Int))) = true then
    none
    else
    slices_Repeat_int64_j3 K K x.1 x.2.1 none (fun z9 =>
    some z9))
noncomputable def lv_slices_Repeat_int64_J3 : Lv := [(0, (.v (.sl (.int .i64)))), (1, (.v (.int .i64)))]
noncomputable def lv_slices_Repeat_int64_J6 : Lv := [(0, (.v (.sl (.int .i64)))), (6, (.v (.int .u64)))]
noncomputable def lv_slices_Repeat_int64_L8 : Lv := [(7, (.r (.int .i64))), (8, (.v (.int .i64)))]
noncomputable def lv_slices_Repeat_int64_N3 : Lv := []
noncomputable def lv_slices_Repeat_int64_N6 : Lv := []
noncomputable def lv_slices_Repeat_int64_X0 : Lv := [(7, (.r (.int .i64)))]
noncomputable def rv_slices_Repeat_int64 : Lv := [(4, (.r (.int .i64)))]
noncomputable def gslices_Repeat_int64_l8 {R : Type} (K : Nat) (k : Nat) (x : den lv_slices_Repeat_int64_L8.ty) (kx : Nat → St → Option R) (kr : St → Option R) : Option R := slices_Repeat_int64_l8 K k x.1 x.2.1 (fun z0 => kx 0 (mkSt lv_slices_Repeat_int64_X0 (z0, ())))
noncomputable def gslices_Repeat_int64_j6 {R : Type} (K : Nat) (k : Nat) (x : den lv_slices_Repeat_int64_J6.ty) (kn : den lv_slices_Repeat_int64_N6.ty → Option R) (kx : Nat → St → Option R) (kr : St → Option R) : Option R := slices_Repeat_int64_j6 K k x.1 x.2.1 (kn ()) (fun z0 => kr (mkSt rv_slices_Repeat_int64 (z0, ())))
noncomputable def gslices_Repeat_int64_j3 {R : Type} (K : Nat) (k : Nat) (x : den lv_slices_Repeat_int64_J3.ty) (kn : den lv_slices_Repeat_int64_N3.ty → Option R) (kx : Nat → St → Option R) (kr : St → Option R) : Option R := slices_Repeat_int64_j3 K k x.1 x.2.1 (kn ()) (fun z0 => kr (mkSt rv_slices_Repeat_int64 (z0, ())))
noncomputable def sg_slices_Repeat_int64 {R : Type} (K : Nat) (k : Nat) : List (Nat × SegS R) := [(6, mkSeg lv_slices_Repeat_int64_J6 lv_slices_Repeat_int64_N6 (gslices_Repeat_int64_j6 K k)), (3, mkSeg lv_slices_Repeat_int64_J3 lv_slices_Repeat_int64_N3 (gslices_Repeat_int64_j3 K k))]
noncomputable def su_slices_Repeat_int64 : List (Nat × Unit) := [(6, ()), (3, ())]
noncomputable def en_slices_Repeat_int64 {R : Type} (K : Nat) (k : Nat) : Env R := { L := lk [(8, mkLoop lv_slices_Repeat_int64_L8 (gslices_Repeat_int64_l8 K k))], X := lk [(0, lv_slices_Repeat_int64_X0)], S := lk (sg_slices_Repeat_int64 K k), rv := rv_slices_Repeat_int64 }
noncomputable def cf_slices_Repeat_int64 (K : Nat) : Cfg := { ty := lk tys, fn := lk [(147, sp_math_bits_Mul (math_bits_Mul K))], fs := lk [], prot := 0, nt := Try.f134.ntmps }
noncomputable def c_slices_Repeat_int64_J3 : Code := nthC (partsOf (hasK su_slices_Repeat_int64) (bodyOf Try.f134)) 0
noncomputable def c_slices_Repeat_int64_J6 : Code := nthC (partsOf (hasK su_slices_Repeat_int64) c_slices_Repeat_int64_J3) 0
noncomputable def c_slices_Repeat_int64_L8 : Code := nthC (partsOf (hasK su_slices_Repeat_int64) c_slices_Repeat_int64_J6) 0
theorem eslices_Repeat_int64_l8 {R : Type} (K : Nat) (k : Nat) (x : den lv_slices_Repeat_int64_L8.ty) (kx : Nat → St → Option R) (kr : St → Option R) : gslices_Repeat_int64_l8 K (k + 1) x kx kr = evC (cf_slices_Repeat_int64 K) (en_slices_Repeat_int64 K k) c_slices_Repeat_int64_L8 (mkSt lv_slices_Repeat_int64_L8 x) (fun s => mkLoop lv_slices_Repeat_int64_L8 (gslices_Repeat_int64_l8 K k) s kx kr) kx kr := by kernel_rfl
theorem sslices_Repeat_int64_l8 {R : Type} (K : Nat) (C : Cx) (hP : C.P = Try.prog) (O : CfgOk C (cf_slices_Repeat_int64 K)) (k : Nat) : LpS C (R := R) (mkLoop lv_slices_Repeat_int64_L8 (gslices_Repeat_int64_l8 K k)) c_slices_Repeat_int64_L8 :=
  loop_sound O (by rw [hP]; kernel_rfl) (fun x kx kr => rfl) (eslices_Repeat_int64_l8 K) (fun k => lpOk_of (en := en_slices_Repeat_int64 K k) (S := hasK su_slices_Repeat_int64) (fun i => hasK_lk (sg_slices_Repeat_int64 K k) i) _ (by rw [show partsOf (hasK su_slices_Repeat_int64) c_slices_Repeat_int64_L8 = [] from by kernel_rfl]; exact trivial)) k
theorem eslices_Repeat_int64_j6 {R : Type} (K : Nat) (k : Nat) (x : den lv_slices_Repeat_int64_J6.ty) (kn : den lv_slices_Repeat_int64_N6.ty → Option R) (kx : Nat → St → Option R) (kr : St → Option R) : gslices_Repeat_int64_j6 K k x kn kx kr = evC (cf_slices_Repeat_int64 K) (en_slices_Repeat_int64 K k) c_slices_Repeat_int64_J6 (mkSt lv_slices_Repeat_int64_J6 x) (cutK lv_slices_Repeat_int64_N6 kn) kx kr := by kernel_rfl
theorem sslices_Repeat_int64_j6 {R : Type} (K : Nat) (C : Cx) (hP : C.P = Try.prog) (O : CfgOk C (cf_slices_Repeat_int64 K)) (k : Nat) : SgS C (R := R) (mkSeg lv_slices_Repeat_int64_J6 lv_slices_Repeat_int64_N6 (gslices_Repeat_int64_j6 K k)) c_slices_Repeat_int64_J6 :=
  seg_sound O (by rw [hP]; kernel_rfl) (eslices_Repeat_int64_j6 K k) (lpOk_of (en := en_slices_Repeat_int64 K k) (S := hasK su_slices_Repeat_int64) (fun i => hasK_lk (sg_slices_Repeat_int64 K k) i) _ (by rw [show partsOf (hasK su_slices_Repeat_int64) c_slices_Repeat_int64_J6 = [(true, c_slices_Repeat_int64_L8)] from by kernel_rfl]; exact (lpL_loop (f := mkLoop lv_slices_Repeat_int64_L8 (gslices_Repeat_int64_l8 K k)) (by kernel_rfl) (sslices_Repeat_int64_l8 K C hP O k) trivial)))
theorem eslices_Repeat_int64_j3 {R : Type} (K : Nat) (k : Nat) (x : den lv_slices_Repeat_int64_J3.ty) (kn : den lv_slices_Repeat_int64_N3.ty → Option R) (kx : Nat → St → Option R) (kr : St → Option R) : gslices_Repeat_int64_j3 K k x kn kx kr = evC (cf_slices_Repeat_int64 K) (en_slices_Repeat_int64 K k) c_slices_Repeat_int64_J3 (mkSt lv_slices_Repeat_int64_J3 x) (cutK lv_slices_Repeat_int64_N3 kn) kx kr := by kernel_rfl
theorem sslices_Repeat_int64_j3 {R : Type} (K : Nat) (C : Cx) (hP : C.P = Try.prog) (O : CfgOk C (cf_slices_Repeat_int64 K)) (k : Nat) : SgS C (R := R) (mkSeg lv_slices_Repeat_int64_J3 lv_slices_Repeat_int64_N3 (gslices_Repeat_int64_j3 K k)) c_slices_Repeat_int64_J3 :=
  seg_sound O (by rw [hP]; kernel_rfl) (eslices_Repeat_int64_j3 K k) (lpOk_of (en := en_slices_Repeat_int64 K k) (S := hasK su_slices_Repeat_int64) (fun i => hasK_lk (sg_slices_Repeat_int64 K k) i) _ (by rw [show partsOf (hasK su_slices_Repeat_int64) c_slices_Repeat_int64_J3 = [(false, c_slices_Repeat_int64_J6)] from by kernel_rfl]; exact (lpL_seg (f := mkSeg lv_slices_Repeat_int64_J6 lv_slices_Repeat_int64_N6 (gslices_Repeat_int64_j6 K k)) (by kernel_rfl) (sslices_Repeat_int64_j6 K C hP O k) trivial)))
theorem e_slices_Repeat_int64 (K : Nat) (x : den as_slices_Repeat_int64) : slices_Repeat_int64 K x = evFn (cf_slices_Repeat_int64 K) as_slices_Repeat_int64 [false, false] (.sl (.int .i64)) (en_slices_Repeat_int64 K K) Try.f134.results.toList (bodyOf Try.f134) x := by kernel_rfl
theorem ok_slices_Repeat_int64 (K : Nat) : FnOk Try.prog 134 (sp_slices_Repeat_int64 (slices_Repeat_int64 K)) :=
  fn_ok (cf := cf_slices_Repeat_int64 K) (en := en_slices_Repeat_int64 K K) (c := bodyOf Try.f134) Try.func134 (by kernel_rfl) (by kernel_rfl) tysOk (fns_ok (l := [(147, sp_math_bits_Mul (math_bits_Mul K))]) ⟨ok_math_bits_Mul K, trivial⟩) (shs_ok (l := []) trivial) (by kernel_rfl) rfl (Nat.le_of_ble_eq_true (by kernel_rfl)) (by kernel_rfl) (of_decide_eq_true (by kernel_rfl)) (by decide) (fun C hP O => lpOk_of (en := en_slices_Repeat_int64 K K) (S := hasK su_slices_Repeat_int64) (fun i => hasK_lk (sg_slices_Repeat_int64 K K) i) _ (by rw [show partsOf (hasK su_slices_Repeat_int64) (bodyOf Try.f134) = [(false, c_slices_Repeat_int64_J3)] from by kernel_rfl]; exact (lpL_seg (f := mkSeg lv_slices_Repeat_int64_J3 lv_slices_Repeat_int64_N3 (gslices_Repeat_int64_j3 K K)) (by kernel_rfl) (sslices_Repeat_int64_j3 K C hP O K) trivial))) (fun x y h => by rw [← e_slices_Repeat_int64]; exact h)
noncomputable def as_i_Func_levels : Ty := (.pair (.st (.pair (.int .i64) (.pair (.int .i64) .unit))) .unit)
noncomputable def sp_i_Func_levels (F : ((Int × Int × Unit) × Unit) → Option ((List Int) × Bool × Unit)) : FnSpec := ⟨as_i_Func_levels, [false], (.tup (.pair (.sl (.int .i64)) (.pair .bool .unit))), F⟩
noncomputable def i_Func_levels_j8 {R : Type} (K : Nat) (k : Nat) (v1 : (Int × Int × Unit)) (v4 : (List Int)) (v5 : Int) (v6 : Int) (v13 : Int) (v14 : Int) (kn : (Int × Int × Unit) → (List Int) → Int → Int → Option R)  : Option R :=
    (i_Func_at K (v1, v5, ())).bind fun y6 =>
    (if (bnds v6 (v4.length : Int)) = true then
    let l7 := (v4.set v6.toNat y6)
    kn v1 l7 v13 v14
    else
    none)
noncomputable def i_Func_levels_l3 {R : Type} (K : Nat) : Nat → (Int × Int × Unit) → (List Int) → Int → Int → ((List Int) → Option R) → ((List Int) → Bool → Option R) → Option R
  | 0, _, _, _, _, _, _ => none
  | k + 1, v1, v4, v13, v14, kx0, kr =>
    (if (decide (v14 < v13)) = true then
    (i_ones K (v14, ())).bind fun y4 =>
    (if (bnds y4 (v4.length : Int)) = true then
    (if (decide ((v4.getD y4.toNat (0 : Int)) ≥ (0 : Int))) = true then
    (if (bnds y4 (v4.length : Int)) = true then
    (i_Func_at K (v1, v14, ())).bind fun y5 =>
    (if (!decide ((v4.getD y4.toNat (0 : Int)) = y5)) = true then
    kr ([] : List Int) false
    else
    i_Func_levels_j8 K k v1 v4 v14 y4 v13 v14 (fun z8 z9 z10 z11 =>
    i_Func_levels_l3 K k z8 z9 z10 (IntKind.i64.wrap (z11 + (1 : Int))) kx0 kr))
    else
    none)
    else
    i_Func_levels_j8 K k v1 v4 v14 y4 v13 v14 (fun z12 z13 z14 z15 =>
    i_Func_levels_l3 K k z12 z13 z14 (IntKind.i64.wrap (z15 + (1 : Int))) kx0 kr))
    else
    none)
    else
    kx0 v4)
noncomputable def i_Func_levels (K : Nat) (x : ((Int × Int × Unit) × Unit)) : Option ((List Int) × Bool × Unit) :=
    let l1 := [(-1 : Int)]
    (slices_Repeat_int64 K (l1, (IntKind.i64.wrap (x.1.1 + (1 : Int))), ())).bind fun y2 =>
    (i_Func_rows K (x.1, ())).bind fun y3 =>
    i_Func_levels_l3 K K x.1 y2 y3 (0 : Int) (fun z16 =>
    some (z16, true, ())) (fun z17 z18 =>
    some (z17, z18, ()))
noncomputable def lv_i_Func_levels_J8 : Lv := [(1, (.bx (.v (.st (.pair (.int .i64) (.pair (.int .i64) .unit)))))), (4, (.r (.int .i64))), (5, (.v (.int .i64))), (6, (.v (.int .i64))), (13, (.v (.int .i64))), (14, (.v (.int .i64)))]
noncomputable def lv_i_Func_levels_L3 : Lv := [(1, (.bx (.v (.st (.pair (.int .i64) (.pair (.int .i64) .unit)))))), (4, (.r (.int .i64))), (13, (.v (.int .i64))), (14, (.v (.int .i64)))]
noncomputable def lv_i_Func_levels_N8 : Lv := [(1, (.bx (.v (.st (.pair (.int .i64) (.pair (.int .i64) .unit)))))), (4, (.r (.int .i64))), (13, (.v (.int .i64))), (14, (.v (.int .i64)))]
noncomputable def lv_i_Func_levels_X0 : Lv := [(4, (.r (.int .i64)))]
noncomputable def rv_i_Func_levels : Lv := [(2, (.r (.int .i64))), (3, (.v .bool))]
noncomputable def gi_Func_levels_j8 {R : Type} (K : Nat) (k : Nat) (x : den lv_i_Func_levels_J8.ty) (kn : den lv_i_Func_levels_N8.ty → Option R) (kx : Nat → St → Option R) (kr : St → Option R) : Option R := i_Func_levels_j8 K k x.1 x.2.1 x.2.2.1 x.2.2.2.1 x.2.2.2.2.1 x.2.2.2.2.2.1 (fun z0 z1 z2 z3 => kn (z0, z1, z2, z3, ()))
noncomputable def gi_Func_levels_l3 {R : Type} (K : Nat) (k : Nat) (x : den lv_i_Func_levels_L3.ty) (kx : Nat → St → Option R) (kr : St → Option R) : Option R := i_Func_levels_l3 K k x.1 x.2.1 x.2.2.1 x.2.2.2.1 (fun z0 => kx 0 (mkSt lv_i_Func_levels_X0 (z0, ()))) (fun z0 z1 => kr (mkSt rv_i_Func_levels (z0, z1, ())))
noncomputable def sg_i_Func_levels {R : Type} (K : Nat) (k : Nat) : List (Nat × SegS R) := [(8, mkSeg lv_i_Func_levels_J8 lv_i_Func_levels_N8 (gi_Func_levels_j8 K k))]
noncomputable def su_i_Func_levels : List (Nat × Unit) := [(8, ())]
noncomputable def en_i_Func_levels {R : Type} (K : Nat) (k : Nat) : Env R := { L := lk [(3, mkLoop lv_i_Func_levels_L3 (gi_Func_levels_l3 K k))], X := lk [(0, lv_i_Func_levels_X0)], S := lk (sg_i_Func_levels K k), rv := rv_i_Func_levels }
noncomputable def cf_i_Func_levels (K : Nat) : Cfg := { ty := lk tys, fn := lk [(95, sp_i_ones (i_ones K)), (112, sp_i_Func_at (i_Func_at K)), (113, sp_i_Func_rows (i_Func_rows K)), (134, sp_slices_Repeat_int64 (slices_Repeat_int64 K))], fs := lk [], prot := 0, nt := Try.f114.ntmps }
noncomputable def c_i_Func_levels_L3 : Code := nthC (partsOf (hasK su_i_Func_levels) (bodyOf Try.f114)) 0
noncomputable def c_i_Func_levels_J8 : Code := nthC (partsOf (hasK su_i_Func_levels) c_i_Func_levels_L3) 0
theorem ei_Func_levels_j8 {R : Type} (K : Nat) (k : Nat) (x : den lv_i_Func_levels_J8.ty) (kn : den lv_i_Func_levels_N8.ty → Option R) (kx : Nat → St → Option R) (kr : St → Option R) : gi_Func_levels_j8 K k x kn kx kr = evC (cf_i_Func_levels K) (en_i_Func_levels K k) c_i_Func_levels_J8 (mkSt lv_i_Func_levels_J8 x) (cutK lv_i_Func_levels_N8 kn) kx kr := by kernel_rfl
theorem si_Func_levels_j8 {R : Type} (K : Nat) (C : Cx) (hP : C.P = Try.prog) (O : CfgOk C (cf_i_Func_levels K)) (k : Nat) : SgS C (R := R) (mkSeg lv_i_Func_levels_J8 lv_i_Func_levels_N8 (gi_Func_levels_j8 K k)) c_i_Func_levels_J8 :=
  seg_sound O (by rw [hP]; kernel_rfl) (ei_Func_levels_j8 K k) (lpOk_of (en := en_i_Func_levels K k) (S := hasK su_i_Func_levels) (fun i => hasK_lk (sg_i_Func_levels K k) i) _ (by rw [show partsOf (hasK su_i_Func_levels) c_i_Func_levels_J8 = [] from by kernel_rfl]; exact trivial))
theorem ei_Func_levels_l3 {R : Type} (K : Nat) (k : Nat) (x : den lv_i_Func_levels_L3.ty) (kx : Nat → St → Option R) (kr : St → Option R) : gi_Func_levels_l3 K (k + 1) x kx kr = evC (cf_i_Func_levels K) (en_i_Func_levels K k) c_i_Func_levels_L3 (mkSt lv_i_Func_levels_L3 x) (fun s => mkLoop lv_i_Func_levels_L3 (gi_Func_levels_l3 K k) s kx kr) kx kr := by kernel_rfl
theorem si_Func_levels_l3 {R : Type} (K : Nat) (C : Cx) (hP : C.P = Try.prog) (O : CfgOk C (cf_i_Func_levels K)) (k : Nat) : LpS C (R := R) (mkLoop lv_i_Func_levels_L3 (gi_Func_levels_l3 K k)) c_i_Func_levels_L3 :=
  loop_sound O (by rw [hP]; kernel_rfl) (fun x kx kr => rfl) (ei_Func_levels_l3 K) (fun k => lpOk_of (en := en_i_Func_levels K k) (S := hasK su_i_Func_levels) (fun i => hasK_lk (sg_i_Func_levels K k) i) _ (by rw [show partsOf (hasK su_i_Func_levels) c_i_Func_levels_L3 = [(false, c_i_Func_levels_J8)] from by kernel_rfl]; exact (lpL_seg (f := mkSeg lv_i_Func_levels_J8 lv_i_Func_levels_N8 (gi_Func_levels_j8 K k)) (by kernel_rfl) (si_Func_levels_j8 K C hP O k) trivial))) k
theorem e_i_Func_levels (K : Nat) (x : den as_i_Func_levels) : i_Func_levels K x = evFn (cf_i_Func_levels K) as_i_Func_levels [false] (.tup (.pair (.sl (.int .i64)) (.pair .bool .unit))) (en_i_Func_levels K K) Try.f114.results.toList (bodyOf Try.f114) x := by kernel_rfl
theorem ok_i_Func_levels (K : Nat) : FnOk Try.prog 114 (sp_i_Func_levels (i_Func_levels K)) :=
  fn_ok (cf := cf_i_Func_levels K) (en := en_i_Func_levels K K) (c := bodyOf Try.f114) Try.func114 (by kernel_rfl) (by kernel_rfl) tysOk (fns_ok (l := [(95, sp_i_ones (i_ones K)), (112, sp_i_Func_at (i_Func_at K)), (113, sp_i_Func_rows (i_Func_rows K)), (134, sp_slices_Repeat_int64 (slices_Repeat_int64 K))]) ⟨ok_i_ones K, ⟨ok_i_Func_at K, ⟨ok_i_Func_rows K, ⟨ok_slices_Repeat_int64 K, trivial⟩⟩⟩⟩) (shs_ok (l := []) trivial) (by kernel_rfl) rfl (Nat.le_of_ble_eq_true (by kernel_rfl)) (by kernel_rfl) (of_decide_eq_true (by kernel_rfl)) (by decide) (fun C hP O => lpOk_of (en := en_i_Func_levels K K) (S := hasK su_i_Func_levels) (fun i => hasK_lk (sg_i_Func_levels K K) i) _ (by rw [show partsOf (hasK su_i_Func_levels) (bodyOf Try.f114) = [(true, c_i_Func_levels_L3)] from by kernel_rfl]; exact (lpL_loop (f := mkLoop lv_i_Func_levels_L3 (gi_Func_levels_l3 K K)) (by kernel_rfl) (si_Func_levels_l3 K C hP O K) trivial))) (fun x y h => by rw [← e_i_Func_levels]; exact h)
noncomputable def as_i_Func_isSymmetric : Ty := (.pair (.st (.pair (.int .i64) (.pair (.int .i64) .unit))) .unit)
noncomputable def sp_i_Func_isSymmetric (F : ((Int × Int × Unit) × Unit) → Option Bool) : FnSpec := ⟨as_i_Func_isSymmetric, [false], .bool, F⟩
noncomputable def i_Func_isSymmetric (K : Nat) (x : ((Int × Int × Unit) × Unit)) : Option Bool :=
    (i_Func_levels K (x.1, ())).bind fun y1 =>
    some y1.2.1
noncomputable def rv_i_Func_isSymmetric : Lv := [(2, (.v .bool))]
noncomputable def sg_i_Func_isSymmetric {R : Type} (K : Nat) (k : Nat) : List (Nat × SegS R) := []
noncomputable def su_i_Func_isSymmetric : List (Nat × Unit) := []
noncomputable def en_i_Func_isSymmetric {R : Type} (K : Nat) (k : Nat) : Env R := { L := lk [], X := lk [], S := lk (sg_i_Func_isSymmetric K k), rv := rv_i_Func_isSymmetric }
noncomputable def cf_i_Func_isSymmetric (K : Nat) : Cfg := { ty := lk tys, fn := lk [(114, sp_i_Func_levels (i_Func_levels K))], fs := lk [], prot := 0, nt := Try.f60.ntmps }
theorem e_i_Func_isSymmetric (K : Nat) (x : den as_i_Func_isSymmetric) : i_Func_isSymmetric K x = evFn (cf_i_Func_isSymmetric K) as_i_Func_isSymmetric [false] .bool (en_i_Func_isSymmetric K K) Try.f60.results.toList (bodyOf Try.f60) x := by kernel_rfl
theorem ok_i_Func_isSymmetric (K : Nat) : FnOk Try.prog 60 (sp_i_Func_isSymmetric (i_Func_isSymmetric K)) :=
  fn_ok (cf := cf_i_Func_isSymmetric K) (en := en_i_Func_isSymmetric K K) (c := bodyOf Try.f60) Try.func60 (by kernel_rfl) (by kernel_rfl) tysOk (fns_ok (l := [(114, sp_i_Func_levels (i_Func_levels K))]) ⟨ok_i_Func_levels K, trivial⟩) (shs_ok (l := []) trivial) (by kernel_rfl) rfl (Nat.le_of_ble_eq_true (by kernel_rfl)) (by kernel_rfl) (of_decide_eq_true (by kernel_rfl)) (by decide) (fun C hP O => lpOk_of (en := en_i_Func_isSymmetric K K) (S := hasK su_i_Func_isSymmetric) (fun i => hasK_lk (sg_i_Func_isSymmetric K K) i) _ (by rw [show partsOf (hasK su_i_Func_isSymmetric) (bodyOf Try.f60) = [] from by kernel_rfl]; exact trivial)) (fun x y h => by rw [← e_i_Func_isSymmetric]; exact h)
noncomputable def as_i_within : Ty := (.pair (.int .i64) (.pair (.int .i64) (.pair (.int .i64) .unit)))
noncomputable def sp_i_within (F : (Int × Int × Int × Unit) → Option Bool) : FnSpec := ⟨as_i_within, [false, false, false], .bool, F⟩
noncomputable def i_within (K : Nat) (x : (Int × Int × Int × Unit)) : Option Bool :=
    (if (decide (x.1 ≥ x.2.1)) = true then
    some (decide (x.1 ≤ x.2.2.1))
    else
    some false)
noncomputable def rv_i_within : Lv := [(6, (.v .bool))]
noncomputable def sg_i_within {R : Type} (K : Nat) (k : Nat) : List (Nat × SegS R) := []
noncomputable def su_i_within : List (Nat × Unit) := []
noncomputable def en_i_within {R : Type} (K : Nat) (k : Nat) : Env R := { L := lk [], X := lk [], S := lk (sg_i_within K k), rv := rv_i_within }
noncomputable def cf_i_within (K : Nat) : Cfg := { ty := lk tys, fn := lk [], fs := lk [], prot := 0, nt := Try.f79.ntmps }
theorem e_i_within (K : Nat) (x : den as_i_within) : i_within K x = evFn (cf_i_within K) as_i_within [false, false, false] .bool (en_i_within K K) Try.f79.results.toList (bodyOf Try.f79) x := by kernel_rfl
theorem ok_i_within (K : Nat) : FnOk Try.prog 79 (sp_i_within (i_within K)) :=
  fn_ok (cf := cf_i_within K) (en := en_i_within K K) (c := bodyOf Try.f79) Try.func79 (by kernel_rfl) (by kernel_rfl) tysOk (fns_ok (l := []) trivial) (shs_ok (l := []) trivial) (by kernel_rfl) rfl (Nat.le_of_ble_eq_true (by kernel_rfl)) (by kernel_rfl) (of_decide_eq_true (by kernel_rfl)) (by decide) (fun C hP O => lpOk_of (en := en_i_within K K) (S := hasK su_i_within) (fun i => hasK_lk (sg_i_within K K) i) _ (by rw [show partsOf (hasK su_i_within) (bodyOf Try.f79) = [] from by kernel_rfl]; exact trivial)) (fun x y h => by rw [← e_i_within]; exact h)
noncomputable def as_i_isArity : Ty := (.pair (.int .i64) .unit)
noncomputable def sp_i_isArity (F : (Int × Unit) → Option Bool) : FnSpec := ⟨as_i_isArity, [false], .bool, F⟩
noncomputable def i_isArity (K : Nat) (x : (Int × Unit)) : Option Bool :=
    (i_within K (x.1, (0 : Int), (4 : Int), ())).bind fun y1 =>
    some y1
noncomputable def rv_i_isArity : Lv := [(2, (.v .bool))]
noncomputable def sg_i_isArity {R : Type} (K : Nat) (k : Nat) : List (Nat × SegS R) := []
noncomputable def su_i_isArity : List (Nat × Unit) := []
noncomputable def en_i_isArity {R : Type} (K : Nat) (k : Nat) : Env R := { L := lk [], X := lk [], S := lk (sg_i_isArity K k), rv := rv_i_isArity }
noncomputable def cf_i_isArity (K : Nat) : Cfg := { ty := lk tys, fn := lk [(79, sp_i_within (i_within K))], fs := lk [], prot := 0, nt := Try.f57.ntmps }
theorem e_i_isArity (K : Nat) (x : den as_i_isArity) : i_isArity K x = evFn (cf_i_isArity K) as_i_isArity [false] .bool (en_i_isArity K K) Try.f57.results.toList (bodyOf Try.f57) x := by kernel_rfl
theorem ok_i_isArity (K : Nat) : FnOk Try.prog 57 (sp_i_isArity (i_isArity K)) :=
  fn_ok (cf := cf_i_isArity K) (en := en_i_isArity K K) (c := bodyOf Try.f57) Try.func57 (by kernel_rfl) (by kernel_rfl) tysOk (fns_ok (l := [(79, sp_i_within (i_within K))]) ⟨ok_i_within K, trivial⟩) (shs_ok (l := []) trivial) (by kernel_rfl) rfl (Nat.le_of_ble_eq_true (by kernel_rfl)) (by kernel_rfl) (of_decide_eq_true (by kernel_rfl)) (by decide) (fun C hP O => lpOk_of (en := en_i_isArity K K) (S := hasK su_i_isArity) (fun i => hasK_lk (sg_i_isArity K K) i) _ (by rw [show partsOf (hasK su_i_isArity) (bodyOf Try.f57) = [] from by kernel_rfl]; exact trivial)) (fun x y h => by rw [← e_i_isArity]; exact h)
noncomputable def as_i_funcsOf : Ty := (.pair (.int .i64) .unit)
noncomputable def sp_i_funcsOf (F : (Int × Unit) → Option Int) : FnSpec := ⟨as_i_funcsOf, [false], (.int .i64), F⟩
noncomputable def i_funcsOf (K : Nat) (x : (Int × Unit)) : Option Int :=
    (i_rowsOf K (x.1, ())).bind fun y1 =>
    (if (decide ((0 : Int) ≤ y1)) = true then
    some (shlI .i64 (1 : Int) y1)
    else
    none)
noncomputable def rv_i_funcsOf : Lv := [(2, (.v (.int .i64)))]
noncomputable def sg_i_funcsOf {R : Type} (K : Nat) (k : Nat) : List (Nat × SegS R) := []
noncomputable def su_i_funcsOf : List (Nat × Unit) := []
noncomputable def en_i_funcsOf {R : Type} (K : Nat) (k : Nat) : Env R := { L := lk [], X := lk [], S := lk (sg_i_funcsOf K k), rv := rv_i_funcsOf }
noncomputable def cf_i_funcsOf (K : Nat) : Cfg := { ty := lk tys, fn := lk [(90, sp_i_rowsOf (i_rowsOf K))], fs := lk [], prot := 0, nt := Try.f58.ntmps }
theorem e_i_funcsOf (K : Nat) (x : den as_i_funcsOf) : i_funcsOf K x = evFn (cf_i_funcsOf K) as_i_funcsOf [false] (.int .i64) (en_i_funcsOf K K) Try.f58.results.toList (bodyOf Try.f58) x := by kernel_rfl
theorem ok_i_funcsOf (K : Nat) : FnOk Try.prog 58 (sp_i_funcsOf (i_funcsOf K)) :=
  fn_ok (cf := cf_i_funcsOf K) (en := en_i_funcsOf K K) (c := bodyOf Try.f58) Try.func58 (by kernel_rfl) (by kernel_rfl) tysOk (fns_ok (l := [(90, sp_i_rowsOf (i_rowsOf K))]) ⟨ok_i_rowsOf K, trivial⟩) (shs_ok (l := []) trivial) (by kernel_rfl) rfl (Nat.le_of_ble_eq_true (by kernel_rfl)) (by kernel_rfl) (of_decide_eq_true (by kernel_rfl)) (by decide) (fun C hP O => lpOk_of (en := en_i_funcsOf K K) (S := hasK su_i_funcsOf) (fun i => hasK_lk (sg_i_funcsOf K K) i) _ (by rw [show partsOf (hasK su_i_funcsOf) (bodyOf Try.f58) = [] from by kernel_rfl]; exact trivial)) (fun x y h => by rw [← e_i_funcsOf]; exact h)
noncomputable def as_i_one : Ty := (.pair .bool .unit)
noncomputable def sp_i_one (F : (Bool × Unit) → Option Int) : FnSpec := ⟨as_i_one, [false], (.int .i64), F⟩
noncomputable def i_one (K : Nat) (x : (Bool × Unit)) : Option Int :=
    (if x.1 = true then
    some (1 : Int)
    else
    some (0 : Int))
noncomputable def rv_i_one : Lv := [(2, (.v (.int .i64)))]
noncomputable def sg_i_one {R : Type} (K : Nat) (k : Nat) : List (Nat × SegS R) := []
noncomputable def su_i_one : List (Nat × Unit) := []
noncomputable def en_i_one {R : Type} (K : Nat) (k : Nat) : Env R := { L := lk [], X := lk [], S := lk (sg_i_one K k), rv := rv_i_one }
noncomputable def cf_i_one (K : Nat) : Cfg := { ty := lk tys, fn := lk [], fs := lk [], prot := 0, nt := Try.f61.ntmps }
theorem e_i_one (K : Nat) (x : den as_i_one) : i_one K x = evFn (cf_i_one K) as_i_one [false] (.int .i64) (en_i_one K K) Try.f61.results.toList (bodyOf Try.f61) x := by kernel_rfl
theorem ok_i_one (K : Nat) : FnOk Try.prog 61 (sp_i_one (i_one K)) :=
  fn_ok (cf := cf_i_one K) (en := en_i_one K K) (c := bodyOf Try.f61) Try.func61 (by kernel_rfl) (by kernel_rfl) tysOk (fns_ok (l := []) trivial) (shs_ok (l := []) trivial) (by kernel_rfl) rfl (Nat.le_of_ble_eq_true (by kernel_rfl)) (by kernel_rfl) (of_decide_eq_true (by kernel_rfl)) (by decide) (fun C hP O => lpOk_of (en := en_i_one K K) (S := hasK su_i_one) (fun i => hasK_lk (sg_i_one K K) i) _ (by rw [show partsOf (hasK su_i_one) (bodyOf Try.f61) = [] from by kernel_rfl]; exact trivial)) (fun x y h => by rw [← e_i_one]; exact h)
noncomputable def as_i_KindCounts : Ty := (.pair (.int .i64) .unit)
noncomputable def sp_i_KindCounts (F : (Int × Unit) → Option ((List Int) × Int × Unit)) : FnSpec := ⟨as_i_KindCounts, [false], (.tup (.pair (.sl (.int .i64)) (.pair (.int .i64) .unit))), F⟩
noncomputable def i_KindCounts_j12 {R : Type} (K : Nat) (k : Nat) (v0 : Int) (v4 : (List Int)) (v6 : (Int × Int × Unit)) (v14 : Int) (v15 : Int) (kn : Int → (List Int) → Int → Int → Option R)  : Option R :=
    (if (bnds (3 : Int) (v4.length : Int)) = true then
    (i_Func_hasNearUnanimity K (v6, ())).bind fun y15 =>
    (i_one K (y15, ())).bind fun y16 =>
    let x17 := (IntKind.i64.wrap ((v4.getD (3 : Int).toNat (0 : Int)) + y16))
    (if (bnds (3 : Int) (v4.length : Int)) = true then
    let l18 := (v4.set (3 : Int).toNat x17)
    kn v0 l18 v14 v15
    else
    none)
    else
    none)
noncomputable def i_KindCounts_l5 {R : Type} (K : Nat) : Nat → Int → (List Int) → Int → Int → ((List Int) → Option R) → Option R
  | 0, _, _, _, _, _ => none
  | k + 1, v0, v4, v14, v15, kx0 =>
    (if (decide (v15 < v14)) = true then
    (i_Func_isIdempotent K (((v0, ((0 : Int), (0 : Int), ()).2.1, ()).1, v15, ()), ())).bind fun y4 =>
    (i_Func_isSymmetric K (((v0, ((0 : Int), (0 : Int), ()).2.1, ()).1, v15, ()), ())).bind fun y5 =>
    (if (bnds (0 : Int) (v4.length : Int)) = true then
    (i_one K (y4, ())).bind fun y6 =>
    let x7 := (IntKind.i64.wrap ((v4.getD (0 : Int).toNat (0 : Int)) + y6))
    (if (bnds (0 : Int) (v4.length : Int)) = true then
    let l8 := (v4.set (0 : Int).toNat x7)
    (if (bnds (1 : Int) (l8.length : Int)) = true then
    (i_one K (y5, ())).bind fun y9 =>
    let x10 := (IntKind.i64.wrap ((l8.getD (1 : Int).toNat (0 : Int)) + y9))
    (if (bnds (1 : Int) (l8.length : Int)) = true then
    let l11 := (l8.set (1 : Int).toNat x10)
    (if (bnds (2 : Int) (l11.length : Int)) = true then
    (if y4 = true then
    (i_one K (y5, ())).bind fun y12 =>
    let x13 := (IntKind.i64.wrap ((l11.getD (2 : Int).toNat (0 : Int)) + y12))
    (if (bnds (2 : Int) (l11.length : Int)) = true then
    let l14 := (l11.set (2 : Int).toNat x13)
    i_KindCounts_j12 K k v0 l14 ((v0, ((0 : Int), (0 : Int), ()).2.1, ()).1, v15, ()) v14 v15 (fun z19 z20 z21 z22 =>
    i_KindCounts_l5 K k z19 z20 z21 (IntKind.i64.wrap (z22 + (1 : Int))) kx0)
    else
    none)
    else
    (i_one K (false, ())).bind fun y23 =>
    let x24 := (IntKind.i64.wrap ((l11.getD (2 : Int).toNat (0 : Int)) + y23))
    (if (bnds (2 : Int) (l11.length : Int)) = true then
    let l25 := (l11.set (2 : Int).toNat x24)
    i_KindCounts_j12 K k v0 l25 ((v0, ((0 : Int), (0 : Int), ()).2.1, ()).1, v15, ()) v14 v15 (fun z26 z27 z28 z29 =>
    i_KindCounts_l5 K k z26 z27 z28 (IntKind.i64.wrap (z29 + (1 : Int))) kx0)
    else
    none))
    else
    none)
    else
    none)
    else
    none)
    else
    none)
    else
    none)
    else
    kx0 v4)
noncomputable def i_KindCounts (K : Nat) (x : (Int × Unit)) : Option ((List Int) × Int × Unit) :=
    (i_isArity K (x.1, ())).bind fun y1 =>
    (if (!y1) = true then
    some (([] : List Int), (2 : Int), ())
    else
    (if (decide (0 ≤ (4 : Int)) && decide ((4 : Int) ≤ (lim : Int)) && decide ((4 : Int) = (4 : Int))) = true then
    let l2 := (List.replicate (4 : Int).toNat (0 : Int))
    (i_funcsOf K (x.1, ())).bind fun y3 =>
    i_KindCounts_l5 K K x.1 l2 y3 (0 : Int) (fun z30 =>
    some (z30, (0 : Int), ()))
    else
    none))
noncomputable def lv_i_KindCounts_J12 : Lv := [(0, (.v (.int .i64))), (4, (.r (.int .i64))), (6, (.bx (.v (.st (.pair (.int .i64) (.pair (.int .i64) .unit)))))), (14, (.v (.int .i64))), (15, (.v (.int .i64)))]
noncomputable def lv_i_KindCounts_L5 : Lv := [(0, (.v (.int .i64))), (4, (.r (.int .i64))), (14, (.v (.int .i64))), (15, (.v (.int .i64)))]
noncomputable def lv_i_KindCounts_N12 : Lv := [(0, (.v (.int .i64))), (4, (.r (.int .i64))), (14, (.v (.int .i64))), (15, (.v (.int .i64)))]
noncomputable def lv_i_KindCounts_X0 : Lv := [(4, (.r (.int .i64)))]
noncomputable def rv_i_KindCounts : Lv := [(2, (.r (.int .i64))), (3, (.v (.int .i64)))]
noncomputable def gi_KindCounts_j12 {R : Type} (K : Nat) (k : Nat) (x : den lv_i_KindCounts_J12.ty) (kn : den lv_i_KindCounts_N12.ty → Option R) (kx : Nat → St → Option R) (kr : St → Option R) : Option R := i_KindCounts_j12 K k x.1 x.2.1 x.2.2.1 x.2.2.2.1 x.2.2.2.2.1 (fun z0 z1 z2 z3 => kn (z0, z1, z2, z3, ()))
noncomputable def gi_KindCounts_l5 {R : Type} (K : Nat) (k : Nat) (x : den lv_i_KindCounts_L5.ty) (kx : Nat → St → Option R) (kr : St → Option R) : Option R := i_KindCounts_l5 K k x.1 x.2.1 x.2.2.1 x.2.2.2.1 (fun z0 => kx 0 (mkSt lv_i_KindCounts_X0 (z0, ())))
noncomputable def sg_i_KindCounts {R : Type} (K : Nat) (k : Nat) : List (Nat × SegS R) := [(12, mkSeg lv_i_KindCounts_J12 lv_i_KindCounts_N12 (gi_KindCounts_j12 K k))]
noncomputable def su_i_KindCounts : List (Nat × Unit) := [(12, ())]
noncomputable def en_i_KindCounts {R : Type} (K : Nat) (k : Nat) : Env R := { L := lk [(5, mkLoop lv_i_KindCounts_L5 (gi_KindCounts_l5 K k))], X := lk [(0, lv_i_KindCounts_X0)], S := lk (sg_i_KindCounts K k), rv := rv_i_KindCounts }
noncomputable def cf_i_KindCounts (K : Nat) : Cfg := { ty := lk tys, fn := lk [(57, sp_i_isArity (i_isArity K)), (58, sp_i_funcsOf (i_funcsOf K)), (59, sp_i_Func_isIdempotent (i_Func_isIdempotent K)), (60, sp_i_Func_isSymmetric (i_Func_isSymmetric K)), (61, sp_i_one (i_one K)), (62, sp_i_Func_hasNearUnanimity (i_Func_hasNearUnanimity K))], fs := lk [], prot := 0, nt := Try.f16.ntmps }
noncomputable def c_i_KindCounts_L5 : Code := nthC (partsOf (hasK su_i_KindCounts) (bodyOf Try.f16)) 0
noncomputable def c_i_KindCounts_J12 : Code := nthC (partsOf (hasK su_i_KindCounts) c_i_KindCounts_L5) 0
theorem ei_KindCounts_j12 {R : Type} (K : Nat) (k : Nat) (x : den lv_i_KindCounts_J12.ty) (kn : den lv_i_KindCounts_N12.ty → Option R) (kx : Nat → St → Option R) (kr : St → Option R) : gi_KindCounts_j12 K k x kn kx kr = evC (cf_i_KindCounts K) (en_i_KindCounts K k) c_i_KindCounts_J12 (mkSt lv_i_KindCounts_J12 x) (cutK lv_i_KindCounts_N12 kn) kx kr := by kernel_rfl
theorem si_KindCounts_j12 {R : Type} (K : Nat) (C : Cx) (hP : C.P = Try.prog) (O : CfgOk C (cf_i_KindCounts K)) (k : Nat) : SgS C (R := R) (mkSeg lv_i_KindCounts_J12 lv_i_KindCounts_N12 (gi_KindCounts_j12 K k)) c_i_KindCounts_J12 :=
  seg_sound O (by rw [hP]; kernel_rfl) (ei_KindCounts_j12 K k) (lpOk_of (en := en_i_KindCounts K k) (S := hasK su_i_KindCounts) (fun i => hasK_lk (sg_i_KindCounts K k) i) _ (by rw [show partsOf (hasK su_i_KindCounts) c_i_KindCounts_J12 = [] from by kernel_rfl]; exact trivial))
theorem ei_KindCounts_l5 {R : Type} (K : Nat) (k : Nat) (x : den lv_i_KindCounts_L5.ty) (kx : Nat → St → Option R) (kr : St → Option R) : gi_KindCounts_l5 K (k + 1) x kx kr = evC (cf_i_KindCounts K) (en_i_KindCounts K k) c_i_KindCounts_L5 (mkSt lv_i_KindCounts_L5 x) (fun s => mkLoop lv_i_KindCounts_L5 (gi_KindCounts_l5 K k) s kx kr) kx kr := by kernel_rfl
theorem si_KindCounts_l5 {R : Type} (K : Nat) (C : Cx) (hP : C.P = Try.prog) (O : CfgOk C (cf_i_KindCounts K)) (k : Nat) : LpS C (R := R) (mkLoop lv_i_KindCounts_L5 (gi_KindCounts_l5 K k)) c_i_KindCounts_L5 :=
  loop_sound O (by rw [hP]; kernel_rfl) (fun x kx kr => rfl) (ei_KindCounts_l5 K) (fun k => lpOk_of (en := en_i_KindCounts K k) (S := hasK su_i_KindCounts) (fun i => hasK_lk (sg_i_KindCounts K k) i) _ (by rw [show partsOf (hasK su_i_KindCounts) c_i_KindCounts_L5 = [(false, c_i_KindCounts_J12)] from by kernel_rfl]; exact (lpL_seg (f := mkSeg lv_i_KindCounts_J12 lv_i_KindCounts_N12 (gi_KindCounts_j12 K k)) (by kernel_rfl) (si_KindCounts_j12 K C hP O k) trivial))) k
theorem e_i_KindCounts (K : Nat) (x : den as_i_KindCounts) : i_KindCounts K x = evFn (cf_i_KindCounts K) as_i_KindCounts [false] (.tup (.pair (.sl (.int .i64)) (.pair (.int .i64) .unit))) (en_i_KindCounts K K) Try.f16.results.toList (bodyOf Try.f16) x := by kernel_rfl
theorem ok_i_KindCounts (K : Nat) : FnOk Try.prog 16 (sp_i_KindCounts (i_KindCounts K)) :=
  fn_ok (cf := cf_i_KindCounts K) (en := en_i_KindCounts K K) (c := bodyOf Try.f16) Try.func16 (by kernel_rfl) (by kernel_rfl) tysOk (fns_ok (l := [(57, sp_i_isArity (i_isArity K)), (58, sp_i_funcsOf (i_funcsOf K)), (59, sp_i_Func_isIdempotent (i_Func_isIdempotent K)), (60, sp_i_Func_isSymmetric (i_Func_isSymmetric K)), (61, sp_i_one (i_one K)), (62, sp_i_Func_hasNearUnanimity (i_Func_hasNearUnanimity K))]) ⟨ok_i_isArity K, ⟨ok_i_funcsOf K, ⟨ok_i_Func_isIdempotent K, ⟨ok_i_Func_isSymmetric K, ⟨ok_i_one K, ⟨ok_i_Func_hasNearUnanimity K, trivial⟩⟩⟩⟩⟩⟩) (shs_ok (l := []) trivial) (by kernel_rfl) rfl (Nat.le_of_ble_eq_true (by kernel_rfl)) (by kernel_rfl) (of_decide_eq_true (by kernel_rfl)) (by decide) (fun C hP O => lpOk_of (en := en_i_KindCounts K K) (S := hasK su_i_KindCounts) (fun i => hasK_lk (sg_i_KindCounts K K) i) _ (by rw [show partsOf (hasK su_i_KindCounts) (bodyOf Try.f16) = [(true, c_i_KindCounts_L5)] from by kernel_rfl]; exact (lpL_loop (f := mkLoop lv_i_KindCounts_L5 (gi_KindCounts_l5 K K)) (by kernel_rfl) (si_KindCounts_l5 K C hP O K) trivial))) (fun x y h => by rw [← e_i_KindCounts]; exact h)
noncomputable def as_s_l01In : Ty := (.pair (.int .i64) (.pair (.int .i64) (.pair (.int .i64) .unit)))
noncomputable def sp_s_l01In (F : (Int × Int × Int × Unit) → Option Bool) : FnSpec := ⟨as_s_l01In, [false, false, false], .bool, F⟩
noncomputable def s_l01In (K : Nat) (x : (Int × Int × Int × Unit)) : Option Bool :=
    (if (decide (x.1 ≥ x.2.1)) = true then
    some (decide (x.1 ≤ x.2.2.1))
    else
    some false)
noncomputable def rv_s_l01In : Lv := [(6, (.v .bool))]
noncomputable def sg_s_l01In {R : Type} (K : Nat) (k : Nat) : List (Nat × SegS R) := []
noncomputable def su_s_l01In : List (Nat × Unit) := []
noncomputable def en_s_l01In {R : Type} (K : Nat) (k : Nat) : Env R := { L := lk [], X := lk [], S := lk (sg_s_l01In K k), rv := rv_s_l01In }
noncomputable def cf_s_l01In (K : Nat) : Cfg := { ty := lk tys, fn := lk [], fs := lk [], prot := 0, nt := Try.f52.ntmps }
theorem e_s_l01In (K : Nat) (x : den as_s_l01In) : s_l01In K x = evFn (cf_s_l01In K) as_s_l01In [false, false, false] .bool (en_s_l01In K K) Try.f52.results.toList (bodyOf Try.f52) x := by kernel_rfl
theorem ok_s_l01In (K : Nat) : FnOk Try.prog 52 (sp_s_l01In (s_l01In K)) :=
  fn_ok (cf := cf_s_l01In K) (en := en_s_l01In K K) (c := bodyOf Try.f52) Try.func52 (by kernel_rfl) (by kernel_rfl) tysOk (fns_ok (l := []) trivial) (shs_ok (l := []) trivial) (by kernel_rfl) rfl (Nat.le_of_ble_eq_true (by kernel_rfl)) (by kernel_rfl) (of_decide_eq_true (by kernel_rfl)) (by decide) (fun C hP O => lpOk_of (en := en_s_l01In K K) (S := hasK su_s_l01In) (fun i => hasK_lk (sg_s_l01In K K) i) _ (by rw [show partsOf (hasK su_s_l01In) (bodyOf Try.f52) = [] from by kernel_rfl]; exact trivial)) (fun x y h => by rw [← e_s_l01In]; exact h)
noncomputable def as_s_l01Rows : Ty := (.pair (.int .i64) .unit)
noncomputable def sp_s_l01Rows (F : (Int × Unit) → Option Int) : FnSpec := ⟨as_s_l01Rows, [false], (.int .i64), F⟩
noncomputable def s_l01Rows (K : Nat) (x : (Int × Unit)) : Option Int :=
    (if (decide ((0 : Int) ≤ (IntKind.u64.wrap x.1))) = true then
    some (shlI .i64 (1 : Int) (IntKind.u64.wrap x.1))
    else
    none)
noncomputable def rv_s_l01Rows : Lv := [(2, (.v (.int .i64)))]
noncomputable def sg_s_l01Rows {R : Type} (K : Nat) (k : Nat) : List (Nat × SegS R) := []
noncomputable def su_s_l01Rows : List (Nat × Unit) := []
noncomputable def en_s_l01Rows {R : Type} (K : Nat) (k : Nat) : Env R := { L := lk [], X := lk [], S := lk (sg_s_l01Rows K k), rv := rv_s_l01Rows }
noncomputable def cf_s_l01Rows (K : Nat) : Cfg := { ty := lk tys, fn := lk [], fs := lk [], prot := 0, nt := Try.f75.ntmps }
theorem e_s_l01Rows (K : Nat) (x : den as_s_l01Rows) : s_l01Rows K x = evFn (cf_s_l01Rows K) as_s_l01Rows [false] (.int .i64) (en_s_l01Rows K K) Try.f75.results.toList (bodyOf Try.f75) x := by kernel_rfl
theorem ok_s_l01Rows (K : Nat) : FnOk Try.prog 75 (sp_s_l01Rows (s_l01Rows K)) :=
  fn_ok (cf := cf_s_l01Rows K) (en := en_s_l01Rows K K) (c := bodyOf Try.f75) Try.func75 (by kernel_rfl) (by kernel_rfl) tysOk (fns_ok (l := []) trivial) (shs_ok (l := []) trivial) (by kernel_rfl) rfl (Nat.le_of_ble_eq_true (by kernel_rfl)) (by kernel_rfl) (of_decide_eq_true (by kernel_rfl)) (by decide) (fun C hP O => lpOk_of (en := en_s_l01Rows K K) (S := hasK su_s_l01Rows) (fun i => hasK_lk (sg_s_l01Rows K K) i) _ (by rw [show partsOf (hasK su_s_l01Rows) (bodyOf Try.f75) = [] from by kernel_rfl]; exact trivial)) (fun x y h => by rw [← e_s_l01Rows]; exact h)
noncomputable def as_s_l01All : Ty := (.pair (.int .i64) .unit)
noncomputable def sp_s_l01All (F : (Int × Unit) → Option Int) : FnSpec := ⟨as_s_l01All, [false], (.int .i64), F⟩
noncomputable def s_l01All (K : Nat) (x : (Int × Unit)) : Option Int :=
    (s_l01Rows K (x.1, ())).bind fun y1 =>
    (if (decide ((0 : Int) ≤ (IntKind.u64.wrap y1))) = true then
    let x2 := (IntKind.i64.wrap ((shlI .i64 (1 : Int) (IntKind.u64.wrap y1)) - (1 : Int)))
    some x2
    else
    none)
noncomputable def rv_s_l01All : Lv := [(2, (.v (.int .i64)))]
noncomputable def sg_s_l01All {R : Type} (K : Nat) (k : Nat) : List (Nat × SegS R) := []
noncomputable def su_s_l01All : List (Nat × Unit) := []
noncomputable def en_s_l01All {R : Type} (K : Nat) (k : Nat) : Env R := { L := lk [], X := lk [], S := lk (sg_s_l01All K k), rv := rv_s_l01All }
noncomputable def cf_s_l01All (K : Nat) : Cfg := { ty := lk tys, fn := lk [(75, sp_s_l01Rows (s_l01Rows K))], fs := lk [], prot := 0, nt := Try.f53.ntmps }
theorem e_s_l01All (K : Nat) (x : den as_s_l01All) : s_l01All K x = evFn (cf_s_l01All K) as_s_l01All [false] (.int .i64) (en_s_l01All K K) Try.f53.results.toList (bodyOf Try.f53) x := by kernel_rfl
theorem ok_s_l01All (K : Nat) : FnOk Try.prog 53 (sp_s_l01All (s_l01All K)) :=
  fn_ok (cf := cf_s_l01All K) (en := en_s_l01All K K) (c := bodyOf Try.f53) Try.func53 (by kernel_rfl) (by kernel_rfl) tysOk (fns_ok (l := [(75, sp_s_l01Rows (s_l01Rows K))]) ⟨ok_s_l01Rows K, trivial⟩) (shs_ok (l := []) trivial) (by kernel_rfl) rfl (Nat.le_of_ble_eq_true (by kernel_rfl)) (by kernel_rfl) (of_decide_eq_true (by kernel_rfl)) (by decide) (fun C hP O => lpOk_of (en := en_s_l01All K K) (S := hasK su_s_l01All) (fun i => hasK_lk (sg_s_l01All K K) i) _ (by rw [show partsOf (hasK su_s_l01All) (bodyOf Try.f53) = [] from by kernel_rfl]; exact trivial)) (fun x y h => by rw [← e_s_l01All]; exact h)
noncomputable def as_s_l01At : Ty := (.pair (.st (.pair (.int .i64) (.pair (.int .i64) .unit))) (.pair (.int .i64) .unit))
noncomputable def sp_s_l01At (F : ((Int × Int × Unit) × Int × Unit) → Option Int) : FnSpec := ⟨as_s_l01At, [false, false], (.int .i64), F⟩
noncomputable def s_l01At (K : Nat) (x : ((Int × Int × Unit) × Int × Unit)) : Option Int :=
    (if (decide ((0 : Int) ≤ (IntKind.u64.wrap x.2.1))) = true then
    let x1 := (bitI .and .i64 (shrI .i64 x.1.2.1 (IntKind.u64.wrap x.2.1)) (1 : Int))
    some x1
    else
    none)
noncomputable def rv_s_l01At : Lv := [(4, (.v (.int .i64)))]
noncomputable def sg_s_l01At {R : Type} (K : Nat) (k : Nat) : List (Nat × SegS R) := []
noncomputable def su_s_l01At : List (Nat × Unit) := []
noncomputable def en_s_l01At {R : Type} (K : Nat) (k : Nat) : Env R := { L := lk [], X := lk [], S := lk (sg_s_l01At K k), rv := rv_s_l01At }
noncomputable def cf_s_l01At (K : Nat) : Cfg := { ty := lk tys, fn := lk [], fs := lk [], prot := 0, nt := Try.f110.ntmps }
theorem e_s_l01At (K : Nat) (x : den as_s_l01At) : s_l01At K x = evFn (cf_s_l01At K) as_s_l01At [false, false] (.int .i64) (en_s_l01At K K) Try.f110.results.toList (bodyOf Try.f110) x := by kernel_rfl
theorem ok_s_l01At (K : Nat) : FnOk Try.prog 110 (sp_s_l01At (s_l01At K)) :=
  fn_ok (cf := cf_s_l01At K) (en := en_s_l01At K K) (c := bodyOf Try.f110) Try.func110 (by kernel_rfl) (by kernel_rfl) tysOk (fns_ok (l := []) trivial) (shs_ok (l := []) trivial) (by kernel_rfl) rfl (Nat.le_of_ble_eq_true (by kernel_rfl)) (by kernel_rfl) (of_decide_eq_true (by kernel_rfl)) (by decide) (fun C hP O => lpOk_of (en := en_s_l01At K K) (S := hasK su_s_l01At) (fun i => hasK_lk (sg_s_l01At K K) i) _ (by rw [show partsOf (hasK su_s_l01At) (bodyOf Try.f110) = [] from by kernel_rfl]; exact trivial)) (fun x y h => by rw [← e_s_l01At]; exact h)
noncomputable def as_s_l10Idem : Ty := (.pair (.st (.pair (.int .i64) (.pair (.int .i64) .unit))) .unit)
noncomputable def sp_s_l10Idem (F : ((Int × Int × Unit) × Unit) → Option Bool) : FnSpec := ⟨as_s_l10Idem, [false], .bool, F⟩
noncomputable def s_l10Idem (K : Nat) (x : ((Int × Int × Unit) × Unit)) : Option Bool :=
    (if (decide (x.1.1 > (0 : Int))) = true then
    (s_l01At K (x.1, (0 : Int), ())).bind fun y1 =>
    (if (decide (y1 = (0 : Int))) = true then
    (s_l01Rows K (x.1.1, ())).bind fun y2 =>
    (s_l01At K (x.1, (IntKind.i64.wrap (y2 - (1 : Int))), ())).bind fun y3 =>
    some (decide (y3 = (1 : Int)))
    else
    some false)
    else
    some false)
noncomputable def rv_s_l10Idem : Lv := [(2, (.v .bool))]
noncomputable def sg_s_l10Idem {R : Type} (K : Nat) (k : Nat) : List (Nat × SegS R) := []
noncomputable def su_s_l10Idem : List (Nat × Unit) := []
noncomputable def en_s_l10Idem {R : Type} (K : Nat) (k : Nat) : Env R := { L := lk [], X := lk [], S := lk (sg_s_l10Idem K k), rv := rv_s_l10Idem }
noncomputable def cf_s_l10Idem (K : Nat) : Cfg := { ty := lk tys, fn := lk [(75, sp_s_l01Rows (s_l01Rows K)), (110, sp_s_l01At (s_l01At K))], fs := lk [], prot := 0, nt := Try.f54.ntmps }
theorem e_s_l10Idem (K : Nat) (x : den as_s_l10Idem) : s_l10Idem K x = evFn (cf_s_l10Idem K) as_s_l10Idem [false] .bool (en_s_l10Idem K K) Try.f54.results.toList (bodyOf Try.f54) x := by kernel_rfl
theorem ok_s_l10Idem (K : Nat) : FnOk Try.prog 54 (sp_s_l10Idem (s_l10Idem K)) :=
  fn_ok (cf := cf_s_l10Idem K) (en := en_s_l10Idem K K) (c := bodyOf Try.f54) Try.func54 (by kernel_rfl) (by kernel_rfl) tysOk (fns_ok (l := [(75, sp_s_l01Rows (s_l01Rows K)), (110, sp_s_l01At (s_l01At K))]) ⟨ok_s_l01Rows K, ⟨ok_s_l01At K, trivial⟩⟩) (shs_ok (l := []) trivial) (by kernel_rfl) rfl (Nat.le_of_ble_eq_true (by kernel_rfl)) (by kernel_rfl) (of_decide_eq_true (by kernel_rfl)) (by decide) (fun C hP O => lpOk_of (en := en_s_l10Idem K K) (S := hasK su_s_l10Idem) (fun i => hasK_lk (sg_s_l10Idem K K) i) _ (by rw [show partsOf (hasK su_s_l10Idem) (bodyOf Try.f54) = [] from by kernel_rfl]; exact trivial)) (fun x y h => by rw [← e_s_l10Idem]; exact h)
noncomputable def as_s_l10Weight : Ty := (.pair (.int .i64) .unit)
noncomputable def sp_s_l10Weight (F : (Int × Unit) → Option Int) : FnSpec := ⟨as_s_l10Weight, [false], (.int .i64), F⟩
noncomputable def s_l10Weight_l2 {R : Type} (K : Nat) : Nat → Int → Int → (Int → Option R) → Option R
  | 0, _, _, _ => none
  | k + 1, v0, v3, kx0 =>
    (if (decide (v0 > (0 : Int))) = true then
    s_l10Weight_l2 K k (IntKind.i64.wrap (Int.tdiv v0 (2 : Int))) (IntKind.i64.wrap (v3 + (Int.tmod v0 (2 : Int)))) kx0
    else
    kx0 v3)
noncomputable def s_l10Weight (K : Nat) (x : (Int × Unit)) : Option Int :=
    s_l10Weight_l2 K K x.1 (0 : Int) (fun z1 =>
    some z1)
noncomputable def lv_s_l10Weight_L2 : Lv := [(0, (.v (.int .i64))), (3, (.v (.int .i64)))]
noncomputable def lv_s_l10Weight_X0 : Lv := [(3, (.v (.int .i64)))]
noncomputable def rv_s_l10Weight : Lv := [(2, (.v (.int .i64)))]
noncomputable def gs_l10Weight_l2 {R : Type} (K : Nat) (k : Nat) (x : den lv_s_l10Weight_L2.ty) (kx : Nat → St → Option R) (kr : St → Option R) : Option R := s_l10Weight_l2 K k x.1 x.2.1 (fun z0 => kx 0 (mkSt lv_s_l10Weight_X0 (z0, ())))
noncomputable def sg_s_l10Weight {R : Type} (K : Nat) (k : Nat) : List (Nat × SegS R) := []
noncomputable def su_s_l10Weight : List (Nat × Unit) := []
noncomputable def en_s_l10Weight {R : Type} (K : Nat) (k : Nat) : Env R := { L := lk [(2, mkLoop lv_s_l10Weight_L2 (gs_l10Weight_l2 K k))], X := lk [(0, lv_s_l10Weight_X0)], S := lk (sg_s_l10Weight K k), rv := rv_s_l10Weight }
noncomputable def cf_s_l10Weight (K : Nat) : Cfg := { ty := lk tys, fn := lk [], fs := lk [], prot := 0, nt := Try.f111.ntmps }
noncomputable def c_s_l10Weight_L2 : Code := nthC (partsOf (hasK su_s_l10Weight) (bodyOf Try.f111)) 0
theorem es_l10Weight_l2 {R : Type} (K : Nat) (k : Nat) (x : den lv_s_l10Weight_L2.ty) (kx : Nat → St → Option R) (kr : St → Option R) : gs_l10Weight_l2 K (k + 1) x kx kr = evC (cf_s_l10Weight K) (en_s_l10Weight K k) c_s_l10Weight_L2 (mkSt lv_s_l10Weight_L2 x) (fun s => mkLoop lv_s_l10Weight_L2 (gs_l10Weight_l2 K k) s kx kr) kx kr := by kernel_rfl
theorem ss_l10Weight_l2 {R : Type} (K : Nat) (C : Cx) (hP : C.P = Try.prog) (O : CfgOk C (cf_s_l10Weight K)) (k : Nat) : LpS C (R := R) (mkLoop lv_s_l10Weight_L2 (gs_l10Weight_l2 K k)) c_s_l10Weight_L2 :=
  loop_sound O (by rw [hP]; kernel_rfl) (fun x kx kr => rfl) (es_l10Weight_l2 K) (fun k => lpOk_of (en := en_s_l10Weight K k) (S := hasK su_s_l10Weight) (fun i => hasK_lk (sg_s_l10Weight K k) i) _ (by rw [show partsOf (hasK su_s_l10Weight) c_s_l10Weight_L2 = [] from by kernel_rfl]; exact trivial)) k
theorem e_s_l10Weight (K : Nat) (x : den as_s_l10Weight) : s_l10Weight K x = evFn (cf_s_l10Weight K) as_s_l10Weight [false] (.int .i64) (en_s_l10Weight K K) Try.f111.results.toList (bodyOf Try.f111) x := by kernel_rfl
theorem ok_s_l10Weight (K : Nat) : FnOk Try.prog 111 (sp_s_l10Weight (s_l10Weight K)) :=
  fn_ok (cf := cf_s_l10Weight K) (en := en_s_l10Weight K K) (c := bodyOf Try.f111) Try.func111 (by kernel_rfl) (by kernel_rfl) tysOk (fns_ok (l := []) trivial) (shs_ok (l := []) trivial) (by kernel_rfl) rfl (Nat.le_of_ble_eq_true (by kernel_rfl)) (by kernel_rfl) (of_decide_eq_true (by kernel_rfl)) (by decide) (fun C hP O => lpOk_of (en := en_s_l10Weight K K) (S := hasK su_s_l10Weight) (fun i => hasK_lk (sg_s_l10Weight K K) i) _ (by rw [show partsOf (hasK su_s_l10Weight) (bodyOf Try.f111) = [(true, c_s_l10Weight_L2)] from by kernel_rfl]; exact (lpL_loop (f := mkLoop lv_s_l10Weight_L2 (gs_l10Weight_l2 K K)) (by kernel_rfl) (ss_l10Weight_l2 K C hP O K) trivial))) (fun x y h => by rw [← e_s_l10Weight]; exact h)
noncomputable def as_s_l10Symmetric : Ty := (.pair (.st (.pair (.int .i64) (.pair (.int .i64) .unit))) .unit)
noncomputable def sp_s_l10Symmetric (F : ((Int × Int × Unit) × Unit) → Option Bool) : FnSpec := ⟨as_s_l10Symmetric, [false], .bool, F⟩
noncomputable def s_l10Symmetric_l5 {R : Type} (K : Nat) : Nat → (Int × Int × Unit) → Int → Int → ((Int × Int × Unit) → Int → Option R) → (Bool → Option R) → Option R
  | 0, _, _, _, _, _ => none
  | k + 1, v1, v3, v4, kx2, kr =>
    (if (decide (v4 < v3)) = true then
    (s_l10Weight K (v3, ())).bind fun y2 =>
    (s_l10Weight K (v4, ())).bind fun y3 =>
    (if (decide (y2 = y3)) = true then
    (s_l01At K (v1, v3, ())).bind fun y4 =>
    (s_l01At K (v1, v4, ())).bind fun y5 =>
    (if (!decide (y4 = y5)) = true then
    kr false
    else
    s_l10Symmetric_l5 K k v1 v3 (IntKind.i64.wrap (v4 + (1 : Int))) kx2 kr)
    else
    s_l10Symmetric_l5 K k v1 v3 (IntKind.i64.wrap (v4 + (1 : Int))) kx2 kr)
    else
    kx2 v1 v3)
noncomputable def s_l10Symmetric_l2 {R : Type} (K : Nat) : Nat → (Int × Int × Unit) → Int → (Option R) → (Bool → Option R) → Option R
  | 0, _, _, _, _ => none
  | k + 1, v1, v3, kx0, kr =>
    (s_l01Rows K (v1.1, ())).bind fun y1 =>
    (if (decide (v3 < y1)) = true then
    s_l10Symmetric_l5 K k v1 v3 (0 : Int) (fun z6 z7 =>
    s_l10Symmetric_l2 K k z6 (IntKind.i64.wrap (z7 + (1 : Int))) kx0 kr) (fun z8 =>
    kr z8)
    else
    kx0)
noncomputable def s_l10Symmetric (K : Nat) (x : ((Int × Int × Unit) × Unit)) : Option Bool :=
    s_l10Symmetric_l2 K K x.1 (0 : Int) (some true) (fun z9 =>
    some z9)
noncomputable def lv_s_l10Symmetric_L2 : Lv := [(1, (.bx (.v (.st (.pair (.int .i64) (.pair (.int .i64) .unit)))))), (3, (.v (.int .i64)))]
noncomputable def lv_s_l10Symmetric_L5 : Lv := [(1, (.bx (.v (.st (.pair (.int .i64) (.pair (.int .i64) .unit)))))), (3, (.v (.int .i64))), (4, (.v (.int .i64)))]
noncomputable def lv_s_l10Symmetric_X0 : Lv := []
noncomputable def lv_s_l10Symmetric_X2 : Lv := [(1, (.bx (.v (.st (.pair (.int .i64) (.pair (.int .i64) .unit)))))), (3, (.v (.int .i64)))]
noncomputable def rv_s_l10Symmetric : Lv := [(2, (.v .bool))]
noncomputable def gs_l10Symmetric_l5 {R : Type} (K : Nat) (k : Nat) (x : den lv_s_l10Symmetric_L5.ty) (kx : Nat → St → Option R) (kr : St → Option R) : Option R := s_l10Symmetric_l5 K k x.1 x.2.1 x.2.2.1 (fun z0 z1 => kx 2 (mkSt lv_s_l10Symmetric_X2 (z0, z1, ()))) (fun z0 => kr (mkSt rv_s_l10Symmetric (z0, ())))
noncomputable def gs_l10Symmetric_l2 {R : Type} (K : Nat) (k : Nat) (x : den lv_s_l10Symmetric_L2.ty) (kx : Nat → St → Option R) (kr : St → Option R) : Option R := s_l10Symmetric_l2 K k x.1 x.2.1 (kx 0 (mkSt lv_s_l10Symmetric_X0 ())) (fun z0 => kr (mkSt rv_s_l10Symmetric (z0, ())))
noncomputable def sg_s_l10Symmetric {R : Type} (K : Nat) (k : Nat) : List (Nat × SegS R) := []
noncomputable def su_s_l10Symmetric : List (Nat × Unit) := []
noncomputable def en_s_l10Symmetric {R : Type} (K : Nat) (k : Nat) : Env R := { L := lk [(5, mkLoop lv_s_l10Symmetric_L5 (gs_l10Symmetric_l5 K k)), (2, mkLoop lv_s_l10Symmetric_L2 (gs_l10Symmetric_l2 K k))], X := lk [(0, lv_s_l10Symmetric_X0), (2, lv_s_l10Symmetric_X2)], S := lk (sg_s_l10Symmetric K k), rv := rv_s_l10Symmetric }
noncomputable def cf_s_l10Symmetric (K : Nat) : Cfg := { ty := lk tys, fn := lk [(75, sp_s_l01Rows (s_l01Rows K)), (110, sp_s_l01At (s_l01At K)), (111, sp_s_l10Weight (s_l10Weight K))], fs := lk [], prot := 0, nt := Try.f55.ntmps }
noncomputable def c_s_l10Symmetric_L2 : Code := nthC (partsOf (hasK su_s_l10Symmetric) (bodyOf Try.f55)) 0
noncomputable def c_s_l10Symmetric_L5 : Code := nthC (partsOf (hasK su_s_l10Symmetric) c_s_l10Symmetric_L2) 0
theorem es_l10Symmetric_l5 {R : Type} (K : Nat) (k : Nat) (x : den lv_s_l10Symmetric_L5.ty) (kx : Nat → St → Option R) (kr : St → Option R) : gs_l10Symmetric_l5 K (k + 1) x kx kr = evC (cf_s_l10Symmetric K) (en_s_l10Symmetric K k) c_s_l10Symmetric_L5 (mkSt lv_s_l10Symmetric_L5 x) (fun s => mkLoop lv_s_l10Symmetric_L5 (gs_l10Symmetric_l5 K k) s kx kr) kx kr := by kernel_rfl
theorem ss_l10Symmetric_l5 {R : Type} (K : Nat) (C : Cx) (hP : C.P = Try.prog) (O : CfgOk C (cf_s_l10Symmetric K)) (k : Nat) : LpS C (R := R) (mkLoop lv_s_l10Symmetric_L5 (gs_l10Symmetric_l5 K k)) c_s_l10Symmetric_L5 :=
  loop_sound O (by rw [hP]; kernel_rfl) (fun x kx kr => rfl) (es_l10Symmetric_l5 K) (fun k => lpOk_of (en := en_s_l10Symmetric K k) (S := hasK su_s_l10Symmetric) (fun i => hasK_lk (sg_s_l10Symmetric K k) i) _ (by rw [show partsOf (hasK su_s_l10Symmetric) c_s_l10Symmetric_L5 = [] from by kernel_rfl]; exact trivial)) k
theorem es_l10Symmetric_l2 {R : Type} (K : Nat) (k : Nat) (x : den lv_s_l10Symmetric_L2.ty) (kx : Nat → St → Option R) (kr : St → Option R) : gs_l10Symmetric_l2 K (k + 1) x kx kr = evC (cf_s_l10Symmetric K) (en_s_l10Symmetric K k) c_s_l10Symmetric_L2 (mkSt lv_s_l10Symmetric_L2 x) (fun s => mkLoop lv_s_l10Symmetric_L2 (gs_l10Symmetric_l2 K k) s kx kr) kx kr := by kernel_rfl
theorem ss_l10Symmetric_l2 {R : Type} (K : Nat) (C : Cx) (hP : C.P = Try.prog) (O : CfgOk C (cf_s_l10Symmetric K)) (k : Nat) : LpS C (R := R) (mkLoop lv_s_l10Symmetric_L2 (gs_l10Symmetric_l2 K k)) c_s_l10Symmetric_L2 :=
  loop_sound O (by rw [hP]; kernel_rfl) (fun x kx kr => rfl) (es_l10Symmetric_l2 K) (fun k => lpOk_of (en := en_s_l10Symmetric K k) (S := hasK su_s_l10Symmetric) (fun i => hasK_lk (sg_s_l10Symmetric K k) i) _ (by rw [show partsOf (hasK su_s_l10Symmetric) c_s_l10Symmetric_L2 = [(true, c_s_l10Symmetric_L5)] from by kernel_rfl]; exact (lpL_loop (f := mkLoop lv_s_l10Symmetric_L5 (gs_l10Symmetric_l5 K k)) (by kernel_rfl) (ss_l10Symmetric_l5 K C hP O k) trivial))) k
theorem e_s_l10Symmetric (K : Nat) (x : den as_s_l10Symmetric) : s_l10Symmetric K x = evFn (cf_s_l10Symmetric K) as_s_l10Symmetric [false] .bool (en_s_l10Symmetric K K) Try.f55.results.toList (bodyOf Try.f55) x := by kernel_rfl
theorem ok_s_l10Symmetric (K : Nat) : FnOk Try.prog 55 (sp_s_l10Symmetric (s_l10Symmetric K)) :=
  fn_ok (cf := cf_s_l10Symmetric K) (en := en_s_l10Symmetric K K) (c := bodyOf Try.f55) Try.func55 (by kernel_rfl) (by kernel_rfl) tysOk (fns_ok (l := [(75, sp_s_l01Rows (s_l01Rows K)), (110, sp_s_l01At (s_l01At K)), (111, sp_s_l10Weight (s_l10Weight K))]) ⟨ok_s_l01Rows K, ⟨ok_s_l01At K, ⟨ok_s_l10Weight K, trivial⟩⟩⟩) (shs_ok (l := []) trivial) (by kernel_rfl) rfl (Nat.le_of_ble_eq_true (by kernel_rfl)) (by kernel_rfl) (of_decide_eq_true (by kernel_rfl)) (by decide) (fun C hP O => lpOk_of (en := en_s_l10Symmetric K K) (S := hasK su_s_l10Symmetric) (fun i => hasK_lk (sg_s_l10Symmetric K K) i) _ (by rw [show partsOf (hasK su_s_l10Symmetric) (bodyOf Try.f55) = [(true, c_s_l10Symmetric_L2)] from by kernel_rfl]; exact (lpL_loop (f := mkLoop lv_s_l10Symmetric_L2 (gs_l10Symmetric_l2 K K)) (by kernel_rfl) (ss_l10Symmetric_l2 K C hP O K) trivial))) (fun x y h => by rw [← e_s_l10Symmetric]; exact h)
noncomputable def as_s_l10Near : Ty := (.pair (.st (.pair (.int .i64) (.pair (.int .i64) .unit))) .unit)
noncomputable def sp_s_l10Near (F : ((Int × Int × Unit) × Unit) → Option Bool) : FnSpec := ⟨as_s_l10Near, [false], .bool, F⟩
noncomputable def s_l10Near_l4 {R : Type} (K : Nat) : Nat → (Int × Int × Unit) → Int → (Option R) → (Bool → Option R) → Option R
  | 0, _, _, _, _ => none
  | k + 1, v1, v3, kx0, kr =>
    (s_l01Rows K (v1.1, ())).bind fun y1 =>
    (if (decide (v3 < y1)) = true then
    (s_l10Weight K (v3, ())).bind fun y2 =>
    (if (decide (y2 ≤ (1 : Int))) = true then
    (s_l01At K (v1, v3, ())).bind fun y3 =>
    (if (decide (y3 = (1 : Int))) = true then
    kr false
    else
    (if (decide (y2 ≥ (IntKind.i64.wrap (v1.1 - (1 : Int))))) = true then
    (s_l01At K (v1, v3, ())).bind fun y4 =>
    (if (decide (y4 = (0 : Int))) = true then
    kr false
    else
    s_l10Near_l4 K k v1 (IntKind.i64.wrap (v3 + (1 : Int))) kx0 kr)
    else
    s_l10Near_l4 K k v1 (IntKind.i64.wrap (v3 + (1 : Int))) kx0 kr))
    else
    (if (decide (y2 ≥ (IntKind.i64.wrap (v1.1 - (1 : Int))))) = true then
    (s_l01At K (v1, v3, ())).bind fun y5 =>
    (if (decide (y5 = (0 : Int))) = true then
    kr false
    else
    s_l10Near_l4 K k v1 (IntKind.i64.wrap (v3 + (1 : Int))) kx0 kr)
    else
    s_l10Near_l4 K k v1 (IntKind.i64.wrap (v3 + (1 : Int))) kx0 kr))
    else
    kx0)
noncomputable def s_l10Near (K : Nat) (x : ((Int × Int × Unit) × Unit)) : Option Bool :=
    (if (decide (x.1.1 < (3 : Int))) = true then
    some false
    else
    s_l10Near_l4 K K x.1 (0 : Int) (some true) (fun z6 =>
    some z6))
noncomputable def lv_s_l10Near_L4 : Lv := [(1, (.bx (.v (.st (.pair (.int .i64) (.pair (.int .i64) .unit)))))), (3, (.v (.int .i64)))]
noncomputable def lv_s_l10Near_X0 : Lv := []
noncomputable def rv_s_l10Near : Lv := [(2, (.v .bool))]
noncomputable def gs_l10Near_l4 {R : Type} (K : Nat) (k : Nat) (x : den lv_s_l10Near_L4.ty) (kx : Nat → St → Option R) (kr : St → Option R) : Option R := s_l10Near_l4 K k x.1 x.2.1 (kx 0 (mkSt lv_s_l10Near_X0 ())) (fun z0 => kr (mkSt rv_s_l10Near (z0, ())))
noncomputable def sg_s_l10Near {R : Type} (K : Nat) (k : Nat) : List (Nat × SegS R) := []
noncomputable def su_s_l10Near : List (Nat × Unit) := []
noncomputable def en_s_l10Near {R : Type} (K : Nat) (k : Nat) : Env R := { L := lk [(4, mkLoop lv_s_l10Near_L4 (gs_l10Near_l4 K k))], X := lk [(0, lv_s_l10Near_X0)], S := lk (sg_s_l10Near K k), rv := rv_s_l10Near }
noncomputable def cf_s_l10Near (K : Nat) : Cfg := { ty := lk tys, fn := lk [(75, sp_s_l01Rows (s_l01Rows K)), (110, sp_s_l01At (s_l01At K)), (111, sp_s_l10Weight (s_l10Weight K))], fs := lk [], prot := 0, nt := Try.f56.ntmps }
noncomputable def c_s_l10Near_L4 : Code := nthC (partsOf (hasK su_s_l10Near) (bodyOf Try.f56)) 0
theorem es_l10Near_l4 {R : Type} (K : Nat) (k : Nat) (x : den lv_s_l10Near_L4.ty) (kx : Nat → St → Option R) (kr : St → Option R) : gs_l10Near_l4 K (k + 1) x kx kr = evC (cf_s_l10Near K) (en_s_l10Near K k) c_s_l10Near_L4 (mkSt lv_s_l10Near_L4 x) (fun s => mkLoop lv_s_l10Near_L4 (gs_l10Near_l4 K k) s kx kr) kx kr := by kernel_rfl
theorem ss_l10Near_l4 {R : Type} (K : Nat) (C : Cx) (hP : C.P = Try.prog) (O : CfgOk C (cf_s_l10Near K)) (k : Nat) : LpS C (R := R) (mkLoop lv_s_l10Near_L4 (gs_l10Near_l4 K k)) c_s_l10Near_L4 :=
  loop_sound O (by rw [hP]; kernel_rfl) (fun x kx kr => rfl) (es_l10Near_l4 K) (fun k => lpOk_of (en := en_s_l10Near K k) (S := hasK su_s_l10Near) (fun i => hasK_lk (sg_s_l10Near K k) i) _ (by rw [show partsOf (hasK su_s_l10Near) c_s_l10Near_L4 = [] from by kernel_rfl]; exact trivial)) k
theorem e_s_l10Near (K : Nat) (x : den as_s_l10Near) : s_l10Near K x = evFn (cf_s_l10Near K) as_s_l10Near [false] .bool (en_s_l10Near K K) Try.f56.results.toList (bodyOf Try.f56) x := by kernel_rfl
theorem ok_s_l10Near (K : Nat) : FnOk Try.prog 56 (sp_s_l10Near (s_l10Near K)) :=
  fn_ok (cf := cf_s_l10Near K) (en := en_s_l10Near K K) (c := bodyOf Try.f56) Try.func56 (by kernel_rfl) (by kernel_rfl) tysOk (fns_ok (l := [(75, sp_s_l01Rows (s_l01Rows K)), (110, sp_s_l01At (s_l01At K)), (111, sp_s_l10Weight (s_l10Weight K))]) ⟨ok_s_l01Rows K, ⟨ok_s_l01At K, ⟨ok_s_l10Weight K, trivial⟩⟩⟩) (shs_ok (l := []) trivial) (by kernel_rfl) rfl (Nat.le_of_ble_eq_true (by kernel_rfl)) (by kernel_rfl) (of_decide_eq_true (by kernel_rfl)) (by decide) (fun C hP O => lpOk_of (en := en_s_l10Near K K) (S := hasK su_s_l10Near) (fun i => hasK_lk (sg_s_l10Near K K) i) _ (by rw [show partsOf (hasK su_s_l10Near) (bodyOf Try.f56) = [(true, c_s_l10Near_L4)] from by kernel_rfl]; exact (lpL_loop (f := mkLoop lv_s_l10Near_L4 (gs_l10Near_l4 K K)) (by kernel_rfl) (ss_l10Near_l4 K C hP O K) trivial))) (fun x y h => by rw [← e_s_l10Near]; exact h)
noncomputable def as_s_KindCounts : Ty := (.pair (.int .i64) .unit)
noncomputable def sp_s_KindCounts (F : (Int × Unit) → Option ((List Int) × Int × Unit)) : FnSpec := ⟨as_s_KindCounts, [false], (.tup (.pair (.sl (.int .i64)) (.pair (.int .i64) .unit))), F⟩
noncomputable def s_KindCounts_j15 {R : Type} (K : Nat) (k : Nat) (v0 : Int) (v4 : (List Int)) (v5 : Int) (v6 : (Int × Int × Unit)) (kn : Int → (List Int) → Int → Option R)  : Option R :=
    (s_l10Near K (v6, ())).bind fun y12 =>
    (if y12 = true then
    (if (bnds (3 : Int) (v4.length : Int)) = true then
    let x13 := (IntKind.i64.wrap ((v4.getD (3 : Int).toNat (0 : Int)) + (1 : Int)))
    (if (bnds (3 : Int) (v4.length : Int)) = true then
    let l14 := (v4.set (3 : Int).toNat x13)
    kn v0 l14 v5
    else
    none)
    else
    none)
    else
    kn v0 v4 v5)
noncomputable def s_KindCounts_j13 {R : Type} (K : Nat) (k : Nat) (v0 : Int) (v4 : (List Int)) (v5 : Int) (v6 : (Int × Int × Unit)) (v7 : Bool) (v8 : Bool) (kn : Int → (List Int) → Int → Option R)  : Option R :=
    (if v7 = true then
    (if v8 = true then
    (if (bnds (2 : Int) (v4.length : Int)) = true then
    let x10 := (IntKind.i64.wrap ((v4.getD (2 : Int).toNat (0 : Int)) + (1 : Int)))
    (if (bnds (2 : Int) (v4.length : Int)) = true then
    let l11 := (v4.set (2 : Int).toNat x10)
    s_KindCounts_j15 K k v0 l11 v5 v6 (fun z15 z16 z17 =>
    kn z15 z16 z17)
    else
    none)
    else
    none)
    else
    s_KindCounts_j15 K k v0 v4 v5 v6 (fun z18 z19 z20 =>
    kn z18 z19 z20))
    else
    s_KindCounts_j15 K k v0 v4 v5 v6 (fun z21 z22 z23 =>
    kn z21 z22 z23))
noncomputable def s_KindCounts_j11 {R : Type} (K : Nat) (k : Nat) (v0 : Int) (v4 : (List Int)) (v5 : Int) (v6 : (Int × Int × Unit)) (v7 : Bool) (v8 : Bool) (kn : Int → (List Int) → Int → Option R)  : Option R :=
    (if v8 = true then
    (if (bnds (1 : Int) (v4.length : Int)) = true then
    let x8 := (IntKind.i64.wrap ((v4.getD (1 : Int).toNat (0 : Int)) + (1 : Int)))
    (if (bnds (1 : Int) (v4.length : Int)) = true then
    let l9 := (v4.set (1 : Int).toNat x8)
    s_KindCounts_j13 K k v0 l9 v5 v6 v7 v8 (fun z24 z25 z26 =>
    kn z24 z25 z26)
    else
    none)
    else
    none)
    else
    s_KindCounts_j13 K k v0 v4 v5 v6 v7 v8 (fun z27 z28 z29 =>
    kn z27 z28 z29))
noncomputable def s_KindCounts_j6 {R : Type} (K : Nat) (k : Nat) (v0 : Int) (v4 : (List Int)) (v5 : Int) (kn : Int → (List Int) → Int → Option R)  : Option R :=
    kn v0 v4 (IntKind.i64.wrap (v5 + (1 : Int)))
noncomputable def s_KindCounts_l5 {R : Type} (K : Nat) : Nat → Int → (List Int) → Int → ((List Int) → Option R) → Option R
  | 0, _, _, _, _ => none
  | k + 1, v0, v4, v5, kx0 =>
    (s_l01All K (v0, ())).bind fun y3 =>
    (if (decide (v5 ≤ y3)) = true then
    (s_l10Idem K (((v0, ((0 : Int), (0 : Int), ()).2.1, ()).1, v5, ()), ())).bind fun y4 =>
    (s_l10Symmetric K (((v0, ((0 : Int), (0 : Int), ()).2.1, ()).1, v5, ()), ())).bind fun y5 =>
    (if y4 = true then
    (if (bnds (0 : Int) (v4.length : Int)) = true then
    let x6 := (IntKind.i64.wrap ((v4.getD (0 : Int).toNat (0 : Int)) + (1 : Int)))
    (if (bnds (0 : Int) (v4.length : Int)) = true then
    let l7 := (v4.set (0 : Int).toNat x6)
    s_KindCounts_j11 K k v0 l7 v5 ((v0, ((0 : Int), (0 : Int), ()).2.1, ()).1, v5, ()) y4 y5 (fun z30 z31 z32 =>
    s_KindCounts_j6 K k z30 z31 z32 (fun z33 z34 z35 =>
    s_KindCounts_l5 K k z33 z34 z35 kx0))
    else
    none)
    else
    none)
    else
    s_KindCounts_j11 K k v0 v4 v5 ((v0, ((0 : Int), (0 : Int), ()).2.1, ()).1, v5, ()) y4 y5 (fun z36 z37 z38 =>
    s_KindCounts_j6 K k z36 z37 z38 (fun z39 z40 z41 =>
    s_KindCounts_l5 K k z39 z40 z41 kx0)))
    else
    kx0 v4)
noncomputable def s_KindCounts (K : Nat) (x : (Int × Unit)) : Option ((List Int) × Int × Unit) :=
    (s_l01In K (x.1, (0 : Int), (4 : Int), ())).bind fun y1 =>
    (if (!y1) = true then
    some (([] : List Int), (2 : Int), ())
    else
    (if (decide (0 ≤ (4 : Int)) && decide ((4 : Int) ≤ (lim : Int)) && decide ((4 : Int) = (4 : Int))) = true then
    let l2 := (List.replicate (4 : Int).toNat (0 : Int))
    s_KindCounts_l5 K K x.1 l2 (0 : Int) (fun z42 =>
    some (z42, (0 : Int), ()))
    else
    none))
noncomputable def lv_s_KindCounts_J6 : Lv := [(0, (.v (.int .i64))), (4, (.r (.int .i64))), (5, (.v (.int .i64)))]
noncomputable def lv_s_KindCounts_J11 : Lv := [(0, (.v (.int .i64))), (4, (.r (.int .i64))), (5, (.v (.int .i64))), (6, (.bx (.v (.st (.pair (.int .i64) (.pair (.int .i64) .unit)))))), (7, (.v .bool)), (8, (.v .bool))]
noncomputable def lv_s_KindCounts_J13 : Lv := [(0, (.v (.int .i64))), (4, (.r (.int .i64))), (5, (.v (.int .i64))), (6, (.bx (.v (.st (.pair (.int .i64) (.pair (.int .i64) .unit)))))), (7, (.v .bool)), (8, (.v .bool))]
noncomputable def lv_s_KindCounts_J15 : Lv := [(0, (.v (.int .i64))), (4, (.r (.int .i64))), (5, (.v (.int .i64))), (6, (.bx (.v (.st (.pair (.int .i64) (.pair (.int .i64) .unit))))))]
noncomputable def lv_s_KindCounts_L5 : Lv := [(0, (.v (.int .i64))), (4, (.r (.int .i64))), (5, (.v (.int .i64)))]
noncomputable def lv_s_KindCounts_N6 : Lv := [(0, (.v (.int .i64))), (4, (.r (.int .i64))), (5, (.v (.int .i64)))]
noncomputable def lv_s_KindCounts_N11 : Lv := [(0, (.v (.int .i64))), (4, (.r (.int .i64))), (5, (.v (.int .i64)))]
noncomputable def lv_s_KindCounts_N13 : Lv := [(0, (.v (.int .i64))), (4, (.r (.int .i64))), (5, (.v (.int .i64)))]
noncomputable def lv_s_KindCounts_N15 : Lv := [(0, (.v (.int .i64))), (4, (.r (.int .i64))), (5, (.v (.int .i64)))]
noncomputable def lv_s_KindCounts_X0 : Lv := [(4, (.r (.int .i64)))]
noncomputable def rv_s_KindCounts : Lv := [(2, (.r (.int .i64))), (3, (.v (.int .i64)))]
noncomputable def gs_KindCounts_j15 {R : Type} (K : Nat) (k : Nat) (x : den lv_s_KindCounts_J15.ty) (kn : den lv_s_KindCounts_N15.ty → Option R) (kx : Nat → St → Option R) (kr : St → Option R) : Option R := s_KindCounts_j15 K k x.1 x.2.1 x.2.2.1 x.2.2.2.1 (fun z0 z1 z2 => kn (z0, z1, z2, ()))
noncomputable def gs_KindCounts_j13 {R : Type} (K : Nat) (k : Nat) (x : den lv_s_KindCounts_J13.ty) (kn : den lv_s_KindCounts_N13.ty → Option R) (kx : Nat → St → Option R) (kr : St → Option R) : Option R := s_KindCounts_j13 K k x.1 x.2.1 x.2.2.1 x.2.2.2.1 x.2.2.2.2.1 x.2.2.2.2.2.1 (fun z0 z1 z2 => kn (z0, z1, z2, ()))
noncomputable def gs_KindCounts_j11 {R : Type} (K : Nat) (k : Nat) (x : den lv_s_KindCounts_J11.ty) (kn : den lv_s_KindCounts_N11.ty → Option R) (kx : Nat → St → Option R) (kr : St → Option R) : Option R := s_KindCounts_j11 K k x.1 x.2.1 x.2.2.1 x.2.2.2.1 x.2.2.2.2.1 x.2.2.2.2.2.1 (fun z0 z1 z2 => kn (z0, z1, z2, ()))
noncomputable def gs_KindCounts_j6 {R : Type} (K : Nat) (k : Nat) (x : den lv_s_KindCounts_J6.ty) (kn : den lv_s_KindCounts_N6.ty → Option R) (kx : Nat → St → Option R) (kr : St → Option R) : Option R := s_KindCounts_j6 K k x.1 x.2.1 x.2.2.1 (fun z0 z1 z2 => kn (z0, z1, z2, ()))
noncomputable def gs_KindCounts_l5 {R : Type} (K : Nat) (k : Nat) (x : den lv_s_KindCounts_L5.ty) (kx : Nat → St → Option R) (kr : St → Option R) : Option R := s_KindCounts_l5 K k x.1 x.2.1 x.2.2.1 (fun z0 => kx 0 (mkSt lv_s_KindCounts_X0 (z0, ())))
noncomputable def sg_s_KindCounts {R : Type} (K : Nat) (k : Nat) : List (Nat × SegS R) := [(15, mkSeg lv_s_KindCounts_J15 lv_s_KindCounts_N15 (gs_KindCounts_j15 K k)), (13, mkSeg lv_s_KindCounts_J13 lv_s_KindCounts_N13 (gs_KindCounts_j13 K k)), (11, mkSeg lv_s_KindCounts_J11 lv_s_KindCounts_N11 (gs_KindCounts_j11 K k)), (6, mkSeg lv_s_KindCounts_J6 lv_s_KindCounts_N6 (gs_KindCounts_j6 K k))]
noncomputable def su_s_KindCounts : List (Nat × Unit) := [(15, ()), (13, ()), (11, ()), (6, ())]
noncomputable def en_s_KindCounts {R : Type} (K : Nat) (k : Nat) : Env R := { L := lk [(5, mkLoop lv_s_KindCounts_L5 (gs_KindCounts_l5 K k))], X := lk [(0, lv_s_KindCounts_X0)], S := lk (sg_s_KindCounts K k), rv := rv_s_KindCounts }
noncomputable def cf_s_KindCounts (K : Nat) : Cfg := { ty := lk tys, fn := lk [(52, sp_s_l01In (s_l01In K)), (53, sp_s_l01All (s_l01All K)), (54, sp_s_l10Idem (s_l10Idem K)), (55, sp_s_l10Symmetric (s_l10Symmetric K)), (56, sp_s_l10Near (s_l10Near K))], fs := lk [], prot := 0, nt := Try.f15.ntmps }
noncomputable def c_s_KindCounts_L5 : Code := nthC (partsOf (hasK su_s_KindCounts) (bodyOf Try.f15)) 0
noncomputable def c_s_KindCounts_J11 : Code := nthC (partsOf (hasK su_s_KindCounts) c_s_KindCounts_L5) 0
noncomputable def c_s_KindCounts_J13 : Code := nthC (partsOf (hasK su_s_KindCounts) c_s_KindCounts_J11) 0
noncomputable def c_s_KindCounts_J15 : Code := nthC (partsOf (hasK su_s_KindCounts) c_s_KindCounts_J13) 0
noncomputable def c_s_KindCounts_J6 : Code := nthC (partsOf (hasK su_s_KindCounts) c_s_KindCounts_L5) 1
theorem es_KindCounts_j15 {R : Type} (K : Nat) (k : Nat) (x : den lv_s_KindCounts_J15.ty) (kn : den lv_s_KindCounts_N15.ty → Option R) (kx : Nat → St → Option R) (kr : St → Option R) : gs_KindCounts_j15 K k x kn kx kr = evC (cf_s_KindCounts K) (en_s_KindCounts K k) c_s_KindCounts_J15 (mkSt lv_s_KindCounts_J15 x) (cutK lv_s_KindCounts_N15 kn) kx kr := by kernel_rfl
theorem ss_KindCounts_j15 {R : Type} (K : Nat) (C : Cx) (hP : C.P = Try.prog) (O : CfgOk C (cf_s_KindCounts K)) (k : Nat) : SgS C (R := R) (mkSeg lv_s_KindCounts_J15 lv_s_KindCounts_N15 (gs_KindCounts_j15 K k)) c_s_KindCounts_J15 :=
  seg_sound O (by rw [hP]; kernel_rfl) (es_KindCounts_j15 K k) (lpOk_of (en := en_s_KindCounts K k) (S := hasK su_s_KindCounts) (fun i => hasK_lk (sg_s_KindCounts K k) i) _ (by rw [show partsOf (hasK su_s_KindCounts) c_s_KindCounts_J15 = [] from by kernel_rfl]; exact trivial))
theorem es_KindCounts_j13 {R : Type} (K : Nat) (k : Nat) (x : den lv_s_KindCounts_J13.ty) (kn : den lv_s_KindCounts_N13.ty → Option R) (kx : Nat → St → Option R) (kr : St → Option R) : gs_KindCounts_j13 K k x kn kx kr = evC (cf_s_KindCounts K) (en_s_KindCounts K k) c_s_KindCounts_J13 (mkSt lv_s_KindCounts_J13 x) (cutK lv_s_KindCounts_N13 kn) kx kr := by kernel_rfl
theorem ss_KindCounts_j13 {R : Type} (K : Nat) (C : Cx) (hP : C.P = Try.prog) (O : CfgOk C (cf_s_KindCounts K)) (k : Nat) : SgS C (R := R) (mkSeg lv_s_KindCounts_J13 lv_s_KindCounts_N13 (gs_KindCounts_j13 K k)) c_s_KindCounts_J13 :=
  seg_sound O (by rw [hP]; kernel_rfl) (es_KindCounts_j13 K k) (lpOk_of (en := en_s_KindCounts K k) (S := hasK su_s_KindCounts) (fun i => hasK_lk (sg_s_KindCounts K k) i) _ (by rw [show partsOf (hasK su_s_KindCounts) c_s_KindCounts_J13 = [(false, c_s_KindCounts_J15)] from by kernel_rfl]; exact (lpL_seg (f := mkSeg lv_s_KindCounts_J15 lv_s_KindCounts_N15 (gs_KindCounts_j15 K k)) (by kernel_rfl) (ss_KindCounts_j15 K C hP O k) trivial)))
theorem es_KindCounts_j11 {R : Type} (K : Nat) (k : Nat) (x : den lv_s_KindCounts_J11.ty) (kn : den lv_s_KindCounts_N11.ty → Option R) (kx : Nat → St → Option R) (kr : St → Option R) : gs_KindCounts_j11 K k x kn kx kr = evC (cf_s_KindCounts K) (en_s_KindCounts K k) c_s_KindCounts_J11 (mkSt lv_s_KindCounts_J11 x) (cutK lv_s_KindCounts_N11 kn) kx kr := by kernel_rfl
theorem ss_KindCounts_j11 {R : Type} (K : Nat) (C : Cx) (hP : C.P = Try.prog) (O : CfgOk C (cf_s_KindCounts K)) (k : Nat) : SgS C (R := R) (mkSeg lv_s_KindCounts_J11 lv_s_KindCounts_N11 (gs_KindCounts_j11 K k)) c_s_KindCounts_J11 :=
  seg_sound O (by rw [hP]; kernel_rfl) (es_KindCounts_j11 K k) (lpOk_of (en := en_s_KindCounts K k) (S := hasK su_s_KindCounts) (fun i => hasK_lk (sg_s_KindCounts K k) i) _ (by rw [show partsOf (hasK su_s_KindCounts) c_s_KindCounts_J11 = [(false, c_s_KindCounts_J13)] from by kernel_rfl]; exact (lpL_seg (f := mkSeg lv_s_KindCounts_J13 lv_s_KindCounts_N13 (gs_KindCounts_j13 K k)) (by kernel_rfl) (ss_KindCounts_j13 K C hP O k) trivial)))
theorem es_KindCounts_j6 {R : Type} (K : Nat) (k : Nat) (x : den lv_s_KindCounts_J6.ty) (kn : den lv_s_KindCounts_N6.ty → Option R) (kx : Nat → St → Option R) (kr : St → Option R) : gs_KindCounts_j6 K k x kn kx kr = evC (cf_s_KindCounts K) (en_s_KindCounts K k) c_s_KindCounts_J6 (mkSt lv_s_KindCounts_J6 x) (cutK lv_s_KindCounts_N6 kn) kx kr := by kernel_rfl
theorem ss_KindCounts_j6 {R : Type} (K : Nat) (C : Cx) (hP : C.P = Try.prog) (O : CfgOk C (cf_s_KindCounts K)) (k : Nat) : SgS C (R := R) (mkSeg lv_s_KindCounts_J6 lv_s_KindCounts_N6 (gs_KindCounts_j6 K k)) c_s_KindCounts_J6 :=
  seg_sound O (by rw [hP]; kernel_rfl) (es_KindCounts_j6 K k) (lpOk_of (en := en_s_KindCounts K k) (S := hasK su_s_KindCounts) (fun i => hasK_lk (sg_s_KindCounts K k) i) _ (by rw [show partsOf (hasK su_s_KindCounts) c_s_KindCounts_J6 = [] from by kernel_rfl]; exact trivial))
theorem es_KindCounts_l5 {R : Type} (K : Nat) (k : Nat) (x : den lv_s_KindCounts_L5.ty) (kx : Nat → St → Option R) (kr : St → Option R) : gs_KindCounts_l5 K (k + 1) x kx kr = evC (cf_s_KindCounts K) (en_s_KindCounts K k) c_s_KindCounts_L5 (mkSt lv_s_KindCounts_L5 x) (fun s => mkLoop lv_s_KindCounts_L5 (gs_KindCounts_l5 K k) s kx kr) kx kr := by kernel_rfl
theorem ss_KindCounts_l5 {R : Type} (K : Nat) (C : Cx) (hP : C.P = Try.prog) (O : CfgOk C (cf_s_KindCounts K)) (k : Nat) : LpS C (R := R) (mkLoop lv_s_KindCounts_L5 (gs_KindCounts_l5 K k)) c_s_KindCounts_L5 :=
  loop_sound O (by rw [hP]; kernel_rfl) (fun x kx kr => rfl) (es_KindCounts_l5 K) (fun k => lpOk_of (en := en_s_KindCounts K k) (S := hasK su_s_KindCounts) (fun i => hasK_lk (sg_s_KindCounts K k) i) _ (by rw [show partsOf (hasK su_s_KindCounts) c_s_KindCounts_L5 = [(false, c_s_KindCounts_J11), (false, c_s_KindCounts_J6)] from by kernel_rfl]; exact (lpL_seg (f := mkSeg lv_s_KindCounts_J11 lv_s_KindCounts_N11 (gs_KindCounts_j11 K k)) (by kernel_rfl) (ss_KindCounts_j11 K C hP O k) (lpL_seg (f := mkSeg lv_s_KindCounts_J6 lv_s_KindCounts_N6 (gs_KindCounts_j6 K k)) (by kernel_rfl) (ss_KindCounts_j6 K C hP O k) trivial)))) k
theorem e_s_KindCounts (K : Nat) (x : den as_s_KindCounts) : s_KindCounts K x = evFn (cf_s_KindCounts K) as_s_KindCounts [false] (.tup (.pair (.sl (.int .i64)) (.pair (.int .i64) .unit))) (en_s_KindCounts K K) Try.f15.results.toList (bodyOf Try.f15) x := by kernel_rfl
theorem ok_s_KindCounts (K : Nat) : FnOk Try.prog 15 (sp_s_KindCounts (s_KindCounts K)) :=
  fn_ok (cf := cf_s_KindCounts K) (en := en_s_KindCounts K K) (c := bodyOf Try.f15) Try.func15 (by kernel_rfl) (by kernel_rfl) tysOk (fns_ok (l := [(52, sp_s_l01In (s_l01In K)), (53, sp_s_l01All (s_l01All K)), (54, sp_s_l10Idem (s_l10Idem K)), (55, sp_s_l10Symmetric (s_l10Symmetric K)), (56, sp_s_l10Near (s_l10Near K))]) ⟨ok_s_l01In K, ⟨ok_s_l01All K, ⟨ok_s_l10Idem K, ⟨ok_s_l10Symmetric K, ⟨ok_s_l10Near K, trivial⟩⟩⟩⟩⟩) (shs_ok (l := []) trivial) (by kernel_rfl) rfl (Nat.le_of_ble_eq_true (by kernel_rfl)) (by kernel_rfl) (of_decide_eq_true (by kernel_rfl)) (by decide) (fun C hP O => lpOk_of (en := en_s_KindCounts K K) (S := hasK su_s_KindCounts) (fun i => hasK_lk (sg_s_KindCounts K K) i) _ (by rw [show partsOf (hasK su_s_KindCounts) (bodyOf Try.f15) = [(true, c_s_KindCounts_L5)] from by kernel_rfl]; exact (lpL_loop (f := mkLoop lv_s_KindCounts_L5 (gs_KindCounts_l5 K K)) (by kernel_rfl) (ss_KindCounts_l5 K C hP O K) trivial))) (fun x y h => by rw [← e_s_KindCounts]; exact h)
noncomputable def as_w_eqInt64S : Ty := (.pair (.sl (.int .i64)) (.pair (.sl (.int .i64)) .unit))
noncomputable def sp_w_eqInt64S (F : ((List Int) × (List Int) × Unit) → Option Bool) : FnSpec := ⟨as_w_eqInt64S, [false, false], .bool, F⟩
noncomputable def w_eqInt64S_l4 {R : Type} (K : Nat) : Nat → (List Int) → (List Int) → Int → (Option R) → (Bool → Option R) → Option R
  | 0, _, _, _, _, _ => none
  | k + 1, v0, v1, v5, kx0, kr =>
    (if (decide (v5 < (v0.length : Int))) = true then
    (if (bnds v5 (v0.length : Int)) = true then
    (if (bnds v5 (v1.length : Int)) = true then
    let x1 := (!decide ((v0.getD v5.toNat (0 : Int)) = (v1.getD v5.toNat (0 : Int))))
    (if x1 = true then
    kr false
    else
    w_eqInt64S_l4 K k v0 v1 (IntKind.i64.wrap (v5 + (1 : Int))) kx0 kr)
    else
    none)
    else
    none)
    else
    kx0)
noncomputable def w_eqInt64S (K : Nat) (x : ((List Int) × (List Int) × Unit)) : Option Bool :=
    (if (!decide ((x.1.length : Int) = (x.2.1.length : Int))) = true then
    some false
    else
    w_eqInt64S_l4 K K x.1 x.2.1 (0 : Int) (some true) (fun z2 =>
    some z2))
noncomputable def lv_w_eqInt64S_L4 : Lv := [(0, (.v (.sl (.int .i64)))), (1, (.v (.sl (.int .i64)))), (5, (.v (.int .i64)))]
noncomputable def lv_w_eqInt64S_X0 : Lv := []
noncomputable def rv_w_eqInt64S : Lv := [(4, (.v .bool))]
noncomputable def gw_eqInt64S_l4 {R : Type} (K : Nat) (k : Nat) (x : den lv_w_eqInt64S_L4.ty) (kx : Nat → St → Option R) (kr : St → Option R) : Option R := w_eqInt64S_l4 K k x.1 x.2.1 x.2.2.1 (kx 0 (mkSt lv_w_eqInt64S_X0 ())) (fun z0 => kr (mkSt rv_w_eqInt64S (z0, ())))
noncomputable def sg_w_eqInt64S {R : Type} (K : Nat) (k : Nat) : List (Nat × SegS R) := []
noncomputable def su_w_eqInt64S : List (Nat × Unit) := []
noncomputable def en_w_eqInt64S {R : Type} (K : Nat) (k : Nat) : Env R := { L := lk [(4, mkLoop lv_w_eqInt64S_L4 (gw_eqInt64S_l4 K k))], X := lk [(0, lv_w_eqInt64S_X0)], S := lk (sg_w_eqInt64S K k), rv := rv_w_eqInt64S }
noncomputable def cf_w_eqInt64S (K : Nat) : Cfg := { ty := lk tys, fn := lk [], fs := lk [], prot := 0, nt := Try.f17.ntmps }
noncomputable def c_w_eqInt64S_L4 : Code := nthC (partsOf (hasK su_w_eqInt64S) (bodyOf Try.f17)) 0
theorem ew_eqInt64S_l4 {R : Type} (K : Nat) (k : Nat) (x : den lv_w_eqInt64S_L4.ty) (kx : Nat → St → Option R) (kr : St → Option R) : gw_eqInt64S_l4 K (k + 1) x kx kr = evC (cf_w_eqInt64S K) (en_w_eqInt64S K k) c_w_eqInt64S_L4 (mkSt lv_w_eqInt64S_L4 x) (fun s => mkLoop lv_w_eqInt64S_L4 (gw_eqInt64S_l4 K k) s kx kr) kx kr := by kernel_rfl
theorem sw_eqInt64S_l4 {R : Type} (K : Nat) (C : Cx) (hP : C.P = Try.prog) (O : CfgOk C (cf_w_eqInt64S K)) (k : Nat) : LpS C (R := R) (mkLoop lv_w_eqInt64S_L4 (gw_eqInt64S_l4 K k)) c_w_eqInt64S_L4 :=
  loop_sound O (by rw [hP]; kernel_rfl) (fun x kx kr => rfl) (ew_eqInt64S_l4 K) (fun k => lpOk_of (en := en_w_eqInt64S K k) (S := hasK su_w_eqInt64S) (fun i => hasK_lk (sg_w_eqInt64S K k) i) _ (by rw [show partsOf (hasK su_w_eqInt64S) c_w_eqInt64S_L4 = [] from by kernel_rfl]; exact trivial)) k
theorem e_w_eqInt64S (K : Nat) (x : den as_w_eqInt64S) : w_eqInt64S K x = evFn (cf_w_eqInt64S K) as_w_eqInt64S [false, false] .bool (en_w_eqInt64S K K) Try.f17.results.toList (bodyOf Try.f17) x := by kernel_rfl
theorem ok_w_eqInt64S (K : Nat) : FnOk Try.prog 17 (sp_w_eqInt64S (w_eqInt64S K)) :=
  fn_ok (cf := cf_w_eqInt64S K) (en := en_w_eqInt64S K K) (c := bodyOf Try.f17) Try.func17 (by kernel_rfl) (by kernel_rfl) tysOk (fns_ok (l := []) trivial) (shs_ok (l := []) trivial) (by kernel_rfl) rfl (Nat.le_of_ble_eq_true (by kernel_rfl)) (by kernel_rfl) (of_decide_eq_true (by kernel_rfl)) (by decide) (fun C hP O => lpOk_of (en := en_w_eqInt64S K K) (S := hasK su_w_eqInt64S) (fun i => hasK_lk (sg_w_eqInt64S K K) i) _ (by rw [show partsOf (hasK su_w_eqInt64S) (bodyOf Try.f17) = [(true, c_w_eqInt64S_L4)] from by kernel_rfl]; exact (lpL_loop (f := mkLoop lv_w_eqInt64S_L4 (gw_eqInt64S_l4 K K)) (by kernel_rfl) (sw_eqInt64S_l4 K C hP O K) trivial))) (fun x y h => by rw [← e_w_eqInt64S]; exact h)
noncomputable def as_w_markInt64S : Ty := (.pair (.sl (.int .i64)) (.pair (.int .i64) .unit))
noncomputable def sp_w_markInt64S (F : ((List Int) × Int × Unit) → Option (Int × ((List Int) × Unit))) : FnSpec := ⟨as_w_markInt64S, [true, false], (.pair (.int .i64) (.pair (.sl (.int .i64)) .unit)), F⟩
noncomputable def w_markInt64S_l2 {R : Type} (K : Nat) : Nat → (List Int) → Int → Int → ((List Int) → Int → Option R) → Option R
  | 0, _, _, _, _ => none
  | k + 1, v0, v1, v5, kx0 =>
    (if (decide (v5 < (v0.length : Int))) = true then
    (if (bnds v5 (v0.length : Int)) = true then
    let l1 := (v0.set v5.toNat v1)
    w_markInt64S_l2 K k l1 (IntKind.i64.wrap (v1 + (1 : Int))) (IntKind.i64.wrap (v5 + (1 : Int))) kx0
    else
    none)
    else
    kx0 v0 v1)
noncomputable def w_markInt64S (K : Nat) (x : ((List Int) × Int × Unit)) : Option (Int × ((List Int) × Unit)) :=
    w_markInt64S_l2 K K x.1 x.2.1 (0 : Int) (fun z2 z3 =>
    some (z3, (z2, ())))
noncomputable def lv_w_markInt64S_L2 : Lv := [(0, (.r (.int .i64))), (1, (.v (.int .i64))), (5, (.v (.int .i64)))]
noncomputable def lv_w_markInt64S_X0 : Lv := [(0, (.r (.int .i64))), (1, (.v (.int .i64)))]
noncomputable def rv_w_markInt64S : Lv := [(0, (.r (.int .i64))), (4, (.v (.int .i64)))]
noncomputable def gw_markInt64S_l2 {R : Type} (K : Nat) (k : Nat) (x : den lv_w_markInt64S_L2.ty) (kx : Nat → St → Option R) (kr : St → Option R) : Option R := w_markInt64S_l2 K k x.1 x.2.1 x.2.2.1 (fun z0 z1 => kx 0 (mkSt lv_w_markInt64S_X0 (z0, z1, ())))
noncomputable def sg_w_markInt64S {R : Type} (K : Nat) (k : Nat) : List (Nat × SegS R) := []
noncomputable def su_w_markInt64S : List (Nat × Unit) := []
noncomputable def en_w_markInt64S {R : Type} (K : Nat) (k : Nat) : Env R := { L := lk [(2, mkLoop lv_w_markInt64S_L2 (gw_markInt64S_l2 K k))], X := lk [(0, lv_w_markInt64S_X0)], S := lk (sg_w_markInt64S K k), rv := rv_w_markInt64S }
noncomputable def cf_w_markInt64S (K : Nat) : Cfg := { ty := lk tys, fn := lk [], fs := lk [], prot := 1, nt := Try.f18.ntmps }
noncomputable def c_w_markInt64S_L2 : Code := nthC (partsOf (hasK su_w_markInt64S) (bodyOf Try.f18)) 0
theorem ew_markInt64S_l2 {R : Type} (K : Nat) (k : Nat) (x : den lv_w_markInt64S_L2.ty) (kx : Nat → St → Option R) (kr : St → Option R) : gw_markInt64S_l2 K (k + 1) x kx kr = evC (cf_w_markInt64S K) (en_w_markInt64S K k) c_w_markInt64S_L2 (mkSt lv_w_markInt64S_L2 x) (fun s => mkLoop lv_w_markInt64S_L2 (gw_markInt64S_l2 K k) s kx kr) kx kr := by kernel_rfl
theorem sw_markInt64S_l2 {R : Type} (K : Nat) (C : Cx) (hP : C.P = Try.prog) (O : CfgOk C (cf_w_markInt64S K)) (k : Nat) : LpS C (R := R) (mkLoop lv_w_markInt64S_L2 (gw_markInt64S_l2 K k)) c_w_markInt64S_L2 :=
  loop_sound O (by rw [hP]; kernel_rfl) (fun x kx kr => rfl) (ew_markInt64S_l2 K) (fun k => lpOk_of (en := en_w_markInt64S K k) (S := hasK su_w_markInt64S) (fun i => hasK_lk (sg_w_markInt64S K k) i) _ (by rw [show partsOf (hasK su_w_markInt64S) c_w_markInt64S_L2 = [] from by kernel_rfl]; exact trivial)) k
theorem e_w_markInt64S (K : Nat) (x : den as_w_markInt64S) : w_markInt64S K x = evFn (cf_w_markInt64S K) as_w_markInt64S [true, false] (.pair (.int .i64) (.pair (.sl (.int .i64)) .unit)) (en_w_markInt64S K K) Try.f18.results.toList (bodyOf Try.f18) x := by kernel_rfl
theorem ok_w_markInt64S (K : Nat) : FnOk Try.prog 18 (sp_w_markInt64S (w_markInt64S K)) :=
  fn_ok (cf := cf_w_markInt64S K) (en := en_w_markInt64S K K) (c := bodyOf Try.f18) Try.func18 (by kernel_rfl) (by kernel_rfl) tysOk (fns_ok (l := []) trivial) (shs_ok (l := []) trivial) (by kernel_rfl) rfl (Nat.le_of_ble_eq_true (by kernel_rfl)) (by kernel_rfl) (of_decide_eq_true (by kernel_rfl)) (by decide) (fun C hP O => lpOk_of (en := en_w_markInt64S K K) (S := hasK su_w_markInt64S) (fun i => hasK_lk (sg_w_markInt64S K K) i) _ (by rw [show partsOf (hasK su_w_markInt64S) (bodyOf Try.f18) = [(true, c_w_markInt64S_L2)] from by kernel_rfl]; exact (lpL_loop (f := mkLoop lv_w_markInt64S_L2 (gw_markInt64S_l2 K K)) (by kernel_rfl) (sw_markInt64S_l2 K C hP O K) trivial))) (fun x y h => by rw [← e_w_markInt64S]; exact h)
noncomputable def as_w_heldInt64S : Ty := (.pair (.sl (.int .i64)) (.pair (.int .i64) .unit))
noncomputable def sp_w_heldInt64S (F : ((List Int) × Int × Unit) → Option Int) : FnSpec := ⟨as_w_heldInt64S, [false, false], (.int .i64), F⟩
noncomputable def w_heldInt64S_l2 {R : Type} (K : Nat) : Nat → (List Int) → Int → Int → (Int → Option R) → (Int → Option R) → Option R
  | 0, _, _, _, _, _ => none
  | k + 1, v0, v1, v5, kx0, kr =>
    (if (decide (v5 < (v0.length : Int))) = true then
    (if (bnds v5 (v0.length : Int)) = true then
    (if (!decide ((v0.getD v5.toNat (0 : Int)) = v1)) = true then
    kr (-1 : Int)
    else
    w_heldInt64S_l2 K k v0 (IntKind.i64.wrap (v1 + (1 : Int))) (IntKind.i64.wrap (v5 + (1 : Int))) kx0 kr)
    else
    none)
    else
    kx0 v1)
noncomputable def w_heldInt64S (K : Nat) (x : ((List Int) × Int × Unit)) : Option Int :=
    w_heldInt64S_l2 K K x.1 x.2.1 (0 : Int) (fun z1 =>
    some z1) (fun z2 =>
    some z2)
noncomputable def lv_w_heldInt64S_L2 : Lv := [(0, (.v (.sl (.int .i64)))), (1, (.v (.int .i64))), (5, (.v (.int .i64)))]
noncomputable def lv_w_heldInt64S_X0 : Lv := [(1, (.v (.int .i64)))]
noncomputable def rv_w_heldInt64S : Lv := [(4, (.v (.int .i64)))]
noncomputable def gw_heldInt64S_l2 {R : Type} (K : Nat) (k : Nat) (x : den lv_w_heldInt64S_L2.ty) (kx : Nat → St → Option R) (kr : St → Option R) : Option R := w_heldInt64S_l2 K k x.1 x.2.1 x.2.2.1 (fun z0 => kx 0 (mkSt lv_w_heldInt64S_X0 (z0, ()))) (fun z0 => kr (mkSt rv_w_heldInt64S (z0, ())))
noncomputable def sg_w_heldInt64S {R : Type} (K : Nat) (k : Nat) : List (Nat × SegS R) := []
noncomputable def su_w_heldInt64S : List (Nat × Unit) := []
noncomputable def en_w_heldInt64S {R : Type} (K : Nat) (k : Nat) : Env R := { L := lk [(2, mkLoop lv_w_heldInt64S_L2 (gw_heldInt64S_l2 K k))], X := lk [(0, lv_w_heldInt64S_X0)], S := lk (sg_w_heldInt64S K k), rv := rv_w_heldInt64S }
noncomputable def cf_w_heldInt64S (K : Nat) : Cfg := { ty := lk tys, fn := lk [], fs := lk [], prot := 0, nt := Try.f19.ntmps }
noncomputable def c_w_heldInt64S_L2 : Code := nthC (partsOf (hasK su_w_heldInt64S) (bodyOf Try.f19)) 0
theorem ew_heldInt64S_l2 {R : Type} (K : Nat) (k : Nat) (x : den lv_w_heldInt64S_L2.ty) (kx : Nat → St → Option R) (kr : St → Option R) : gw_heldInt64S_l2 K (k + 1) x kx kr = evC (cf_w_heldInt64S K) (en_w_heldInt64S K k) c_w_heldInt64S_L2 (mkSt lv_w_heldInt64S_L2 x) (fun s => mkLoop lv_w_heldInt64S_L2 (gw_heldInt64S_l2 K k) s kx kr) kx kr := by kernel_rfl
theorem sw_heldInt64S_l2 {R : Type} (K : Nat) (C : Cx) (hP : C.P = Try.prog) (O : CfgOk C (cf_w_heldInt64S K)) (k : Nat) : LpS C (R := R) (mkLoop lv_w_heldInt64S_L2 (gw_heldInt64S_l2 K k)) c_w_heldInt64S_L2 :=
  loop_sound O (by rw [hP]; kernel_rfl) (fun x kx kr => rfl) (ew_heldInt64S_l2 K) (fun k => lpOk_of (en := en_w_heldInt64S K k) (S := hasK su_w_heldInt64S) (fun i => hasK_lk (sg_w_heldInt64S K k) i) _ (by rw [show partsOf (hasK su_w_heldInt64S) c_w_heldInt64S_L2 = [] from by kernel_rfl]; exact trivial)) k
theorem e_w_heldInt64S (K : Nat) (x : den as_w_heldInt64S) : w_heldInt64S K x = evFn (cf_w_heldInt64S K) as_w_heldInt64S [false, false] (.int .i64) (en_w_heldInt64S K K) Try.f19.results.toList (bodyOf Try.f19) x := by kernel_rfl
theorem ok_w_heldInt64S (K : Nat) : FnOk Try.prog 19 (sp_w_heldInt64S (w_heldInt64S K)) :=
  fn_ok (cf := cf_w_heldInt64S K) (en := en_w_heldInt64S K K) (c := bodyOf Try.f19) Try.func19 (by kernel_rfl) (by kernel_rfl) tysOk (fns_ok (l := []) trivial) (shs_ok (l := []) trivial) (by kernel_rfl) rfl (Nat.le_of_ble_eq_true (by kernel_rfl)) (by kernel_rfl) (of_decide_eq_true (by kernel_rfl)) (by decide) (fun C hP O => lpOk_of (en := en_w_heldInt64S K K) (S := hasK su_w_heldInt64S) (fun i => hasK_lk (sg_w_heldInt64S K K) i) _ (by rw [show partsOf (hasK su_w_heldInt64S) (bodyOf Try.f19) = [(true, c_w_heldInt64S_L2)] from by kernel_rfl]; exact (lpL_loop (f := mkLoop lv_w_heldInt64S_L2 (gw_heldInt64S_l2 K K)) (by kernel_rfl) (sw_heldInt64S_l2 K C hP O K) trivial))) (fun x y h => by rw [← e_w_heldInt64S]; exact h)
noncomputable def as_w_FnExactKindCounts : Ty := (.pair (.int .i64) .unit)
noncomputable def sp_w_FnExactKindCounts (F : (Int × Unit) → Option Bool) : FnSpec := ⟨as_w_FnExactKindCounts, [false], .bool, F⟩
noncomputable def w_FnExactKindCounts_j16 {R : Type} (K : Nat) (k : Nat) (v5 : (List Int)) (v7 : Int) (kn : Option R) (kr : (Bool → Option R)) : Option R :=
    (w_heldInt64S K (v5, (1 : Int), ())).bind fun y8 =>
    (if (decide (y8 < (0 : Int))) = true then
    kr false
    else
    (if (!decide (y8 = v7)) = true then
    kr false
    else
    kr true))
noncomputable def w_FnExactKindCounts_j5 {R : Type} (K : Nat) (k : Nat) (v0 : Int) (v3 : (List Int)) (v4 : Int) (v5 : (List Int)) (kn : Option R) (kr : (Bool → Option R)) : Option R :=
    (w_markInt64S K (v5, (1 : Int), ())).bind fun y4 =>
    (w_heldInt64S K (y4.2.1, (1 : Int), ())).bind fun y5 =>
    (if (decide (y5 < (0 : Int))) = true then
    kr false
    else
    (if (!decide (y5 = y4.1)) = true then
    kr false
    else
    (i_KindCounts K (v0, ())).bind fun y6 =>
    (w_eqInt64S K (y6.1, v3, ())).bind fun y7 =>
    (if (!y7) = true then
    kr false
    else
    (if (!decide (y6.2.1 = v4)) = true then
    kr false
    else
    w_FnExactKindCounts_j16 K k y4.2.1 y4.1 none (fun z9 =>
    kr z9)))))
noncomputable def w_FnExactKindCounts (K : Nat) (x : (Int × Unit)) : Option Bool :=
    (s_KindCounts K (x.1, ())).bind fun y1 =>
    (i_KindCounts K (x.1, ())).bind fun y2 =>
    (w_eqInt64S K (y2.1, y1.1, ())).bind fun y3 =>
    (if (!y3) = true then
    some false
    else
    (if (!decide (y2.2.1 = y1.2.1)) = true then
    some false
    else
    w_FnExactKindCounts_j5 K K x.1 y1.1 y1.2.1 y2.1 none (fun z10 =>
    some z10)))
noncomputable def lv_w_FnExactKindCounts_J5 : Lv := [(0, (.v (.int .i64))), (3, (.r (.int .i64))), (4, (.v (.int .i64))), (5, (.r (.int .i64)))]
noncomputable def lv_w_FnExactKindCounts_J16 : Lv := [(5, (.r (.int .i64))), (7, (.v (.int .i64)))]
noncomputable def lv_w_FnExactKindCounts_N5 : Lv := []
noncomputable def lv_w_FnExactKindCounts_N16 : Lv := []
noncomputable def rv_w_FnExactKindCounts : Lv := [(2, (.v .bool))]
noncomputable def gw_FnExactKindCounts_j16 {R : Type} (K : Nat) (k : Nat) (x : den lv_w_FnExactKindCounts_J16.ty) (kn : den lv_w_FnExactKindCounts_N16.ty → Option R) (kx : Nat → St → Option R) (kr : St → Option R) : Option R := w_FnExactKindCounts_j16 K k x.1 x.2.1 (kn ()) (fun z0 => kr (mkSt rv_w_FnExactKindCounts (z0, ())))
noncomputable def gw_FnExactKindCounts_j5 {R : Type} (K : Nat) (k : Nat) (x : den lv_w_FnExactKindCounts_J5.ty) (kn : den lv_w_FnExactKindCounts_N5.ty → Option R) (kx : Nat → St → Option R) (kr : St → Option R) : Option R := w_FnExactKindCounts_j5 K k x.1 x.2.1 x.2.2.1 x.2.2.2.1 (kn ()) (fun z0 => kr (mkSt rv_w_FnExactKindCounts (z0, ())))
noncomputable def sg_w_FnExactKindCounts {R : Type} (K : Nat) (k : Nat) : List (Nat × SegS R) := [(16, mkSeg lv_w_FnExactKindCounts_J16 lv_w_FnExactKindCounts_N16 (gw_FnExactKindCounts_j16 K k)), (5, mkSeg lv_w_FnExactKindCounts_J5 lv_w_FnExactKindCounts_N5 (gw_FnExactKindCounts_j5 K k))]
noncomputable def su_w_FnExactKindCounts : List (Nat × Unit) := [(16, ()), (5, ())]
noncomputable def en_w_FnExactKindCounts {R : Type} (K : Nat) (k : Nat) : Env R := { L := lk [], X := lk [], S := lk (sg_w_FnExactKindCounts K k), rv := rv_w_FnExactKindCounts }
noncomputable def cf_w_FnExactKindCounts (K : Nat) : Cfg := { ty := lk tys, fn := lk [(15, sp_s_KindCounts (s_KindCounts K)), (16, sp_i_KindCounts (i_KindCounts K)), (17, sp_w_eqInt64S (w_eqInt64S K)), (18, sp_w_markInt64S (w_markInt64S K)), (19, sp_w_heldInt64S (w_heldInt64S K))], fs := lk [], prot := 0, nt := Try.f3.ntmps }
noncomputable def c_w_FnExactKindCounts_J5 : Code := nthC (partsOf (hasK su_w_FnExactKindCounts) (bodyOf Try.f3)) 0
noncomputable def c_w_FnExactKindCounts_J16 : Code := nthC (partsOf (hasK su_w_FnExactKindCounts) c_w_FnExactKindCounts_J5) 0
theorem ew_FnExactKindCounts_j16 {R : Type} (K : Nat) (k : Nat) (x : den lv_w_FnExactKindCounts_J16.ty) (kn : den lv_w_FnExactKindCounts_N16.ty → Option R) (kx : Nat → St → Option R) (kr : St → Option R) : gw_FnExactKindCounts_j16 K k x kn kx kr = evC (cf_w_FnExactKindCounts K) (en_w_FnExactKindCounts K k) c_w_FnExactKindCounts_J16 (mkSt lv_w_FnExactKindCounts_J16 x) (cutK lv_w_FnExactKindCounts_N16 kn) kx kr := by kernel_rfl
theorem sw_FnExactKindCounts_j16 {R : Type} (K : Nat) (C : Cx) (hP : C.P = Try.prog) (O : CfgOk C (cf_w_FnExactKindCounts K)) (k : Nat) : SgS C (R := R) (mkSeg lv_w_FnExactKindCounts_J16 lv_w_FnExactKindCounts_N16 (gw_FnExactKindCounts_j16 K k)) c_w_FnExactKindCounts_J16 :=
  seg_sound O (by rw [hP]; kernel_rfl) (ew_FnExactKindCounts_j16 K k) (lpOk_of (en := en_w_FnExactKindCounts K k) (S := hasK su_w_FnExactKindCounts) (fun i => hasK_lk (sg_w_FnExactKindCounts K k) i) _ (by rw [show partsOf (hasK su_w_FnExactKindCounts) c_w_FnExactKindCounts_J16 = [] from by kernel_rfl]; exact trivial))
theorem ew_FnExactKindCounts_j5 {R : Type} (K : Nat) (k : Nat) (x : den lv_w_FnExactKindCounts_J5.ty) (kn : den lv_w_FnExactKindCounts_N5.ty → Option R) (kx : Nat → St → Option R) (kr : St → Option R) : gw_FnExactKindCounts_j5 K k x kn kx kr = evC (cf_w_FnExactKindCounts K) (en_w_FnExactKindCounts K k) c_w_FnExactKindCounts_J5 (mkSt lv_w_FnExactKindCounts_J5 x) (cutK lv_w_FnExactKindCounts_N5 kn) kx kr := by kernel_rfl
theorem sw_FnExactKindCounts_j5 {R : Type} (K : Nat) (C : Cx) (hP : C.P = Try.prog) (O : CfgOk C (cf_w_FnExactKindCounts K)) (k : Nat) : SgS C (R := R) (mkSeg lv_w_FnExactKindCounts_J5 lv_w_FnExactKindCounts_N5 (gw_FnExactKindCounts_j5 K k)) c_w_FnExactKindCounts_J5 :=
  seg_sound O (by rw [hP]; kernel_rfl) (ew_FnExactKindCounts_j5 K k) (lpOk_of (en := en_w_FnExactKindCounts K k) (S := hasK su_w_FnExactKindCounts) (fun i => hasK_lk (sg_w_FnExactKindCounts K k) i) _ (by rw [show partsOf (hasK su_w_FnExactKindCounts) c_w_FnExactKindCounts_J5 = [(false, c_w_FnExactKindCounts_J16)] from by kernel_rfl]; exact (lpL_seg (f := mkSeg lv_w_FnExactKindCounts_J16 lv_w_FnExactKindCounts_N16 (gw_FnExactKindCounts_j16 K k)) (by kernel_rfl) (sw_FnExactKindCounts_j16 K C hP O k) trivial)))
theorem e_w_FnExactKindCounts (K : Nat) (x : den as_w_FnExactKindCounts) : w_FnExactKindCounts K x = evFn (cf_w_FnExactKindCounts K) as_w_FnExactKindCounts [false] .bool (en_w_FnExactKindCounts K K) Try.f3.results.toList (bodyOf Try.f3) x := by kernel_rfl
theorem ok_w_FnExactKindCounts (K : Nat) : FnOk Try.prog 3 (sp_w_FnExactKindCounts (w_FnExactKindCounts K)) :=
  fn_ok (cf := cf_w_FnExactKindCounts K) (en := en_w_FnExactKindCounts K K) (c := bodyOf Try.f3) Try.func3 (by kernel_rfl) (by kernel_rfl) tysOk (fns_ok (l := [(15, sp_s_KindCounts (s_KindCounts K)), (16, sp_i_KindCounts (i_KindCounts K)), (17, sp_w_eqInt64S (w_eqInt64S K)), (18, sp_w_markInt64S (w_markInt64S K)), (19, sp_w_heldInt64S (w_heldInt64S K))]) ⟨ok_s_KindCounts K, ⟨ok_i_KindCounts K, ⟨ok_w_eqInt64S K, ⟨ok_w_markInt64S K, ⟨ok_w_heldInt64S K, trivial⟩⟩⟩⟩⟩) (shs_ok (l := []) trivial) (by kernel_rfl) rfl (Nat.le_of_ble_eq_true (by kernel_rfl)) (by kernel_rfl) (of_decide_eq_true (by kernel_rfl)) (by decide) (fun C hP O => lpOk_of (en := en_w_FnExactKindCounts K K) (S := hasK su_w_FnExactKindCounts) (fun i => hasK_lk (sg_w_FnExactKindCounts K K) i) _ (by rw [show partsOf (hasK su_w_FnExactKindCounts) (bodyOf Try.f3) = [(false, c_w_FnExactKindCounts_J5)] from by kernel_rfl]; exact (lpL_seg (f := mkSeg lv_w_FnExactKindCounts_J5 lv_w_FnExactKindCounts_N5 (gw_FnExactKindCounts_j5 K K)) (by kernel_rfl) (sw_FnExactKindCounts_j5 K C hP O K) trivial))) (fun x y h => by rw [← e_w_FnExactKindCounts]; exact h)
end Go.Proofs.Ytieiajeggahipaa.E
namespace Go.Proofs.Ytieiajeggahipaa.E
open Go Go.Proofs
set_option linter.unusedVariables false
set_option linter.unusedSimpArgs false
variable {K : Nat} {R : Type}
theorem w64 {x : Int} (h1 : -9223372036854775808 ≤ x) (h2 : x < 9223372036854775808) : IntKind.i64.wrap x = x := by
  simp only [IntKind.wrap, IntKind.bits, IntKind.signed, Bool.true_and]
  simp only [show (2 : Int) ^ 64 = 18446744073709551616 from rfl, show (2 : Int) ^ (64 - 1) = 9223372036854775808 from rfl]
  split <;> rename_i h <;> simp only [decide_eq_true_eq] at h <;> omega
theorem w64n {n : Nat} (h : n < 9223372036854775808) : IntKind.i64.wrap (n : Int) = (n : Int) := w64 (by omega) (by omega)
theorem w64s {n : Nat} (h : n + 1 < 9223372036854775808) : IntKind.i64.wrap ((n : Int) + 1) = ((n + 1 : Nat) : Int) := by rw [w64 (by omega) (by omega)]; rfl
theorem w64m1 {n : Nat} (h : n < 9223372036854775808) : IntKind.i64.wrap ((n : Int) - 1) = (n : Int) - 1 := w64 (by omega) (by omega)
theorem u64n {n : Nat} (h : n < 18446744073709551616) : IntKind.u64.wrap (n : Int) = (n : Int) := by
  simp only [IntKind.wrap, IntKind.bits, IntKind.signed, Bool.false_and, Bool.false_eq_true, if_false]
  simp only [show (2 : Int) ^ 64 = 18446744073709551616 from rfl]
  omega
theorem u64_ge (x : Int) : 0 ≤ IntKind.u64.wrap x := by
  simp only [IntKind.wrap, IntKind.bits, IntKind.signed, Bool.false_and, Bool.false_eq_true, if_false]
  exact Int.emod_nonneg _ (by decide)
theorem u64_dec (x : Int) : decide ((0 : Int) ≤ IntKind.u64.wrap x) = true := decide_eq_true (u64_ge x)
theorem bnds_t {i n : Int} (h0 : 0 ≤ i) (h : i < n) : bnds i n = true := by simp [bnds, h0, h]
theorem bnds_n {i n : Nat} (h : i < n) : bnds (i : Int) (n : Int) = true := bnds_t (by omega) (by omega)
theorem nn (n : Nat) : decide ((0 : Int) ≤ (n : Int)) = true := decide_eq_true (by omega)
theorem emod2n (x : Nat) : ((x : Int) % 18446744073709551616).toNat = x % 18446744073709551616 := by omega
theorem bitI_and {a b : Nat} (ha : a < 9223372036854775808) (hb : b < 9223372036854775808) : bitI .and .i64 (a : Int) (b : Int) = ((a &&& b : Nat) : Int) := by
  have h : a &&& b ≤ a := Nat.and_le_left
  show IntKind.i64.wrap (((BitVec.ofInt 64 (a : Int) &&& BitVec.ofInt 64 (b : Int) : BitVec 64).toNat : Nat) : Int) = _
  simp only [BitVec.toNat_and, BitVec.toNat_ofInt]
  simp only [show ((2 ^ 64 : Nat) : Int) = 18446744073709551616 from rfl, emod2n]
  rw [Nat.mod_eq_of_lt (by omega), Nat.mod_eq_of_lt (by omega), w64n (by omega)]
theorem shrI_n (a j : Nat) (ha : a < 9223372036854775808) : shrI .i64 (a : Int) (j : Int) = ((a >>> j : Nat) : Int) := by
  simp only [shrI, IntKind.bits, Int.toNat_natCast, Nat.shiftRight_eq_div_pow]
  have : (2 : Int) ^ min j 64 = ((2 ^ min j 64 : Nat) : Int) := by simp
  rw [this, Int.fdiv_eq_ediv_of_nonneg _ (Int.natCast_nonneg _), ← Int.natCast_ediv]
  by_cases h : j ≤ 64
  · rw [Nat.min_eq_left h]
  · rw [Nat.min_eq_right (by omega), Nat.div_eq_of_lt (by omega), Nat.div_eq_of_lt]
    exact Nat.lt_of_lt_of_le ha (Nat.le_trans (show 9223372036854775808 ≤ 2 ^ 64 by decide) (Nat.pow_le_pow_right (by decide) (by omega)))
theorem shlI_n (a j : Nat) (h : a * 2 ^ j < 9223372036854775808) : shlI .i64 (a : Int) (j : Int) = ((a * 2 ^ j : Nat) : Int) := by
  simp only [shlI, IntKind.bits, Int.toNat_natCast]
  by_cases hj : j ≤ 64
  · rw [Nat.min_eq_left hj, ← w64n h]; congr 1
  · have ha : a = 0 := by
      rcases Nat.eq_zero_or_pos a with h0 | h0
      · exact h0
      · have := Nat.mul_le_mul_right (2 ^ j) h0
        have h2 : 2 ^ 64 ≤ 2 ^ j := Nat.pow_le_pow_right (by decide) (by omega)
        have : (18446744073709551616 : Nat) ≤ 2 ^ j := h2
        omega
    subst ha
    have := w64n (n := 0) (by decide)
    simpa using this
theorem pw_pos (j : Nat) : 0 < 2 ^ j := Nat.two_pow_pos j
theorem shl1 {j : Nat} (h : j < 63) : shlI .i64 (1 : Int) (j : Int) = ((2 ^ j : Nat) : Int) := by
  have h2 : 2 ^ j < 2 ^ 63 := Nat.pow_lt_pow_right (by decide) h
  have := shlI_n 1 j (by simpa using h2)
  simpa using this
/-- A digit of a number. -/
def bt (b j : Nat) : Int := if b.testBit j then 1 else 0
theorem bt_eq (b j : Nat) : bt b j = (((b >>> j) &&& 1 : Nat) : Int) := by
  unfold bt
  rw [Nat.and_one_is_mod, Nat.shiftRight_eq_div_pow]
  have := Nat.testBit_eq_decide_div_mod_eq (x := b) (i := j)
  rw [this]
  have h2 := Nat.mod_lt (b / 2 ^ j) (show 0 < 2 by decide)
  split <;> rename_i h <;> simp only [decide_eq_true_eq] at h <;> omega
theorem bt_01 (b j : Nat) : bt b j = 0 ∨ bt b j = 1 := by unfold bt; split <;> simp
theorem bitI_bt {b : Nat} (j : Nat) (hb : b < 9223372036854775808) : bitI .and .i64 (shrI .i64 (b : Int) (j : Int)) (1 : Int) = bt b j := by
  rw [shrI_n b j hb, show (1 : Int) = ((1 : Nat) : Int) from rfl, bitI_and ?_ (by decide), bt_eq]
  rw [Nat.shiftRight_eq_div_pow]; exact Nat.lt_of_le_of_lt (Nat.div_le_self _ _) hb
theorem getD_mid {α : Type} (p r : List α) (y d : α) : (p ++ y :: r).getD p.length d = y := by
  simp [List.getD]
theorem getD_midI {α : Type} (p r : List α) (y d : α) : (p ++ y :: r).getD ((p.length : Int)).toNat d = y := by
  rw [Int.toNat_natCast]; exact getD_mid p r y d
theorem set_mid {α : Type} (p r : List α) (y z : α) : (p ++ y :: r).set p.length z = p ++ z :: r := by
  simp
theorem set_midI {α : Type} (p r : List α) (y z : α) : (p ++ y :: r).set ((p.length : Int)).toNat z = p ++ z :: r := by
  rw [Int.toNat_natCast]; exact set_mid p r y z
theorem len_mid {α : Type} (p r : List α) (y : α) : p.length < (p ++ y :: r).length := by simp
theorem mid_app {α : Type} (p r : List α) (y : α) : p ++ y :: r = (p ++ [y]) ++ r := by simp
theorem snoc_len {α : Type} (p : List α) (y : α) : (p ++ [y]).length = p.length + 1 := by simp
theorem ite_t {c : Bool} {α : Type} {a b : α} (h : c = true) : (if c = true then a else b) = a := if_pos h
theorem ite_f {c : Bool} {α : Type} {a b : α} (h : c = false) : (if c = true then a else b) = b := if_neg (by rw [h]; decide)
theorem some_bind' {α β : Type} (a : α) (f : α → Option β) : (some a).bind f = f a := rfl
abbrev DF := Int × Int × Unit
theorem i_within_eq (a b c : Int) : i_within K (a, b, c, ()) = some (decide (b ≤ a) && decide (a ≤ c)) := by
  simp only [i_within]
  by_cases h : b ≤ a
  · rw [if_pos (decide_eq_true h)]; simp [h]
  · rw [if_neg (by simpa using h)]; simp [h]
theorem s_l01In_eq (a b c : Int) : s_l01In K (a, b, c, ()) = some (decide (b ≤ a) && decide (a ≤ c)) := by
  simp only [s_l01In]
  by_cases h : b ≤ a
  · rw [if_pos (decide_eq_true h)]; simp [h]
  · rw [if_neg (by simpa using h)]; simp [h]
theorem i_one_eq (b : Bool) : i_one K (b, ()) = some (if b then 1 else 0) := by cases b <;> rfl
theorem i_rowsOf_eq {n : Nat} (h : n < 63) : i_rowsOf K ((n : Int), ()) = some ((2 ^ n : Nat) : Int) := by
  simp only [i_rowsOf]; rw [if_pos (nn n), shl1 h]
theorem s_l01Rows_eq {n : Nat} (h : n < 63) : s_l01Rows K ((n : Int), ()) = some ((2 ^ n : Nat) : Int) := by
  simp only [s_l01Rows]; rw [if_pos (u64_dec _), u64n (by omega), shl1 h]
theorem i_Func_rows_eq {n : Nat} (b : Int) (h : n < 63) : i_Func_rows K (((n : Int), b, ()), ()) = some ((2 ^ n : Nat) : Int) := by
  simp only [i_Func_rows, i_rowsOf_eq h]; rfl
theorem pw4 {n : Nat} (h : n ≤ 4) : 2 ^ n ≤ 16 := Nat.pow_le_pow_right (by decide) h
theorem ppw4 {n : Nat} (h : n ≤ 4) : 2 ^ 2 ^ n ≤ 65536 := Nat.pow_le_pow_right (by decide) (pw4 h)
theorem i_funcsOf_eq {n : Nat} (h : n ≤ 4) : i_funcsOf K ((n : Int), ()) = some ((2 ^ 2 ^ n : Nat) : Int) := by
  have h4 := pw4 h
  simp only [i_funcsOf, i_rowsOf_eq (show n < 63 by omega), some_bind']
  rw [if_pos (nn _), shl1 (by omega)]
theorem s_l01All_eq {n : Nat} (h : n ≤ 4) : s_l01All K ((n : Int), ()) = some ((2 ^ 2 ^ n : Nat) - 1 : Int) := by
  have h4 := pw4 h
  have h5 := ppw4 h
  simp only [s_l01All, s_l01Rows_eq (show n < 63 by omega), some_bind']
  rw [if_pos (u64_dec _), u64n (by omega), shl1 (by omega), w64m1 (by omega)]
theorem and_dec {a b : Prop} [Decidable a] [Decidable b] : ((decide a && decide b) = true) ↔ (a ∧ b) := by simp
theorem i_bit_eq {b : Nat} (j : Nat) (h : b < 9223372036854775808) : i_bit K ((b : Int), (j : Int), ()) = some (bt b j) := by
  simp only [i_bit]; rw [if_pos (nn j), bitI_bt j h]
theorem i_Func_at_eq {n : Int} {b : Nat} (j : Nat) (h : b < 9223372036854775808) : i_Func_at K ((n, (b : Int), ()), (j : Int), ()) = some (bt b j) := by
  simp only [i_Func_at, i_bit_eq j h]; rfl
theorem s_l01At_eq {n : Int} {b j : Nat} (h : b < 9223372036854775808) (hj : j < 9223372036854775808) : s_l01At K ((n, (b : Int), ()), (j : Int), ()) = some (bt b j) := by
  simp only [s_l01At]; rw [if_pos (u64_dec _), u64n (by omega), bitI_bt j h]
theorem bt_dec (b j : Nat) : decide (bt b j = 1) = b.testBit j := by unfold bt; cases b.testBit j <;> rfl
theorem bt_dec0 (b j : Nat) : decide (bt b j = 0) = !b.testBit j := by unfold bt; cases b.testBit j <;> rfl
theorem lt_len {α : Type} {p r : List α} {y : α} : decide ((p.length : Int) < ((p ++ y :: r).length : Int)) = true := decide_eq_true (by simp; omega)
theorem nlt_len {α : Type} {p : List α} : decide ((p.length : Int) < ((p ++ []).length : Int)) = false := decide_eq_false (by simp)
theorem bnds_mid {α : Type} {p r : List α} {y : α} : bnds (p.length : Int) ((p ++ y :: r).length : Int) = true := bnds_n (len_mid p r y)
theorem next_i {α : Type} {p r : List α} {y : α} (h : (p ++ y :: r).length < 4611686018427387904) : IntKind.i64.wrap ((p.length : Int) + 1) = (((p ++ [y]).length : Nat) : Int) := by
  rw [snoc_len]; refine w64s ?_
  have := len_mid p r y; omega
theorem eqI_l (l : List Int) (hl : l.length < 4611686018427387904) (kx : Option R) (kr : Bool → Option R) : ∀ (r p : List Int) (k : Nat), l = p ++ r → r.length < k → w_eqInt64S_l4 K k l l (p.length : Int) kx kr = kx
  | [], p, k + 1, h, _ => by subst h; simp only [w_eqInt64S_l4]; rw [ite_f nlt_len]
  | y :: r, p, k + 1, h, hk => by
    subst h
    simp only [w_eqInt64S_l4]
    rw [ite_t lt_len, ite_t bnds_mid, ite_t bnds_mid, ite_f (by simp), next_i hl]
    exact eqI_l _ hl kx kr r (p ++ [y]) k (mid_app p r y) (by simp at hk; omega)
theorem w_eqInt64S_refl {l : List Int} (hl : l.length < 4611686018427387904) (hK : 4611686018427387904 ≤ K) : w_eqInt64S K (l, l, ()) = some true := by
  simp only [w_eqInt64S]
  rw [ite_f (by simp)]
  exact eqI_l l hl _ _ l [] K rfl (by omega)
/-- v, v + 1, .. -/
def seqI : Int → Nat → List Int
  | _, 0 => []
  | v, n + 1 => v :: seqI (v + 1) n
theorem seqI_len : ∀ (n : Nat) (v : Int), (seqI v n).length = n
  | 0, _ => rfl
  | n + 1, v => by simp [seqI, seqI_len n]
theorem markI_l (kx : List Int → Int → Option R) : ∀ (r p : List Int) (k : Nat) (v : Int), (p ++ r).length < 4611686018427387904 → r.length < k → 0 ≤ v → v + r.length < 4611686018427387904 → w_markInt64S_l2 K k (p ++ r) v (p.length : Int) kx = kx (p ++ seqI v r.length) (v + r.length)
  | [], p, k + 1, v, hl, _, _, _ => by simp only [w_markInt64S_l2]; rw [ite_f nlt_len]; simp [seqI]
  | y :: r, p, k + 1, v, hl, hk, hv, hb => by
    simp only [List.length_cons] at hk hb
    simp only [w_markInt64S_l2]
    rw [ite_t lt_len, ite_t bnds_mid, set_midI, w64 (by omega) (by omega), next_i hl]
    have := markI_l kx r (p ++ [v]) k (v + 1) (by simp at hl ⊢; omega) (by omega) (by omega) (by omega)
    rw [← mid_app p r v] at this
    rw [snoc_len] at this ⊢
    rw [this]
    simp only [seqI, List.length_cons, List.append_assoc, List.singleton_append]
    congr 1; omega
theorem w_markInt64S_eq {l : List Int} {v : Int} (hl : l.length < 4611686018427387904) (hK : 4611686018427387904 ≤ K) (hv : 0 ≤ v) (hb : v + l.length < 4611686018427387904) : w_markInt64S K (l, v, ()) = some (v + l.length, (seqI v l.length, ())) := by
  simp only [w_markInt64S]
  exact markI_l _ l [] K v hl (by omega) hv hb
theorem heldI_l (kx kr : Int → Option R) : ∀ (n : Nat) (p : List Int) (k : Nat) (v : Int), (p ++ seqI v n).length < 4611686018427387904 → n < k → 0 ≤ v → v + n < 4611686018427387904 → w_heldInt64S_l2 K k (p ++ seqI v n) v (p.length : Int) kx kr = kx (v + n)
  | 0, p, k + 1, v, hl, _, _, _ => by rw [show seqI v 0 = [] from rfl]; simp only [w_heldInt64S_l2]; rw [ite_f nlt_len]; simp
  | n + 1, p, k + 1, v, hl, hk, hv, hb => by
    rw [show seqI v (n + 1) = v :: seqI (v + 1) n from rfl] at hl ⊢
    simp only [w_heldInt64S_l2]
    rw [ite_t lt_len, ite_t bnds_mid, getD_midI, ite_f (by simp), w64 (by omega) (by omega), next_i hl, mid_app p _ v]
    rw [mid_app p _ v] at hl
    rw [heldI_l kx kr n (p ++ [v]) k (v + 1) hl (by omega) (by omega) (by omega)]
    congr 1; omega
theorem w_heldInt64S_eq {n : Nat} {v : Int} (hK : 4611686018427387904 ≤ K) (hv : 0 ≤ v) (hb : v + n < 4611686018427387904) : w_heldInt64S K (seqI v n, v, ()) = some (v + n) := by
  simp only [w_heldInt64S]
  exact heldI_l _ _ n [] K v (by simp [seqI_len]; omega) (by omega) hv hb
theorem mark_pos (n : Nat) : decide ((1 + (n : Int)) < 0) = false := decide_eq_false (by omega)
/-- Marks in a list of numbers are held. -/
theorem mk_held {l : List Int} (hl : l.length ≤ 1099511627776) (hK : 4611686018427387904 ≤ K) : w_markInt64S K (l, (1 : Int), ()) = some (1 + (l.length : Int), (seqI 1 l.length, ())) ∧ w_heldInt64S K (seqI 1 l.length, (1 : Int), ()) = some (1 + (l.length : Int)) :=
  ⟨w_markInt64S_eq (by omega) hK (by decide) (by omega), w_heldInt64S_eq hK (by decide) (by omega)⟩
theorem and_decF {a b : Prop} [Decidable a] [Decidable b] (h : ¬ (a ∧ b)) : (decide a && decide b) = false := by
  cases hb : (decide a && decide b); rfl; exact absurd (and_dec.1 hb) h
def pc : Nat → Nat → Nat
  | 0, _ => 0
  | n + 1, a => a % 2 + pc n (a / 2)
theorem ones_256 : ∀ a : Nat, a < 256 → math_bits_OnesCount64 0 (IntKind.u64.wrap (a : Int), ()) = some (pc 16 a : Int) := by decide +kernel
theorem i_ones_256 {a : Nat} (h : a < 256) : i_ones K ((a : Int), ()) = some (pc 16 a : Int) := by
  simp only [i_ones]
  have := ones_256 a h
  rw [show math_bits_OnesCount64 K (IntKind.u64.wrap (a : Int), ()) = some (pc 16 a : Int) from this]; rfl
def anyF (P : Nat → Bool) : Nat → Nat → Bool
  | _, 0 => false
  | j, m + 1 => P j || anyF P (j + 1) m
theorem anyF_iff {P : Nat → Bool} : ∀ {m j : Nat}, anyF P j m = true ↔ ∃ i, j ≤ i ∧ i < j + m ∧ P i = true
  | 0, j => by simp only [anyF]; constructor; (intro h; cases h); (rintro ⟨i, h1, h2, _⟩; omega)
  | m + 1, j => by
    simp only [anyF, Bool.or_eq_true, anyF_iff (m := m) (j := j + 1)]
    constructor
    · rintro (h | ⟨i, h1, h2, h3⟩)
      · exact ⟨j, by omega, by omega, h⟩
      · exact ⟨i, by omega, by omega, h3⟩
    · rintro ⟨i, h1, h2, h3⟩
      by_cases e : i = j
      · left; rw [← e]; exact h3
      · right; exact ⟨i, by omega, by omega, h3⟩
def b1 (b : Bool) : Int := if b = true then 1 else 0
theorem weight_l (kx : Int → Option R) : ∀ (n a b k : Nat), a < 2 ^ n → n ≤ 32 → b + n < 4611686018427387904 → n < k → s_l10Weight_l2 K k (a : Int) (b : Int) kx = kx ((b + pc n a : Nat) : Int)
  | 0, a, b, k + 1, ha, _, _, _ => by
    have h0 : a = 0 := by simpa using ha
    subst h0
    simp only [s_l10Weight_l2]; rw [ite_f (by decide)]; rfl
  | n + 1, a, b, k + 1, ha, hn, hb, hk => by
    have hp : 2 ^ (n + 1) ≤ 4294967296 := Nat.le_trans (Nat.pow_le_pow_right (by decide) hn) (by decide)
    have hs := Nat.pow_succ 2 n
    simp only [s_l10Weight_l2, pc]
    by_cases h0 : a = 0
    · subst h0
      rw [ite_f (by decide)]
      have : pc n (0 / 2) = 0 := by
        clear ha hn hb hk hp hs
        induction n with
        | zero => rfl
        | succ n ih => simp only [pc] at ih ⊢; simpa using ih
      rw [this]; rfl
    · rw [ite_t (decide_eq_true (by omega))]
      have e1 : Int.tdiv (a : Int) 2 = ((a / 2 : Nat) : Int) := by rw [Int.tdiv_eq_ediv_of_nonneg (by omega)]; rfl
      have e2 : Int.tmod (a : Int) 2 = ((a % 2 : Nat) : Int) := by rw [Int.tmod_eq_emod_of_nonneg (by omega)]; rfl
      rw [e1, e2, w64n (by omega), ← Int.natCast_add, w64n (by omega), weight_l kx n (a / 2) (b + a % 2) k (by omega) (by omega) (by omega) (by omega)]
      congr 2; omega
theorem s_l10Weight_eq {a : Nat} (h : a < 256) (hK : 4611686018427387904 ≤ K) : s_l10Weight K ((a : Int), ()) = some (pc 16 a : Int) := by
  simp only [s_l10Weight]
  have := weight_l (K := K) (fun z => some z) 16 a 0 K (Nat.lt_of_lt_of_le h (by decide)) (by decide) (by decide) (by omega)
  rw [show ((0 : Nat) : Int) = 0 from rfl] at this
  rw [this]; simp
theorem pc_row : ∀ n, n < 5 → ∀ i, i < 16 → i < 2 ^ n → pc 16 i ≤ n := by decide
@[irreducible] def wt (i : Nat) : Nat := pc 16 i
theorem i_ones_wt {a : Nat} (h : a < 256) : i_ones K ((a : Int), ()) = some (wt a : Int) := by rw [wt]; exact i_ones_256 h
theorem s_weight_wt {a : Nat} (h : a < 256) (hK : 4611686018427387904 ≤ K) : s_l10Weight K ((a : Int), ()) = some (wt a : Int) := by rw [wt]; exact s_l10Weight_eq h hK
theorem pc_rowN {n i : Nat} (hn : n ≤ 4) (hi : i < 2 ^ n) : wt i ≤ n := by rw [wt]; exact pc_row n (by omega) i (by have := pw4 hn; omega) hi
theorem rep_m1 {n : Nat} (hn : n ≤ 4) (hK : 4611686018427387904 ≤ K) : slices_Repeat_int64 K ([(-1 : Int)], (n : Int) + 1, ()) = some (List.replicate (n + 1) (-1)) := by
  obtain ⟨k, rfl⟩ : ∃ k, K = k + 8 := ⟨K - 8, by omega⟩
  clear hK
  have : n = 0 ∨ n = 1 ∨ n = 2 ∨ n = 3 ∨ n = 4 := by omega
  rcases this with rfl | rfl | rfl | rfl | rfl <;> rfl
def idemB (n B : Nat) : Bool := decide (0 < n) && (!B.testBit 0 && B.testBit (2 ^ n - 1))
theorem i_idem_eq {n B : Nat} (hn : n ≤ 4) (hB : B < 9223372036854775808) : i_Func_isIdempotent K (((n : Int), (B : Int), ()), ()) = some (idemB n B) := by
  have hp := pw4 hn
  have hq := pw_pos n
  have h0 := i_Func_at_eq (K := K) (n := (n : Int)) 0 hB
  have h1 := i_Func_at_eq (K := K) (n := (n : Int)) (2 ^ n - 1) hB
  have e1 : IntKind.i64.wrap (((2 ^ n : Nat) : Int) - 1) = ((2 ^ n - 1 : Nat) : Int) := by rw [w64 (by omega) (by omega)]; omega
  rw [show ((0 : Nat) : Int) = 0 from rfl] at h0
  simp only [i_Func_isIdempotent, h0, some_bind', i_Func_rows_eq _ (show n < 63 by omega), e1, h1, bt_dec, bt_dec0, idemB]
  by_cases h : 0 < n
  · rw [ite_t (decide_eq_true (by omega)), decide_eq_true h]
    cases B.testBit 0 <;> rfl
  · rw [ite_f (decide_eq_false (by omega)), decide_eq_false h]; rfl
theorem s_idem_eq {n B : Nat} (hn : n ≤ 4) (hB : B < 9223372036854775808) : s_l10Idem K (((n : Int), (B : Int), ()), ()) = some (idemB n B) := by
  have hp := pw4 hn
  have hq := pw_pos n
  have h0 := s_l01At_eq (K := K) (n := (n : Int)) (j := 0) hB (by decide)
  have h1 := s_l01At_eq (K := K) (n := (n : Int)) (j := 2 ^ n - 1) hB (by omega)
  have e1 : IntKind.i64.wrap (((2 ^ n : Nat) : Int) - 1) = ((2 ^ n - 1 : Nat) : Int) := by rw [w64 (by omega) (by omega)]; omega
  rw [show ((0 : Nat) : Int) = 0 from rfl] at h0
  simp only [s_l10Idem, h0, some_bind', s_l01Rows_eq (show n < 63 by omega), e1, h1, bt_dec, bt_dec0, idemB]
  by_cases h : 0 < n
  · rw [ite_t (decide_eq_true (by omega)), decide_eq_true h]
    cases B.testBit 0 <;> rfl
  · rw [ite_f (decide_eq_false (by omega)), decide_eq_false h]; rfl
def nearV (n B i : Nat) : Bool := (decide (wt i ≤ 1) && B.testBit i) || (decide (n ≤ wt i + 1) && !B.testBit i)
theorem i_near_l (n B : Nat) (h3 : 3 ≤ n) (hn : n ≤ 4) (hB : B < 9223372036854775808) (kx : Option R) (kr : Bool → Option R) : ∀ (m i k : Nat), i + m = 2 ^ n → m < k →
    i_Func_hasNearUnanimity_l4 K k ((n : Int), (B : Int), ()) ((2 ^ n : Nat) : Int) (i : Int) kx kr = if anyF (nearV n B) i m = true then kr false else kx
  | 0, i, k + 1, e, _ => by simp only [i_Func_hasNearUnanimity_l4]; rw [ite_f (decide_eq_false (by omega))]; rfl
  | m + 1, i, k + 1, e, hk => by
    have hp := pw4 hn
    have ih := i_near_l n B h3 hn hB kx kr m (i + 1) k (by omega) (by omega)
    simp only [i_Func_hasNearUnanimity_l4, i_Func_at_eq i hB, i_ones_wt (show i < 256 by omega), some_bind', bt_dec, bt_dec0, w64s (show i + 1 < 9223372036854775808 by omega), ih, w64 (show -9223372036854775808 ≤ (n : Int) - 1 by omega) (show (n : Int) - 1 < 9223372036854775808 by omega)]
    rw [ite_t (decide_eq_true (by omega)), anyF, nearV]
    have e2 : decide ((wt i : Int) ≤ 1) = decide (wt i ≤ 1) := decide_eq_decide.2 (by omega)
    have e3 : decide ((wt i : Int) ≥ (n : Int) - 1) = decide (n ≤ wt i + 1) := decide_eq_decide.2 (by omega)
    rw [e2, e3]
    cases decide (wt i ≤ 1) <;> cases decide (n ≤ wt i + 1) <;> cases B.testBit i <;> simp
theorem s_near_l (n B : Nat) (h3 : 3 ≤ n) (hn : n ≤ 4) (hB : B < 9223372036854775808) (hK : 4611686018427387904 ≤ K) (kx : Option R) (kr : Bool → Option R) : ∀ (m i k : Nat), i + m = 2 ^ n → m < k →
    s_l10Near_l4 K k ((n : Int), (B : Int), ()) (i : Int) kx kr = if anyF (nearV n B) i m = true then kr false else kx
  | 0, i, k + 1, e, _ => by simp only [s_l10Near_l4, s_l01Rows_eq (show n < 63 by omega), some_bind']; rw [ite_f (decide_eq_false (by omega))]; rfl
  | m + 1, i, k + 1, e, hk => by
    have hp := pw4 hn
    have ih := s_near_l n B h3 hn hB hK kx kr m (i + 1) k (by omega) (by omega)
    simp only [s_l10Near_l4, s_l01Rows_eq (show n < 63 by omega), s_l01At_eq hB (show i < 9223372036854775808 by omega), s_weight_wt (show i < 256 by omega) hK, some_bind', bt_dec, bt_dec0, w64s (show i + 1 < 9223372036854775808 by omega), ih, w64 (show -9223372036854775808 ≤ (n : Int) - 1 by omega) (show (n : Int) - 1 < 9223372036854775808 by omega)]
    rw [ite_t (decide_eq_true (by omega)), anyF, nearV]
    have e2 : decide ((wt i : Int) ≤ 1) = decide (wt i ≤ 1) := decide_eq_decide.2 (by omega)
    have e3 : decide ((wt i : Int) ≥ (n : Int) - 1) = decide (n ≤ wt i + 1) := decide_eq_decide.2 (by omega)
    rw [e2, e3]
    cases decide (wt i ≤ 1) <;> cases decide (n ≤ wt i + 1) <;> cases B.testBit i <;> simp
def nearB (n B : Nat) : Bool := decide (3 ≤ n) && !anyF (nearV n B) 0 (2 ^ n)
theorem i_near_eq {n B : Nat} (hn : n ≤ 4) (hB : B < 9223372036854775808) (hK : 4611686018427387904 ≤ K) : i_Func_hasNearUnanimity K (((n : Int), (B : Int), ()), ()) = some (nearB n B) := by
  have hp := pw4 hn
  simp only [i_Func_hasNearUnanimity, i_Func_rows_eq _ (show n < 63 by omega), some_bind', nearB]
  by_cases h : 3 ≤ n
  · have := i_near_l (K := K) n B h hn hB (some true) (fun z => some z) (2 ^ n) 0 K (by omega) (by omega)
    rw [show ((0 : Nat) : Int) = 0 from rfl] at this
    rw [ite_f (decide_eq_false (by omega)), this, decide_eq_true h]
    cases anyF (nearV n B) 0 (2 ^ n) <;> rfl
  · rw [ite_t (decide_eq_true (by omega)), decide_eq_false h]; rfl
theorem s_near_eq {n B : Nat} (hn : n ≤ 4) (hB : B < 9223372036854775808) (hK : 4611686018427387904 ≤ K) : s_l10Near K (((n : Int), (B : Int), ()), ()) = some (nearB n B) := by
  have hp := pw4 hn
  simp only [s_l10Near, nearB]
  by_cases h : 3 ≤ n
  · have := s_near_l (K := K) n B h hn hB hK (some true) (fun z => some z) (2 ^ n) 0 K (by omega) (by omega)
    rw [show ((0 : Nat) : Int) = 0 from rfl] at this
    rw [ite_f (decide_eq_false (by omega)), this, decide_eq_true h]
    cases anyF (nearV n B) 0 (2 ^ n) <;> rfl
  · rw [ite_t (decide_eq_true (by omega)), decide_eq_false h]; rfl
def symV (B i j : Nat) : Bool := decide (wt i = wt j) && !decide (bt B i = bt B j)
theorem s_sym_l5 (n B : Nat) (hn : n ≤ 4) (hB : B < 9223372036854775808) (hK : 4611686018427387904 ≤ K) (i : Nat) (hi : i < 16) (kx : DF → Int → Option R) (kr : Bool → Option R) : ∀ (m j k : Nat), j + m = i → m < k →
    s_l10Symmetric_l5 K k ((n : Int), (B : Int), ()) (i : Int) (j : Int) kx kr = if anyF (symV B i) j m = true then kr false else kx ((n : Int), (B : Int), ()) (i : Int)
  | 0, j, k + 1, e, _ => by simp only [s_l10Symmetric_l5]; rw [ite_f (decide_eq_false (by omega))]; rfl
  | m + 1, j, k + 1, e, hk => by
    have ih := s_sym_l5 n B hn hB hK i hi kx kr m (j + 1) k (by omega) (by omega)
    simp only [s_l10Symmetric_l5, s_l01At_eq hB (show i < 9223372036854775808 by omega), s_l01At_eq hB (show j < 9223372036854775808 by omega), s_weight_wt (show i < 256 by omega) hK, s_weight_wt (show j < 256 by omega) hK, some_bind', w64s (show j + 1 < 9223372036854775808 by omega), ih]
    rw [ite_t (decide_eq_true (by omega)), anyF, symV]
    have e2 : decide ((wt i : Int) = (wt j : Int)) = decide (wt i = wt j) := decide_eq_decide.2 (by omega)
    rw [e2]
    cases decide (wt i = wt j) <;> cases decide (bt B i = bt B j) <;> simp
theorem s_sym_l2 (n B : Nat) (hn : n ≤ 4) (hB : B < 9223372036854775808) (hK : 4611686018427387904 ≤ K) (kx : Option R) (kr : Bool → Option R) : ∀ (m i k : Nat), i + m = 2 ^ n → 100 + m < k →
    s_l10Symmetric_l2 K k ((n : Int), (B : Int), ()) (i : Int) kx kr = if anyF (fun i => anyF (symV B i) 0 i) i m = true then kr false else kx
  | 0, i, k + 1, e, _ => by simp only [s_l10Symmetric_l2, s_l01Rows_eq (show n < 63 by omega), some_bind']; rw [ite_f (decide_eq_false (by omega))]; rfl
  | m + 1, i, k + 1, e, hk => by
    have hp := pw4 hn
    have ih := s_sym_l2 n B hn hB hK kx kr m (i + 1) k (by omega) (by omega)
    have h5 := fun kx kr => s_sym_l5 (K := K) (R := R) n B hn hB hK i (by omega) kx kr i 0 k (by omega) (by omega)
    rw [show ((0 : Nat) : Int) = 0 from rfl] at h5
    simp only [s_l10Symmetric_l2, s_l01Rows_eq (show n < 63 by omega), some_bind', h5, w64s (show i + 1 < 9223372036854775808 by omega), ih]
    rw [ite_t (decide_eq_true (by omega)), anyF]
    cases anyF (symV B i) 0 i <;> simp
def symB (n B : Nat) : Bool := !anyF (fun i => anyF (symV B i) 0 i) 0 (2 ^ n)
theorem s_sym_eq {n B : Nat} (hn : n ≤ 4) (hB : B < 9223372036854775808) (hK : 4611686018427387904 ≤ K) : s_l10Symmetric K (((n : Int), (B : Int), ()), ()) = some (symB n B) := by
  have hp := pw4 hn
  simp only [s_l10Symmetric, symB]
  have := s_sym_l2 (K := K) n B hn hB hK (some true) (fun z => some z) (2 ^ n) 0 K (by omega) (by omega)
  rw [show ((0 : Nat) : Int) = 0 from rfl] at this
  rw [this]
  cases anyF (fun i => anyF (symV B i) 0 i) 0 (2 ^ n) <;> rfl
/-- The value at the last row of a weight, or -1. -/
def lvF (B : Nat) : Nat → Nat → Int
  | 0, _ => -1
  | i + 1, w => if wt i = w then bt B i else lvF B i w
def lvL (B n i : Nat) : List Int := (List.range (n + 1)).map (lvF B i)
def lvV (B i : Nat) : Bool := decide (0 ≤ lvF B i (wt i)) && !decide (lvF B i (wt i) = bt B i)
theorem lvL_0 (B n : Nat) : lvL B n 0 = List.replicate (n + 1) (-1) := by
  have : lvF B 0 = fun _ => (-1 : Int) := rfl
  rw [lvL, this, List.map_const', List.length_range]
theorem lvL_get {B n i w : Nat} (h : w ≤ n) : (lvL B n i).getD w 0 = lvF B i w := by
  simp [lvL, List.getD, List.getElem?_map, List.getElem?_range (show w < n + 1 by omega)]
theorem lvL_set {B n i : Nat} (h : wt i ≤ n) : (lvL B n i).set (wt i) (bt B i) = lvL B n (i + 1) := by
  apply List.ext_getElem
  · simp [lvL]
  · intro q h1 h2
    rw [List.getElem_set]
    simp only [lvL, List.getElem_map, List.getElem_range, lvF]
theorem i_lev_l (n B : Nat) (hn : n ≤ 4) (hB : B < 9223372036854775808) (kx : List Int → Option R) (kr : List Int → Bool → Option R) : ∀ (m i k : Nat), i + m = 2 ^ n → m < k →
    i_Func_levels_l3 K k ((n : Int), (B : Int), ()) (lvL B n i) ((2 ^ n : Nat) : Int) (i : Int) kx kr = if anyF (lvV B) i m = true then kr [] false else kx (lvL B n (2 ^ n))
  | 0, i, k + 1, e, _ => by
    obtain rfl : i = 2 ^ n := by omega
    simp only [i_Func_levels_l3]; rw [ite_f (decide_eq_false (by omega))]; rfl
  | m + 1, i, k + 1, e, hk => by
    have hp := pw4 hn
    have hw := pc_rowN hn (show i < 2 ^ n by omega)
    have ih := i_lev_l n B hn hB kx kr m (i + 1) k (by omega) (by omega)
    have hb : bnds ((wt i : Nat) : Int) ((lvL B n i).length : Int) = true := bnds_n (by simp [lvL]; omega)
    simp only [i_Func_levels_l3, i_Func_levels_j8, i_Func_at_eq i hB, i_ones_wt (show i < 256 by omega), some_bind', hb, if_true, Int.toNat_natCast, lvL_get hw, lvL_set hw, w64s (show i + 1 < 9223372036854775808 by omega), ih]
    rw [ite_t (decide_eq_true (by omega)), anyF, lvV]
    have e2 : decide (lvF B i (wt i) ≥ 0) = decide (0 ≤ lvF B i (wt i)) := rfl
    rw [e2]
    cases decide (0 ≤ lvF B i (wt i)) <;> cases decide (lvF B i (wt i) = bt B i) <;> simp
theorem lvF_old (B : Nat) : ∀ (i w : Nat), 0 ≤ lvF B i w → ∃ j, j < i ∧ wt j = w ∧ lvF B i w = bt B j
  | 0, w, h => by simp [lvF] at h
  | i + 1, w, h => by
    by_cases e : wt i = w
    · exact ⟨i, by omega, e, by rw [lvF, if_pos e]⟩
    · rw [lvF, if_neg e] at h ⊢
      obtain ⟨j, h1, h2, h3⟩ := lvF_old B i w h
      exact ⟨j, by omega, h2, h3⟩
theorem lvF_all {B N : Nat} (h : ∀ i, i < N → lvV B i = false) : ∀ (i : Nat), i ≤ N → ∀ j, j < i → lvF B i (wt j) = bt B j
  | 0, _, j, hj => by omega
  | i + 1, hi, j, hj => by
    rw [lvF]
    by_cases e : wt i = wt j
    · rw [if_pos e]
      by_cases ej : j = i
      · rw [ej]
      · have h1 := lvF_all h i (by omega) j (by omega)
        have h2 := h i (by omega)
        simp only [lvV, e, h1, Bool.and_eq_false_iff, decide_eq_false_iff_not, Bool.not_eq_false', decide_eq_true_eq] at h2
        rcases h2 with h2 | h2
        · rcases bt_01 B j with h3 | h3 <;> rw [h3] at h2 <;> omega
        · exact h2.symm
    · rw [if_neg e]
      have hj' : j < i := by
        rcases Nat.lt_or_ge j i with h3 | h3
        · exact h3
        · have : j = i := by omega
          rw [this] at e; exact absurd rfl e
      exact lvF_all h i (by omega) j hj'
theorem lev_sym (B N : Nat) : anyF (lvV B) 0 N = anyF (fun i => anyF (symV B i) 0 i) 0 N := by
  rw [Bool.eq_iff_iff, anyF_iff, anyF_iff]
  constructor
  · rintro ⟨i, h0, h1, h2⟩
    simp only [lvV, Bool.and_eq_true, decide_eq_true_eq, Bool.not_eq_true', decide_eq_false_iff_not] at h2
    obtain ⟨j, h3, h4, h5⟩ := lvF_old B i _ h2.1
    refine ⟨i, h0, h1, anyF_iff.2 ⟨j, by omega, by omega, ?_⟩⟩
    simp only [symV, Bool.and_eq_true, decide_eq_true_eq, Bool.not_eq_true', decide_eq_false_iff_not]
    exact ⟨h4.symm, fun e => h2.2 (by rw [h5, e])⟩
  · rintro ⟨i, h0, h1, h2⟩
    obtain ⟨j, _, h3, h4⟩ := anyF_iff.1 h2
    simp only [symV, Bool.and_eq_true, decide_eq_true_eq, Bool.not_eq_true', decide_eq_false_iff_not] at h4
    by_cases hall : ∀ i, i < N → lvV B i = false
    · exfalso
      have h5 := lvF_all hall i (by omega) j (by omega)
      have h6 := hall i (by omega)
      simp only [lvV, h4.1, h5, Bool.and_eq_false_iff, decide_eq_false_iff_not, Bool.not_eq_false', decide_eq_true_eq] at h6
      rcases h6 with h6 | h6
      · rcases bt_01 B j with h7 | h7 <;> rw [h7] at h6 <;> omega
      · exact h4.2 h6.symm
    · have ⟨q, hq⟩ := Classical.not_forall.1 hall
      have ⟨hq1, hq2⟩ := Classical.not_imp.1 hq
      exact ⟨q, by omega, by omega, by cases h : lvV B q <;> simp_all⟩
theorem i_sym_eq {n B : Nat} (hn : n ≤ 4) (hB : B < 9223372036854775808) (hK : 4611686018427387904 ≤ K) : i_Func_isSymmetric K (((n : Int), (B : Int), ()), ()) = some (symB n B) := by
  have hp := pw4 hn
  have hl := i_lev_l (K := K) (R := List Int × Bool × Unit) n B hn hB (fun z16 => some (z16, true, ())) (fun z17 z18 => some (z17, z18, ())) (2 ^ n) 0 K (by omega) (by omega)
  rw [lvL_0, show ((0 : Nat) : Int) = 0 from rfl] at hl
  simp only [i_Func_isSymmetric, i_Func_levels, w64 (show -9223372036854775808 ≤ (n : Int) + 1 by omega) (show (n : Int) + 1 < 9223372036854775808 by omega), rep_m1 hn hK, some_bind', i_Func_rows_eq _ (show n < 63 by omega), hl, symB, ← lev_sym]
  cases anyF (lvV B) 0 (2 ^ n) <;> rfl
def oneN (b : Bool) : Nat := if b = true then 1 else 0
def cntL (n : Nat) : Nat → Nat → Nat → Nat → Nat → Nat → List Int
  | 0, _, a, b, c, d => [(a : Int), (b : Int), (c : Int), (d : Int)]
  | m + 1, i, a, b, c, d => cntL n m (i + 1) (a + oneN (idemB n i)) (b + oneN (symB n i)) (c + oneN (idemB n i && symB n i)) (d + oneN (nearB n i))
theorem s_cnt_l (n : Nat) (hn : n ≤ 4) (hK : 4611686018427387904 ≤ K) (kx : List Int → Option R) : ∀ (m i k a b c d : Nat), i + m = 2 ^ 2 ^ n → m < k → a ≤ i → b ≤ i → c ≤ i → d ≤ i →
    s_KindCounts_l5 K k (n : Int) [(a : Int), (b : Int), (c : Int), (d : Int)] (i : Int) kx = kx (cntL n m i a b c d)
  | 0, i, k + 1, a, b, c, d, e, _, _, _, _, _ => by
    simp only [s_KindCounts_l5, s_l01All_eq hn, some_bind']; rw [ite_f (decide_eq_false (by omega))]; rfl
  | m + 1, i, k + 1, a, b, c, d, e, hk, ha, hb, hc, hd => by
    have hpp := ppw4 hn
    have ih := fun a b c d h1 h2 h3 h4 => s_cnt_l n hn hK kx m (i + 1) k a b c d (by omega) (by omega) h1 h2 h3 h4
    have b0 : bnds (0 : Int) (4 : Int) = true := rfl
    have b1 : bnds (1 : Int) (4 : Int) = true := rfl
    have b2 : bnds (2 : Int) (4 : Int) = true := rfl
    have b3 : bnds (3 : Int) (4 : Int) = true := rfl
    have L4 : ∀ p q r t : Int, (([p, q, r, t] : List Int).length : Int) = 4 := fun _ _ _ _ => rfl
    have g0 : ∀ p q r t : Int, ([p, q, r, t] : List Int).getD (0 : Int).toNat 0 = p := fun _ _ _ _ => rfl
    have g1 : ∀ p q r t : Int, ([p, q, r, t] : List Int).getD (1 : Int).toNat 0 = q := fun _ _ _ _ => rfl
    have g2 : ∀ p q r t : Int, ([p, q, r, t] : List Int).getD (2 : Int).toNat 0 = r := fun _ _ _ _ => rfl
    have g3 : ∀ p q r t : Int, ([p, q, r, t] : List Int).getD (3 : Int).toNat 0 = t := fun _ _ _ _ => rfl
    have s0 : ∀ p q r t z : Int, ([p, q, r, t] : List Int).set (0 : Int).toNat z = [z, q, r, t] := fun _ _ _ _ _ => rfl
    have s1 : ∀ p q r t z : Int, ([p, q, r, t] : List Int).set (1 : Int).toNat z = [p, z, r, t] := fun _ _ _ _ _ => rfl
    have s2 : ∀ p q r t z : Int, ([p, q, r, t] : List Int).set (2 : Int).toNat z = [p, q, z, t] := fun _ _ _ _ _ => rfl
    have s3 : ∀ p q r t z : Int, ([p, q, r, t] : List Int).set (3 : Int).toNat z = [p, q, r, z] := fun _ _ _ _ _ => rfl
    rw [cntL]
    simp only [s_KindCounts_l5, s_KindCounts_j6, s_KindCounts_j11, s_KindCounts_j13, s_KindCounts_j15, s_l01All_eq hn, some_bind', s_idem_eq hn (show i < 9223372036854775808 by omega), s_sym_eq hn (show i < 9223372036854775808 by omega) hK, s_near_eq hn (show i < 9223372036854775808 by omega) hK, L4, b0, b1, b2, b3, g0, g1, g2, g3, s0, s1, s2, s3, if_true, w64s (show i + 1 < 9223372036854775808 by omega), w64s (show a + 1 < 9223372036854775808 by omega), w64s (show b + 1 < 9223372036854775808 by omega), w64s (show c + 1 < 9223372036854775808 by omega), w64s (show d + 1 < 9223372036854775808 by omega)]
    rw [ite_t (decide_eq_true (by omega))]
    cases idemB n i <;> cases symB n i <;> cases nearB n i <;> simp only [Bool.false_eq_true, if_false, if_true, oneN, Bool.and_true, Bool.and_false, Bool.true_and, Bool.false_and, Nat.add_zero] <;> exact ih _ _ _ _ (by omega) (by omega) (by omega) (by omega)
theorem i_cnt_l (n : Nat) (hn : n ≤ 4) (hK : 4611686018427387904 ≤ K) (kx : List Int → Option R) : ∀ (m i k a b c d : Nat), i + m = 2 ^ 2 ^ n → m < k → a ≤ i → b ≤ i → c ≤ i → d ≤ i →
    i_KindCounts_l5 K k (n : Int) [(a : Int), (b : Int), (c : Int), (d : Int)] ((2 ^ 2 ^ n : Nat) : Int) (i : Int) kx = kx (cntL n m i a b c d)
  | 0, i, k + 1, a, b, c, d, e, _, _, _, _, _ => by
    simp only [i_KindCounts_l5]; rw [ite_f (decide_eq_false (by omega))]; rfl
  | m + 1, i, k + 1, a, b, c, d, e, hk, ha, hb, hc, hd => by
    have hpp := ppw4 hn
    have ih := fun a b c d h1 h2 h3 h4 => i_cnt_l n hn hK kx m (i + 1) k a b c d (by omega) (by omega) h1 h2 h3 h4
    have b0 : bnds (0 : Int) (4 : Int) = true := rfl
    have b1 : bnds (1 : Int) (4 : Int) = true := rfl
    have b2 : bnds (2 : Int) (4 : Int) = true := rfl
    have b3 : bnds (3 : Int) (4 : Int) = true := rfl
    have L4 : ∀ p q r t : Int, (([p, q, r, t] : List Int).length : Int) = 4 := fun _ _ _ _ => rfl
    have g0 : ∀ p q r t : Int, ([p, q, r, t] : List Int).getD (0 : Int).toNat 0 = p := fun _ _ _ _ => rfl
    have g1 : ∀ p q r t : Int, ([p, q, r, t] : List Int).getD (1 : Int).toNat 0 = q := fun _ _ _ _ => rfl
    have g2 : ∀ p q r t : Int, ([p, q, r, t] : List Int).getD (2 : Int).toNat 0 = r := fun _ _ _ _ => rfl
    have g3 : ∀ p q r t : Int, ([p, q, r, t] : List Int).getD (3 : Int).toNat 0 = t := fun _ _ _ _ => rfl
    have s0 : ∀ p q r t z : Int, ([p, q, r, t] : List Int).set (0 : Int).toNat z = [z, q, r, t] := fun _ _ _ _ _ => rfl
    have s1 : ∀ p q r t z : Int, ([p, q, r, t] : List Int).set (1 : Int).toNat z = [p, z, r, t] := fun _ _ _ _ _ => rfl
    have s2 : ∀ p q r t z : Int, ([p, q, r, t] : List Int).set (2 : Int).toNat z = [p, q, z, t] := fun _ _ _ _ _ => rfl
    have s3 : ∀ p q r t z : Int, ([p, q, r, t] : List Int).set (3 : Int).toNat z = [p, q, r, z] := fun _ _ _ _ _ => rfl
    have z0 : ∀ q : Nat, q < 9223372036854775807 → IntKind.i64.wrap ((q : Int) + 0) = (q : Int) := fun q h => by rw [Int.add_zero]; exact w64n (by omega)
    rw [cntL]
    simp only [i_KindCounts_l5, i_KindCounts_j12, some_bind', i_one_eq, i_idem_eq hn (show i < 9223372036854775808 by omega), i_sym_eq hn (show i < 9223372036854775808 by omega) hK, i_near_eq hn (show i < 9223372036854775808 by omega) hK, L4, b0, b1, b2, b3, g0, g1, g2, g3, s0, s1, s2, s3, if_true, w64s (show i + 1 < 9223372036854775808 by omega)]
    rw [ite_t (decide_eq_true (by omega))]
    cases idemB n i <;> cases symB n i <;> cases nearB n i <;> simp only [Bool.false_eq_true, if_false, if_true, oneN, Bool.and_true, Bool.and_false, Bool.true_and, Bool.false_and, Nat.add_zero, z0 a (by omega), z0 b (by omega), z0 c (by omega), z0 d (by omega), w64s (show a + 1 < 9223372036854775808 by omega), w64s (show b + 1 < 9223372036854775808 by omega), w64s (show c + 1 < 9223372036854775808 by omega), w64s (show d + 1 < 9223372036854775808 by omega)] <;> exact ih _ _ _ _ (by omega) (by omega) (by omega) (by omega)
def kindsX (n : Int) : List Int × Int × Unit := if (decide (0 ≤ n) && decide (n ≤ 4)) = true then (cntL n.toNat (2 ^ 2 ^ n.toNat) 0 0 0 0 0, 0, ()) else ([], 2, ())
theorem s_KindCounts_eq (n : Int) (hK : 4611686018427387904 ≤ K) : s_KindCounts K (n, ()) = some (kindsX n) := by
  simp only [s_KindCounts, s_l01In_eq, some_bind', kindsX]
  by_cases h : 0 ≤ n ∧ n ≤ 4
  · obtain ⟨m, rfl⟩ : ∃ m : Nat, n = m := ⟨n.toNat, by omega⟩
    have hm : m ≤ 4 := by omega
    have hpp := ppw4 hm
    have := s_cnt_l (K := K) m hm hK (fun z42 => some (z42, (0 : Int), ())) (2 ^ 2 ^ m) 0 K 0 0 0 0 (by omega) (by omega) (by omega) (by omega) (by omega) (by omega)
    rw [decide_eq_true h.1, decide_eq_true h.2, if_neg (by decide), if_pos (by rfl), if_pos (by rfl), Int.toNat_natCast]
    exact this
  · rw [and_decF h]; rfl
theorem i_KindCounts_eq (n : Int) (hK : 4611686018427387904 ≤ K) : i_KindCounts K (n, ()) = some (kindsX n) := by
  simp only [i_KindCounts, i_isArity, i_within_eq, some_bind', kindsX]
  by_cases h : 0 ≤ n ∧ n ≤ 4
  · obtain ⟨m, rfl⟩ : ∃ m : Nat, n = m := ⟨n.toNat, by omega⟩
    have hm : m ≤ 4 := by omega
    have hpp := ppw4 hm
    have := i_cnt_l (K := K) m hm hK (fun z42 => some (z42, (0 : Int), ())) (2 ^ 2 ^ m) 0 K 0 0 0 0 (by omega) (by omega) (by omega) (by omega) (by omega) (by omega)
    rw [decide_eq_true h.1, decide_eq_true h.2, if_neg (by decide), if_pos (by rfl), if_pos (by rfl), Int.toNat_natCast, i_funcsOf_eq hm, some_bind']
    exact this
  · rw [and_decF h]; rfl
theorem cntL_len (n : Nat) : ∀ (m i a b c d : Nat), (cntL n m i a b c d).length = 4
  | 0, _, _, _, _, _ => rfl
  | m + 1, i, a, b, c, d => cntL_len n m _ _ _ _ _
theorem law_KindCounts (hK : 9223372036854775808 ≤ K) (n : Int) : w_FnExactKindCounts K (n, ()) = some true := by
  have hK2 : 4611686018427387904 ≤ K := by omega
  obtain ⟨q, hq, hi, hp⟩ : ∃ q : List Int × Int × Unit, q.1.length ≤ 1099511627776 ∧ i_KindCounts K (n, ()) = some q ∧ s_KindCounts K (n, ()) = some q := ⟨_, by
    unfold kindsX; split
    · rw [cntL_len]; decide
    · simp, i_KindCounts_eq n hK2, s_KindCounts_eq n hK2⟩
  obtain ⟨h1, h2⟩ := mk_held hq hK2
  have h3 : w_eqInt64S K (q.1, q.1, ()) = some true := w_eqInt64S_refl (by omega) hK2
  simp only [w_FnExactKindCounts, hi, hp, h3, some_bind', w_FnExactKindCounts_j5, w_FnExactKindCounts_j16, mark_pos, h1, h2, decide_true, Bool.not_true, Bool.false_eq_true, if_false]
end Go.Proofs.Ytieiajeggahipaa.E
namespace Go.Proofs.Ytieiajeggahipaa.E
open Go Go.Proofs
/-- FnExactKindCounts, in plain numbers and lists: no condition. -/
theorem PuFnExactKindCounts (x : den as_w_FnExactKindCounts) (h : okD as_w_FnExactKindCounts x) : ∃ K, w_FnExactKindCounts K x = some true := by
  obtain ⟨n, u⟩ := x
  exact ⟨9223372036854775808, law_KindCounts (Nat.le_refl _) n⟩
end Go.Proofs.Ytieiajeggahipaa.E
