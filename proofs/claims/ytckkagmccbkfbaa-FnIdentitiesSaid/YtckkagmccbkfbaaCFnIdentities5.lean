/-
  What the Go functions that FnIdentities reaches hand back, each as a plain function with a proof that the call does so, and plain lemmas on them. Conditions: those of each theorem.
-/
import Derived.Test.YtckkagmccbkfbaaCFnIdentities4
namespace Go.Proofs.Ytckkagmccbkfbaa.E
open Go Go.Proofs Go.Proofs.Ytckkagmccbkfbaa
set_option maxRecDepth 100000
set_option linter.unusedVariables false
noncomputable def as_i_Func_isIdempotent : Ty := (.pair (.st (.pair (.int .i64) (.pair (.int .i64) .unit))) .unit)
noncomputable def sp_i_Func_isIdempotent (F : ((Int × Int × Unit) × Unit) → Option Bool) : FnSpec := ⟨as_i_Func_isIdempotent, [false], .bool, F⟩
noncomputable def i_Func_isIdempotent (K : Nat) (x : ((Int × Int × Unit) × Unit)) : Option Bool :=
    (if (decide (x.1.1 > (0 : Int))) = true then
    (i_Func_at K (x.1, (0 : Int), ())).bind fun y1 =>
    (if (decide (y1 = (0 : Int))) = true then
    (i_Func_rows K (x.1, ())).bind fun y2 =>
    (i_Func_at K (x.1, (IntKind.i64.wrap (y2 - (1 : Int))), ())).bind fun y3 =>
    some (decide (y3 = (1 : Int)))
    else
    some false)
    else
    some false)
noncomputable def rv_i_Func_isIdempotent : Lv := [(2, (.v .bool))]
noncomputable def sg_i_Func_isIdempotent {R : Type} (K : Nat) (k : Nat) : List (Nat × SegS R) := []
noncomputable def su_i_Func_isIdempotent : List (Nat × Unit) := []
noncomputable def en_i_Func_isIdempotent {R : Type} (K : Nat) (k : Nat) : Env R := { L := lk [], X := lk [], S := lk (sg_i_Func_isIdempotent K k), rv := rv_i_Func_isIdempotent }
noncomputable def cf_i_Func_isIdempotent (K : Nat) : Cfg := { ty := lk tys, fn := lk [(170, sp_i_Func_at (i_Func_at K)), (171, sp_i_Func_rows (i_Func_rows K))], fs := lk [], prot := 0, nt := Try.f97.ntmps }
theorem e_i_Func_isIdempotent (K : Nat) (x : den as_i_Func_isIdempotent) : i_Func_isIdempotent K x = evFn (cf_i_Func_isIdempotent K) as_i_Func_isIdempotent [false] .bool (en_i_Func_isIdempotent K K) Try.f97.results.toList (bodyOf Try.f97) x := by kernel_rfl
theorem ok_i_Func_isIdempotent (K : Nat) : FnOk Try.prog 97 (sp_i_Func_isIdempotent (i_Func_isIdempotent K)) :=
  fn_ok (cf := cf_i_Func_isIdempotent K) (en := en_i_Func_isIdempotent K K) (c := bodyOf Try.f97) Try.func97 (by kernel_rfl) (by kernel_rfl) tysOk (fns_ok (l := [(170, sp_i_Func_at (i_Func_at K)), (171, sp_i_Func_rows (i_Func_rows K))]) ⟨ok_i_Func_at K, ⟨ok_i_Func_rows K, trivial⟩⟩) (shs_ok (l := []) trivial) (by kernel_rfl) rfl (Nat.le_of_ble_eq_true (by kernel_rfl)) (by kernel_rfl) (of_decide_eq_true (by kernel_rfl)) (by decide) (fun C hP O => lpOk_of (en := en_i_Func_isIdempotent K K) (S := hasK su_i_Func_isIdempotent) (fun i => hasK_lk (sg_i_Func_isIdempotent K K) i) _ (by rw [show partsOf (hasK su_i_Func_isIdempotent) (bodyOf Try.f97) = [] from by kernel_rfl]; exact trivial)) (fun x y h => by rw [← e_i_Func_isIdempotent]; exact h)
noncomputable def as_math_bits_Mul64 : Ty := (.pair (.int .u64) (.pair (.int .u64) .unit))
noncomputable def sp_math_bits_Mul64 (F : (Int × Int × Unit) → Option (Int × Int × Unit)) : FnSpec := ⟨as_math_bits_Mul64, [false, false], (.tup (.pair (.int .u64) (.pair (.int .u64) .unit))), F⟩
noncomputable def math_bits_Mul64 (K : Nat) (x : (Int × Int × Unit)) : Option (Int × Int × Unit) :=
    let x1 := (IntKind.u64.wrap ((bitI .and .u64 x.1 (4294967295 : Int)) * (bitI .and .u64 x.2.1 (4294967295 : Int))))
    let x2 := (IntKind.u64.wrap ((shrI .u64 x.1 (32 : Int)) * (bitI .and .u64 x.2.1 (4294967295 : Int))))
    let x3 := (bitI .and .u64 (IntKind.u64.wrap (x2 + (shrI .u64 x1 (32 : Int)))) (4294967295 : Int))
    let x4 := (shrI .u64 (IntKind.u64.wrap (x2 + (shrI .u64 x1 (32 : Int)))) (32 : Int))
    let x5 := (IntKind.u64.wrap ((bitI .and .u64 x.1 (4294967295 : Int)) * (shrI .u64 x.2.1 (32 : Int))))
    let x6 := (IntKind.u64.wrap ((shrI .u64 x.1 (32 : Int)) * (shrI .u64 x.2.1 (32 : Int))))
    let x7 := (IntKind.u64.wrap ((IntKind.u64.wrap (x6 + x4)) + (shrI .u64 (IntKind.u64.wrap (x3 + x5)) (32 : Int))))
    some (x7, (IntKind.u64.wrap (x.1 * x.2.1)), ())
noncomputable def rv_math_bits_Mul64 : Lv := [(4, (.v (.int .u64))), (5, (.v (.int .u64)))]
noncomputable def sg_math_bits_Mul64 {R : Type} (K : Nat) (k : Nat) : List (Nat × SegS R) := []
noncomputable def su_math_bits_Mul64 : List (Nat × Unit) := []
noncomputable def en_math_bits_Mul64 {R : Type} (K : Nat) (k : Nat) : Env R := { L := lk [], X := lk [], S := lk (sg_math_bits_Mul64 K k), rv := rv_math_bits_Mul64 }
noncomputable def cf_math_bits_Mul64 (K : Nat) : Cfg := { ty := lk tys, fn := lk [], fs := lk [], prot := 0, nt := Try.f256.ntmps }
theorem e_math_bits_Mul64 (K : Nat) (x : den as_math_bits_Mul64) : math_bits_Mul64 K x = evFn (cf_math_bits_Mul64 K) as_math_bits_Mul64 [false, false] (.tup (.pair (.int .u64) (.pair (.int .u64) .unit))) (en_math_bits_Mul64 K K) Try.f256.results.toList (bodyOf Try.f256) x := by kernel_rfl
theorem ok_math_bits_Mul64 (K : Nat) : FnOk Try.prog 256 (sp_math_bits_Mul64 (math_bits_Mul64 K)) :=
  fn_ok (cf := cf_math_bits_Mul64 K) (en := en_math_bits_Mul64 K K) (c := bodyOf Try.f256) Try.func256 (by kernel_rfl) (by kernel_rfl) tysOk (fns_ok (l := []) trivial) (shs_ok (l := []) trivial) (by kernel_rfl) rfl (Nat.le_of_ble_eq_true (by kernel_rfl)) (by kernel_rfl) (of_decide_eq_true (by kernel_rfl)) (by decide) (fun C hP O => lpOk_of (en := en_math_bits_Mul64 K K) (S := hasK su_math_bits_Mul64) (fun i => hasK_lk (sg_math_bits_Mul64 K K) i) _ (by rw [show partsOf (hasK su_math_bits_Mul64) (bodyOf Try.f256) = [] from by kernel_rfl]; exact trivial)) (fun x y h => by rw [← e_math_bits_Mul64]; exact h)
noncomputable def as_math_bits_Mul : Ty := (.pair (.int .u64) (.pair (.int .u64) .unit))
noncomputable def sp_math_bits_Mul (F : (Int × Int × Unit) → Option (Int × Int × Unit)) : FnSpec := ⟨as_math_bits_Mul, [false, false], (.tup (.pair (.int .u64) (.pair (.int .u64) .unit))), F⟩
noncomputable def math_bits_Mul (K : Nat) (x : (Int × Int × Unit)) : Option (Int × Int × Unit) :=
    (math_bits_Mul64 K (x.1, x.2.1, ())).bind fun y1 =>
    some (y1.1, y1.2.1, ())
noncomputable def rv_math_bits_Mul : Lv := [(4, (.v (.int .u64))), (5, (.v (.int .u64)))]
noncomputable def sg_math_bits_Mul {R : Type} (K : Nat) (k : Nat) : List (Nat × SegS R) := []
noncomputable def su_math_bits_Mul : List (Nat × Unit) := []
noncomputable def en_math_bits_Mul {R : Type} (K : Nat) (k : Nat) : Env R := { L := lk [], X := lk [], S := lk (sg_math_bits_Mul K k), rv := rv_math_bits_Mul }
noncomputable def cf_math_bits_Mul (K : Nat) : Cfg := { ty := lk tys, fn := lk [(256, sp_math_bits_Mul64 (math_bits_Mul64 K))], fs := lk [], prot := 0, nt := Try.f246.ntmps }
theorem e_math_bits_Mul (K : Nat) (x : den as_math_bits_Mul) : math_bits_Mul K x = evFn (cf_math_bits_Mul K) as_math_bits_Mul [false, false] (.tup (.pair (.int .u64) (.pair (.int .u64) .unit))) (en_math_bits_Mul K K) Try.f246.results.toList (bodyOf Try.f246) x := by kernel_rfl
theorem ok_math_bits_Mul (K : Nat) : FnOk Try.prog 246 (sp_math_bits_Mul (math_bits_Mul K)) :=
  fn_ok (cf := cf_math_bits_Mul K) (en := en_math_bits_Mul K K) (c := bodyOf Try.f246) Try.func246 (by kernel_rfl) (by kernel_rfl) tysOk (fns_ok (l := [(256, sp_math_bits_Mul64 (math_bits_Mul64 K))]) ⟨ok_math_bits_Mul64 K, trivial⟩) (shs_ok (l := []) trivial) (by kernel_rfl) rfl (Nat.le_of_ble_eq_true (by kernel_rfl)) (by kernel_rfl) (of_decide_eq_true (by kernel_rfl)) (by decide) (fun C hP O => lpOk_of (en := en_math_bits_Mul K K) (S := hasK su_math_bits_Mul) (fun i => hasK_lk (sg_math_bits_Mul K K) i) _ (by rw [show partsOf (hasK su_math_bits_Mul) (bodyOf Try.f246) = [] from by kernel_rfl]; exact trivial)) (fun x y h => by rw [← e_math_bits_Mul]; exact h)
noncomputable def as_slices_Repeat_int64 : Ty := (.pair (.sl (.int .i64)) (.pair (.int .i64) .unit))
noncomputable def sp_slices_Repeat_int64 (F : ((List Int) × Int × Unit) → Option (List Int)) : FnSpec := ⟨as_slices_Repeat_int64, [false, false], (.sl (.int .i64)), F⟩
noncomputable def slices_Repeat_int64_l8 {R : Type} (K : Nat) : Nat → (List Int) → Int → ((List Int) → Option R) → Option R
  | 0, _, _, _ => none
  | k + 1, v7, v8, kx0 =>
    (if (decide (v8 < (v7.length : Int))) = true then
    (if (decide (0 ≤ v8) && decide (v8 ≤ (v7.length : Int)) && decide ((v7.length : Int) ≤ (v7.length : Int))) = true then
    (if (decide (0 ≤ (0 : Int)) && decide ((0 : Int) ≤ v8) && decide (v8 ≤ (v7.length : Int))) = true then
    let l4 := (sliceL v7 (0 : Int) ((0 : Int) + (v8 - (0 : Int))))
    let l5 := (copyL v7 l4 v8.toNat ((v7.length : Int) - v8).toNat)
    let x6 := (IntKind.i64.wrap (v8 + ((min l4.length ((v7.length : Int) - v8).toNat : Nat) : Int)))
    slices_Repeat_int64_l8 K k l5 x6 kx0
    else
    none)
    else
    none)
    else
    kx0 v7)
noncomputable def slices_Repeat_int64_j6 {R : Type} (K : Nat) (k : Nat) (v0 : (List Int)) (v6 : Int) (kn : Option R) (kr : ((List Int) → Option R)) : Option R :=
    (if (decide (0 ≤ (IntKind.i64.wrap v6)) && decide ((IntKind.i64.wrap v6) ≤ (lim : Int)) && decide ((IntKind.i64.wrap v6) = (IntKind.i64.wrap v6))) = true then
    let l2 := (List.replicate (IntKind.i64.wrap v6).toNat (0 : Int))
    let l3 := (copyL l2 v0 0 l2.length)
    slices_Repeat_int64_l8 K k l3 ((min v0.length l2.length : Nat) : Int) (fun z7 =>
    kr z7)
    else
    none)
noncomputable def slices_Repeat_int64_j3 {R : Type} (K : Nat) (k : Nat) (v0 : (List Int)) (v1 : Int) (kn : Option R) (kr : ((List Int) → Option R)) : Option R :=
    (math_bits_Mul K ((IntKind.u64.wrap (v0.length : Int)), (IntKind.u64.wrap v1), ())).bind fun y1 =>
    (if (decide (y1.1 > (0 : Int))) = true then
    none
    else
    (if (decide (y1.2.1 > (9223372036854775807 : Int))) = true then
    none
    else
    slices_Repeat_int64_j6 K k v0 y1.2.1 none (fun z8 =>
    kr z8)))
noncomputable def slices_Repeat_int64 (K : Nat) (x : ((List Int) × Int × Unit)) : Option (List Int) :=
    (if (decide (x.2.1 < (0 : Int))) = true then
    none
    else
    slices_Repeat_int64_j3 K K x.1 x.2.1 none (fun z9 =>
    some z9))
noncomputable def lv_slices_Repeat_int64_J3 : Lv := [(0, (.v (.sl (.int .i64)))), (1, (.v (.int .i64)))]
noncomputable def lv_slices_Repeat_int64_J6 : Lv := [(0, (.v (.sl (.int .i64)))), (6, (.v (.int .u64)))]
noncomputable def lv_slices_Repeat_int64_L8 : Lv := [(7, (.r (.int .i64))), (8, (.v (.int .i64)))]
noncomputable def lv_slices_Repeat_int64_N3 : Lv := []
noncomputable def lv_slices_Repeat_int64_N6 : Lv := []
noncomputable def lv_slices_Repeat_int64_X0 : Lv := [(7, (.r (.int .i64)))]
noncomputable def rv_slices_Repeat_int64 : Lv := [(4, (.r (.int .i64)))]
noncomputable def gslices_Repeat_int64_l8 {R : Type} (K : Nat) (k : Nat) (x : den lv_slices_Repeat_int64_L8.ty) (kx : Nat → St → Option R) (kr : St → Option R) : Option R := slices_Repeat_int64_l8 K k x.1 x.2.1 (fun z0 => kx 0 (mkSt lv_slices_Repeat_int64_X0 (z0, ())))
noncomputable def gslices_Repeat_int64_j6 {R : Type} (K : Nat) (k : Nat) (x : den lv_slices_Repeat_int64_J6.ty) (kn : den lv_slices_Repeat_int64_N6.ty → Option R) (kx : Nat → St → Option R) (kr : St → Option R) : Option R := slices_Repeat_int64_j6 K k x.1 x.2.1 (kn ()) (fun z0 => kr (mkSt rv_slices_Repeat_int64 (z0, ())))
noncomputable def gslices_Repeat_int64_j3 {R : Type} (K : Nat) (k : Nat) (x : den lv_slices_Repeat_int64_J3.ty) (kn : den lv_slices_Repeat_int64_N3.ty → Option R) (kx : Nat → St → Option R) (kr : St → Option R) : Option R := slices_Repeat_int64_j3 K k x.1 x.2.1 (kn ()) (fun z0 => kr (mkSt rv_slices_Repeat_int64 (z0, ())))
noncomputable def sg_slices_Repeat_int64 {R : Type} (K : Nat) (k : Nat) : List (Nat × SegS R) := [(6, mkSeg lv_slices_Repeat_int64_J6 lv_slices_Repeat_int64_N6 (gslices_Repeat_int64_j6 K k)), (3, mkSeg lv_slices_Repeat_int64_J3 lv_slices_Repeat_int64_N3 (gslices_Repeat_int64_j3 K k))]
noncomputable def su_slices_Repeat_int64 : List (Nat × Unit) := [(6, ()), (3, ())]
noncomputable def en_slices_Repeat_int64 {R : Type} (K : Nat) (k : Nat) : Env R := { L := lk [(8, mkLoop lv_slices_Repeat_int64_L8 (gslices_Repeat_int64_l8 K k))], X := lk [(0, lv_slices_Repeat_int64_X0)], S := lk (sg_slices_Repeat_int64 K k), rv := rv_slices_Repeat_int64 }
noncomputable def cf_slices_Repeat_int64 (K : Nat) : Cfg := { ty := lk tys, fn := lk [(246, sp_math_bits_Mul (math_bits_Mul K))], fs := lk [], prot := 0, nt := Try.f215.ntmps }
noncomputable def c_slices_Repeat_int64_J3 : Code := nthC (partsOf (hasK su_slices_Repeat_int64) (bodyOf Try.f215)) 0
noncomputable def c_slices_Repeat_int64_J6 : Code := nthC (partsOf (hasK su_slices_Repeat_int64) c_slices_Repeat_int64_J3) 0
noncomputable def c_slices_Repeat_int64_L8 : Code := nthC (partsOf (hasK su_slices_Repeat_int64) c_slices_Repeat_int64_J6) 0
theorem eslices_Repeat_int64_l8 {R : Type} (K : Nat) (k : Nat) (x : den lv_slices_Repeat_int64_L8.ty) (kx : Nat → St → Option R) (kr : St → Option R) : gslices_Repeat_int64_l8 K (k + 1) x kx kr = evC (cf_slices_Repeat_int64 K) (en_slices_Repeat_int64 K k) c_slices_Repeat_int64_L8 (mkSt lv_slices_Repeat_int64_L8 x) (fun s => mkLoop lv_slices_Repeat_int64_L8 (gslices_Repeat_int64_l8 K k) s kx kr) kx kr := by kernel_rfl
theorem sslices_Repeat_int64_l8 {R : Type} (K : Nat) (C : Cx) (hP : C.P = Try.prog) (O : CfgOk C (cf_slices_Repeat_int64 K)) (k : Nat) : LpS C (R := R) (mkLoop lv_slices_Repeat_int64_L8 (gslices_Repeat_int64_l8 K k)) c_slices_Repeat_int64_L8 :=
  loop_sound O (by rw [hP]; kernel_rfl) (fun x kx kr => rfl) (eslices_Repeat_int64_l8 K) (fun k => lpOk_of (en := en_slices_Repeat_int64 K k) (S := hasK su_slices_Repeat_int64) (fun i => hasK_lk (sg_slices_Repeat_int64 K k) i) _ (by rw [show partsOf (hasK su_slices_Repeat_int64) c_slices_Repeat_int64_L8 = [] from by kernel_rfl]; exact trivial)) k
theorem eslices_Repeat_int64_j6 {R : Type} (K : Nat) (k : Nat) (x : den lv_slices_Repeat_int64_J6.ty) (kn : den lv_slices_Repeat_int64_N6.ty → Option R) (kx : Nat → St → Option R) (kr : St → Option R) : gslices_Repeat_int64_j6 K k x kn kx kr = evC (cf_slices_Repeat_int64 K) (en_slices_Repeat_int64 K k) c_slices_Repeat_int64_J6 (mkSt lv_slices_Repeat_int64_J6 x) (cutK lv_slices_Repeat_int64_N6 kn) kx kr := by kernel_rfl
theorem sslices_Repeat_int64_j6 {R : Type} (K : Nat) (C : Cx) (hP : C.P = Try.prog) (O : CfgOk C (cf_slices_Repeat_int64 K)) (k : Nat) : SgS C (R := R) (mkSeg lv_slices_Repeat_int64_J6 lv_slices_Repeat_int64_N6 (gslices_Repeat_int64_j6 K k)) c_slices_Repeat_int64_J6 :=
  seg_sound O (by rw [hP]; kernel_rfl) (eslices_Repeat_int64_j6 K k) (lpOk_of (en := en_slices_Repeat_int64 K k) (S := hasK su_slices_Repeat_int64) (fun i => hasK_lk (sg_slices_Repeat_int64 K k) i) _ (by rw [show partsOf (hasK su_slices_Repeat_int64) c_slices_Repeat_int64_J6 = [(true, c_slices_Repeat_int64_L8)] from by kernel_rfl]; exact (lpL_loop (f := mkLoop lv_slices_Repeat_int64_L8 (gslices_Repeat_int64_l8 K k)) (by kernel_rfl) (sslices_Repeat_int64_l8 K C hP O k) trivial)))
theorem eslices_Repeat_int64_j3 {R : Type} (K : Nat) (k : Nat) (x : den lv_slices_Repeat_int64_J3.ty) (kn : den lv_slices_Repeat_int64_N3.ty → Option R) (kx : Nat → St → Option R) (kr : St → Option R) : gslices_Repeat_int64_j3 K k x kn kx kr = evC (cf_slices_Repeat_int64 K) (en_slices_Repeat_int64 K k) c_slices_Repeat_int64_J3 (mkSt lv_slices_Repeat_int64_J3 x) (cutK lv_slices_Repeat_int64_N3 kn) kx kr := by kernel_rfl
theorem sslices_Repeat_int64_j3 {R : Type} (K : Nat) (C : Cx) (hP : C.P = Try.prog) (O : CfgOk C (cf_slices_Repeat_int64 K)) (k : Nat) : SgS C (R := R) (mkSeg lv_slices_Repeat_int64_J3 lv_slices_Repeat_int64_N3 (gslices_Repeat_int64_j3 K k)) c_slices_Repeat_int64_J3 :=
  seg_sound O (by rw [hP]; kernel_rfl) (eslices_Repeat_int64_j3 K k) (lpOk_of (en := en_slices_Repeat_int64 K k) (S := hasK su_slices_Repeat_int64) (fun i => hasK_lk (sg_slices_Repeat_int64 K k) i) _ (by rw [show partsOf (hasK su_slices_Repeat_int64) c_slices_Repeat_int64_J3 = [(false, c_slices_Repeat_int64_J6)] from by kernel_rfl]; exact (lpL_seg (f := mkSeg lv_slices_Repeat_int64_J6 lv_slices_Repeat_int64_N6 (gslices_Repeat_int64_j6 K k)) (by kernel_rfl) (sslices_Repeat_int64_j6 K C hP O k) trivial)))
theorem e_slices_Repeat_int64 (K : Nat) (x : den as_slices_Repeat_int64) : slices_Repeat_int64 K x = evFn (cf_slices_Repeat_int64 K) as_slices_Repeat_int64 [false, false] (.sl (.int .i64)) (en_slices_Repeat_int64 K K) Try.f215.results.toList (bodyOf Try.f215) x := by kernel_rfl
theorem ok_slices_Repeat_int64 (K : Nat) : FnOk Try.prog 215 (sp_slices_Repeat_int64 (slices_Repeat_int64 K)) :=
  fn_ok (cf := cf_slices_Repeat_int64 K) (en := en_slices_Repeat_int64 K K) (c := bodyOf Try.f215) Try.func215 (by kernel_rfl) (by kernel_rfl) tysOk (fns_ok (l := [(246, sp_math_bits_Mul (math_bits_Mul K))]) ⟨ok_math_bits_Mul K, trivial⟩) (shs_ok (l := []) trivial) (by kernel_rfl) rfl (Nat.le_of_ble_eq_true (by kernel_rfl)) (by kernel_rfl) (of_decide_eq_true (by kernel_rfl)) (by decide) (fun C hP O => lpOk_of (en := en_slices_Repeat_int64 K K) (S := hasK su_slices_Repeat_int64) (fun i => hasK_lk (sg_slices_Repeat_int64 K K) i) _ (by rw [show partsOf (hasK su_slices_Repeat_int64) (bodyOf Try.f215) = [(false, c_slices_Repeat_int64_J3)] from by kernel_rfl]; exact (lpL_seg (f := mkSeg lv_slices_Repeat_int64_J3 lv_slices_Repeat_int64_N3 (gslices_Repeat_int64_j3 K K)) (by kernel_rfl) (sslices_Repeat_int64_j3 K C hP O K) trivial))) (fun x y h => by rw [← e_slices_Repeat_int64]; exact h)
noncomputable def as_i_Func_levels : Ty := (.pair (.st (.pair (.int .i64) (.pair (.int .i64) .unit))) .unit)
noncomputable def sp_i_Func_levels (F : ((Int × Int × Unit) × Unit) → Option ((List Int) × Bool × Unit)) : FnSpec := ⟨as_i_Func_levels, [false], (.tup (.pair (.sl (.int .i64)) (.pair .bool .unit))), F⟩
noncomputable def i_Func_levels_j8 {R : Type} (K : Nat) (k : Nat) (v1 : (Int × Int × Unit)) (v4 : (List Int)) (v5 : Int) (v6 : Int) (v13 : Int) (v14 : Int) (kn : (Int × Int × Unit) → (List Int) → Int → Int → Option R)  : Option R :=
    (i_Func_at K (v1, v5, ())).bind fun y6 =>
    (if (bnds v6 (v4.length : Int)) = true then
    let l7 := (v4.set v6.toNat y6)
    kn v1 l7 v13 v14
    else
    none)
noncomputable def i_Func_levels_l3 {R : Type} (K : Nat) : Nat → (Int × Int × Unit) → (List Int) → Int → Int → ((List Int) → Option R) → ((List Int) → Bool → Option R) → Option R
  | 0, _, _, _, _, _, _ => none
  | k + 1, v1, v4, v13, v14, kx0, kr =>
    (if (decide (v14 < v13)) = true then
    (i_ones K (v14, ())).bind fun y4 =>
    (if (bnds y4 (v4.length : Int)) = true then
    (if (decide ((v4.getD y4.toNat (0 : Int)) ≥ (0 : Int))) = true then
    (if (bnds y4 (v4.length : Int)) = true then
    (i_Func_at K (v1, v14, ())).bind fun y5 =>
    (if (!decide ((v4.getD y4.toNat (0 : Int)) = y5)) = true then
    kr ([] : List Int) false
    else
    i_Func_levels_j8 K k v1 v4 v14 y4 v13 v14 (fun z8 z9 z10 z11 =>
    i_Func_levels_l3 K k z8 z9 z10 (IntKind.i64.wrap (z11 + (1 : Int))) kx0 kr))
    else
    none)
    else
    i_Func_levels_j8 K k v1 v4 v14 y4 v13 v14 (fun z12 z13 z14 z15 =>
    i_Func_levels_l3 K k z12 z13 z14 (IntKind.i64.wrap (z15 + (1 : Int))) kx0 kr))
    else
    none)
    else
    kx0 v4)
noncomputable def i_Func_levels (K : Nat) (x : ((Int × Int × Unit) × Unit)) : Option ((List Int) × Bool × Unit) :=
    let l1 := [(-1 : Int)]
    (slices_Repeat_int64 K (l1, (IntKind.i64.wrap (x.1.1 + (1 : Int))), ())).bind fun y2 =>
    (i_Func_rows K (x.1, ())).bind fun y3 =>
    i_Func_levels_l3 K K x.1 y2 y3 (0 : Int) (fun z16 =>
    some (z16, true, ())) (fun z17 z18 =>
    some (z17, z18, ()))
noncomputable def lv_i_Func_levels_J8 : Lv := [(1, (.bx (.v (.st (.pair (.int .i64) (.pair (.int .i64) .unit)))))), (4, (.r (.int .i64))), (5, (.v (.int .i64))), (6, (.v (.int .i64))), (13, (.v (.int .i64))), (14, (.v (.int .i64)))]
noncomputable def lv_i_Func_levels_L3 : Lv := [(1, (.bx (.v (.st (.pair (.int .i64) (.pair (.int .i64) .unit)))))), (4, (.r (.int .i64))), (13, (.v (.int .i64))), (14, (.v (.int .i64)))]
noncomputable def lv_i_Func_levels_N8 : Lv := [(1, (.bx (.v (.st (.pair (.int .i64) (.pair (.int .i64) .unit)))))), (4, (.r (.int .i64))), (13, (.v (.int .i64))), (14, (.v (.int .i64)))]
noncomputable def lv_i_Func_levels_X0 : Lv := [(4, (.r (.int .i64)))]
noncomputable def rv_i_Func_levels : Lv := [(2, (.r (.int .i64))), (3, (.v .bool))]
noncomputable def gi_Func_levels_j8 {R : Type} (K : Nat) (k : Nat) (x : den lv_i_Func_levels_J8.ty) (kn : den lv_i_Func_levels_N8.ty → Option R) (kx : Nat → St → Option R) (kr : St → Option R) : Option R := i_Func_levels_j8 K k x.1 x.2.1 x.2.2.1 x.2.2.2.1 x.2.2.2.2.1 x.2.2.2.2.2.1 (fun z0 z1 z2 z3 => kn (z0, z1, z2, z3, ()))
noncomputable def gi_Func_levels_l3 {R : Type} (K : Nat) (k : Nat) (x : den lv_i_Func_levels_L3.ty) (kx : Nat → St → Option R) (kr : St → Option R) : Option R := i_Func_levels_l3 K k x.1 x.2.1 x.2.2.1 x.2.2.2.1 (fun z0 => kx 0 (mkSt lv_i_Func_levels_X0 (z0, ()))) (fun z0 z1 => kr (mkSt rv_i_Func_levels (z0, z1, ())))
noncomputable def sg_i_Func_levels {R : Type} (K : Nat) (k : Nat) : List (Nat × SegS R) := [(8, mkSeg lv_i_Func_levels_J8 lv_i_Func_levels_N8 (gi_Func_levels_j8 K k))]
noncomputable def su_i_Func_levels : List (Nat × Unit) := [(8, ())]
noncomputable def en_i_Func_levels {R : Type} (K : Nat) (k : Nat) : Env R := { L := lk [(3, mkLoop lv_i_Func_levels_L3 (gi_Func_levels_l3 K k))], X := lk [(0, lv_i_Func_levels_X0)], S := lk (sg_i_Func_levels K k), rv := rv_i_Func_levels }
noncomputable def cf_i_Func_levels (K : Nat) : Cfg := { ty := lk tys, fn := lk [(170, sp_i_Func_at (i_Func_at K)), (171, sp_i_Func_rows (i_Func_rows K)), (174, sp_i_ones (i_ones K)), (215, sp_slices_Repeat_int64 (slices_Repeat_int64 K))], fs := lk [], prot := 0, nt := Try.f172.ntmps }
noncomputable def c_i_Func_levels_L3 : Code := nthC (partsOf (hasK su_i_Func_levels) (bodyOf Try.f172)) 0
noncomputable def c_i_Func_levels_J8 : Code := nthC (partsOf (hasK su_i_Func_levels) c_i_Func_levels_L3) 0
theorem ei_Func_levels_j8 {R : Type} (K : Nat) (k : Nat) (x : den lv_i_Func_levels_J8.ty) (kn : den lv_i_Func_levels_N8.ty → Option R) (kx : Nat → St → Option R) (kr : St → Option R) : gi_Func_levels_j8 K k x kn kx kr = evC (cf_i_Func_levels K) (en_i_Func_levels K k) c_i_Func_levels_J8 (mkSt lv_i_Func_levels_J8 x) (cutK lv_i_Func_levels_N8 kn) kx kr := by kernel_rfl
theorem si_Func_levels_j8 {R : Type} (K : Nat) (C : Cx) (hP : C.P = Try.prog) (O : CfgOk C (cf_i_Func_levels K)) (k : Nat) : SgS C (R := R) (mkSeg lv_i_Func_levels_J8 lv_i_Func_levels_N8 (gi_Func_levels_j8 K k)) c_i_Func_levels_J8 :=
  seg_sound O (by rw [hP]; kernel_rfl) (ei_Func_levels_j8 K k) (lpOk_of (en := en_i_Func_levels K k) (S := hasK su_i_Func_levels) (fun i => hasK_lk (sg_i_Func_levels K k) i) _ (by rw [show partsOf (hasK su_i_Func_levels) c_i_Func_levels_J8 = [] from by kernel_rfl]; exact trivial))
theorem ei_Func_levels_l3 {R : Type} (K : Nat) (k : Nat) (x : den lv_i_Func_levels_L3.ty) (kx : Nat → St → Option R) (kr : St → Option R) : gi_Func_levels_l3 K (k + 1) x kx kr = evC (cf_i_Func_levels K) (en_i_Func_levels K k) c_i_Func_levels_L3 (mkSt lv_i_Func_levels_L3 x) (fun s => mkLoop lv_i_Func_levels_L3 (gi_Func_levels_l3 K k) s kx kr) kx kr := by kernel_rfl
theorem si_Func_levels_l3 {R : Type} (K : Nat) (C : Cx) (hP : C.P = Try.prog) (O : CfgOk C (cf_i_Func_levels K)) (k : Nat) : LpS C (R := R) (mkLoop lv_i_Func_levels_L3 (gi_Func_levels_l3 K k)) c_i_Func_levels_L3 :=
  loop_sound O (by rw [hP]; kernel_rfl) (fun x kx kr => rfl) (ei_Func_levels_l3 K) (fun k => lpOk_of (en := en_i_Func_levels K k) (S := hasK su_i_Func_levels) (fun i => hasK_lk (sg_i_Func_levels K k) i) _ (by rw [show partsOf (hasK su_i_Func_levels) c_i_Func_levels_L3 = [(false, c_i_Func_levels_J8)] from by kernel_rfl]; exact (lpL_seg (f := mkSeg lv_i_Func_levels_J8 lv_i_Func_levels_N8 (gi_Func_levels_j8 K k)) (by kernel_rfl) (si_Func_levels_j8 K C hP O k) trivial))) k
theorem e_i_Func_levels (K : Nat) (x : den as_i_Func_levels) : i_Func_levels K x = evFn (cf_i_Func_levels K) as_i_Func_levels [false] (.tup (.pair (.sl (.int .i64)) (.pair .bool .unit))) (en_i_Func_levels K K) Try.f172.results.toList (bodyOf Try.f172) x := by kernel_rfl
theorem ok_i_Func_levels (K : Nat) : FnOk Try.prog 172 (sp_i_Func_levels (i_Func_levels K)) :=
  fn_ok (cf := cf_i_Func_levels K) (en := en_i_Func_levels K K) (c := bodyOf Try.f172) Try.func172 (by kernel_rfl) (by kernel_rfl) tysOk (fns_ok (l := [(170, sp_i_Func_at (i_Func_at K)), (171, sp_i_Func_rows (i_Func_rows K)), (174, sp_i_ones (i_ones K)), (215, sp_slices_Repeat_int64 (slices_Repeat_int64 K))]) ⟨ok_i_Func_at K, ⟨ok_i_Func_rows K, ⟨ok_i_ones K, ⟨ok_slices_Repeat_int64 K, trivial⟩⟩⟩⟩) (shs_ok (l := []) trivial) (by kernel_rfl) rfl (Nat.le_of_ble_eq_true (by kernel_rfl)) (by kernel_rfl) (of_decide_eq_true (by kernel_rfl)) (by decide) (fun C hP O => lpOk_of (en := en_i_Func_levels K K) (S := hasK su_i_Func_levels) (fun i => hasK_lk (sg_i_Func_levels K K) i) _ (by rw [show partsOf (hasK su_i_Func_levels) (bodyOf Try.f172) = [(true, c_i_Func_levels_L3)] from by kernel_rfl]; exact (lpL_loop (f := mkLoop lv_i_Func_levels_L3 (gi_Func_levels_l3 K K)) (by kernel_rfl) (si_Func_levels_l3 K C hP O K) trivial))) (fun x y h => by rw [← e_i_Func_levels]; exact h)
noncomputable def as_i_Func_isSymmetric : Ty := (.pair (.st (.pair (.int .i64) (.pair (.int .i64) .unit))) .unit)
noncomputable def sp_i_Func_isSymmetric (F : ((Int × Int × Unit) × Unit) → Option Bool) : FnSpec := ⟨as_i_Func_isSymmetric, [false], .bool, F⟩
noncomputable def i_Func_isSymmetric (K : Nat) (x : ((Int × Int × Unit) × Unit)) : Option Bool :=
    (i_Func_levels K (x.1, ())).bind fun y1 =>
    some y1.2.1
noncomputable def rv_i_Func_isSymmetric : Lv := [(2, (.v .bool))]
noncomputable def sg_i_Func_isSymmetric {R : Type} (K : Nat) (k : Nat) : List (Nat × SegS R) := []
noncomputable def su_i_Func_isSymmetric : List (Nat × Unit) := []
noncomputable def en_i_Func_isSymmetric {R : Type} (K : Nat) (k : Nat) : Env R := { L := lk [], X := lk [], S := lk (sg_i_Func_isSymmetric K k), rv := rv_i_Func_isSymmetric }
noncomputable def cf_i_Func_isSymmetric (K : Nat) : Cfg := { ty := lk tys, fn := lk [(172, sp_i_Func_levels (i_Func_levels K))], fs := lk [], prot := 0, nt := Try.f100.ntmps }
theorem e_i_Func_isSymmetric (K : Nat) (x : den as_i_Func_isSymmetric) : i_Func_isSymmetric K x = evFn (cf_i_Func_isSymmetric K) as_i_Func_isSymmetric [false] .bool (en_i_Func_isSymmetric K K) Try.f100.results.toList (bodyOf Try.f100) x := by kernel_rfl
theorem ok_i_Func_isSymmetric (K : Nat) : FnOk Try.prog 100 (sp_i_Func_isSymmetric (i_Func_isSymmetric K)) :=
  fn_ok (cf := cf_i_Func_isSymmetric K) (en := en_i_Func_isSymmetric K K) (c := bodyOf Try.f100) Try.func100 (by kernel_rfl) (by kernel_rfl) tysOk (fns_ok (l := [(172, sp_i_Func_levels (i_Func_levels K))]) ⟨ok_i_Func_levels K, trivial⟩) (shs_ok (l := []) trivial) (by kernel_rfl) rfl (Nat.le_of_ble_eq_true (by kernel_rfl)) (by kernel_rfl) (of_decide_eq_true (by kernel_rfl)) (by decide) (fun C hP O => lpOk_of (en := en_i_Func_isSymmetric K K) (S := hasK su_i_Func_isSymmetric) (fun i => hasK_lk (sg_i_Func_isSymmetric K K) i) _ (by rw [show partsOf (hasK su_i_Func_isSymmetric) (bodyOf Try.f100) = [] from by kernel_rfl]; exact trivial)) (fun x y h => by rw [← e_i_Func_isSymmetric]; exact h)
noncomputable def as_i_forTwo : Ty := (.pair (.fn (.pair (.int .i64) (.pair (.int .i64) .unit)) .bool) .unit)
noncomputable def sp_i_forTwo (F : (((Int × Int × Unit) → Option Bool) × Unit) → Option Bool) : FnSpec := ⟨as_i_forTwo, [false], .bool, F⟩
noncomputable def i_forTwo (K : Nat) (x : (((Int × Int × Unit) → Option Bool) × Unit)) : Option Bool :=
    (x.1 ((0 : Int), (0 : Int), ())).bind fun y1 =>
    (if y1 = true then
    (x.1 ((0 : Int), (1 : Int), ())).bind fun y2 =>
    (if y2 = true then
    (x.1 ((1 : Int), (0 : Int), ())).bind fun y3 =>
    (if y3 = true then
    (x.1 ((1 : Int), (1 : Int), ())).bind fun y4 =>
    some y4
    else
    some false)
    else
    some false)
    else
    some false)
noncomputable def rv_i_forTwo : Lv := [(2, (.v .bool))]
noncomputable def sg_i_forTwo {R : Type} (K : Nat) (k : Nat) : List (Nat × SegS R) := []
noncomputable def su_i_forTwo : List (Nat × Unit) := []
noncomputable def en_i_forTwo {R : Type} (K : Nat) (k : Nat) : Env R := { L := lk [], X := lk [], S := lk (sg_i_forTwo K k), rv := rv_i_forTwo }
noncomputable def cf_i_forTwo (K : Nat) : Cfg := { ty := lk tys, fn := lk [], fs := lk [], prot := 0, nt := Try.f103.ntmps }
theorem e_i_forTwo (K : Nat) (x : den as_i_forTwo) : i_forTwo K x = evFn (cf_i_forTwo K) as_i_forTwo [false] .bool (en_i_forTwo K K) Try.f103.results.toList (bodyOf Try.f103) x := by kernel_rfl
theorem ok_i_forTwo (K : Nat) : FnOk Try.prog 103 (sp_i_forTwo (i_forTwo K)) :=
  fn_ok (cf := cf_i_forTwo K) (en := en_i_forTwo K K) (c := bodyOf Try.f103) Try.func103 (by kernel_rfl) (by kernel_rfl) tysOk (fns_ok (l := []) trivial) (shs_ok (l := []) trivial) (by kernel_rfl) rfl (Nat.le_of_ble_eq_true (by kernel_rfl)) (by kernel_rfl) (of_decide_eq_true (by kernel_rfl)) (by decide) (fun C hP O => lpOk_of (en := en_i_forTwo K K) (S := hasK su_i_forTwo) (fun i => hasK_lk (sg_i_forTwo K K) i) _ (by rw [show partsOf (hasK su_i_forTwo) (bodyOf Try.f103) = [] from by kernel_rfl]; exact trivial)) (fun x y h => by rw [← e_i_forTwo]; exact h)
noncomputable def as_i_packed : Ty := (.pair (.sl (.int .i64)) .unit)
noncomputable def sp_i_packed (F : ((List Int) × Unit) → Option Int) : FnSpec := ⟨as_i_packed, [false], (.int .i64), F⟩
noncomputable def i_packed_l3 {R : Type} (K : Nat) : Nat → Int → (List Int) → Int → Int → (Int → Option R) → Option R
  | 0, _, _, _, _, _ => none
  | k + 1, v3, v6, v7, v8, kx0 =>
    (if (decide (v8 < v7)) = true then
    (if (bnds v8 (v6.length : Int)) = true then
    (if (decide ((0 : Int) ≤ v8)) = true then
    let x1 := (bitI .or .i64 v3 (shlI .i64 (v6.getD v8.toNat (0 : Int)) v8))
    i_packed_l3 K k x1 v6 v7 (IntKind.i64.wrap (v8 + (1 : Int))) kx0
    else
    none)
    else
    none)
    else
    kx0 v3)
noncomputable def i_packed (K : Nat) (x : ((List Int) × Unit)) : Option Int :=
    i_packed_l3 K K (0 : Int) x.1 (x.1.length : Int) (0 : Int) (fun z2 =>
    some z2)
noncomputable def lv_i_packed_L3 : Lv := [(3, (.v (.int .i64))), (6, (.v (.sl (.int .i64)))), (7, (.v (.int .i64))), (8, (.v (.int .i64)))]
noncomputable def lv_i_packed_X0 : Lv := [(3, (.v (.int .i64)))]
noncomputable def rv_i_packed : Lv := [(2, (.v (.int .i64)))]
noncomputable def gi_packed_l3 {R : Type} (K : Nat) (k : Nat) (x : den lv_i_packed_L3.ty) (kx : Nat → St → Option R) (kr : St → Option R) : Option R := i_packed_l3 K k x.1 x.2.1 x.2.2.1 x.2.2.2.1 (fun z0 => kx 0 (mkSt lv_i_packed_X0 (z0, ())))
noncomputable def sg_i_packed {R : Type} (K : Nat) (k : Nat) : List (Nat × SegS R) := []
noncomputable def su_i_packed : List (Nat × Unit) := []
noncomputable def en_i_packed {R : Type} (K : Nat) (k : Nat) : Env R := { L := lk [(3, mkLoop lv_i_packed_L3 (gi_packed_l3 K k))], X := lk [(0, lv_i_packed_X0)], S := lk (sg_i_packed K k), rv := rv_i_packed }
noncomputable def cf_i_packed (K : Nat) : Cfg := { ty := lk tys, fn := lk [], fs := lk [], prot := 0, nt := Try.f173.ntmps }
noncomputable def c_i_packed_L3 : Code := nthC (partsOf (hasK su_i_packed) (bodyOf Try.f173)) 0
theorem ei_packed_l3 {R : Type} (K : Nat) (k : Nat) (x : den lv_i_packed_L3.ty) (kx : Nat → St → Option R) (kr : St → Option R) : gi_packed_l3 K (k + 1) x kx kr = evC (cf_i_packed K) (en_i_packed K k) c_i_packed_L3 (mkSt lv_i_packed_L3 x) (fun s => mkLoop lv_i_packed_L3 (gi_packed_l3 K k) s kx kr) kx kr := by kernel_rfl
theorem si_packed_l3 {R : Type} (K : Nat) (C : Cx) (hP : C.P = Try.prog) (O : CfgOk C (cf_i_packed K)) (k : Nat) : LpS C (R := R) (mkLoop lv_i_packed_L3 (gi_packed_l3 K k)) c_i_packed_L3 :=
  loop_sound O (by rw [hP]; kernel_rfl) (fun x kx kr => rfl) (ei_packed_l3 K) (fun k => lpOk_of (en := en_i_packed K k) (S := hasK su_i_packed) (fun i => hasK_lk (sg_i_packed K k) i) _ (by rw [show partsOf (hasK su_i_packed) c_i_packed_L3 = [] from by kernel_rfl]; exact trivial)) k
theorem e_i_packed (K : Nat) (x : den as_i_packed) : i_packed K x = evFn (cf_i_packed K) as_i_packed [false] (.int .i64) (en_i_packed K K) Try.f173.results.toList (bodyOf Try.f173) x := by kernel_rfl
theorem ok_i_packed (K : Nat) : FnOk Try.prog 173 (sp_i_packed (i_packed K)) :=
  fn_ok (cf := cf_i_packed K) (en := en_i_packed K K) (c := bodyOf Try.f173) Try.func173 (by kernel_rfl) (by kernel_rfl) tysOk (fns_ok (l := []) trivial) (shs_ok (l := []) trivial) (by kernel_rfl) rfl (Nat.le_of_ble_eq_true (by kernel_rfl)) (by kernel_rfl) (of_decide_eq_true (by kernel_rfl)) (by decide) (fun C hP O => lpOk_of (en := en_i_packed K K) (S := hasK su_i_packed) (fun i => hasK_lk (sg_i_packed K K) i) _ (by rw [show partsOf (hasK su_i_packed) (bodyOf Try.f173) = [(true, c_i_packed_L3)] from by kernel_rfl]; exact (lpL_loop (f := mkLoop lv_i_packed_L3 (gi_packed_l3 K K)) (by kernel_rfl) (si_packed_l3 K C hP O K) trivial))) (fun x y h => by rw [← e_i_packed]; exact h)
noncomputable def as_i_Func_of : Ty := (.pair (.st (.pair (.int .i64) (.pair (.int .i64) .unit))) (.pair (.sl (.int .i64)) .unit))
noncomputable def sp_i_Func_of (F : ((Int × Int × Unit) × (List Int) × Unit) → Option Int) : FnSpec := ⟨as_i_Func_of, [false, false], (.int .i64), F⟩
noncomputable def i_Func_of (K : Nat) (x : ((Int × Int × Unit) × (List Int) × Unit)) : Option Int :=
    (i_packed K (x.2.1, ())).bind fun y1 =>
    (i_Func_at K (x.1, y1, ())).bind fun y2 =>
    some y2
noncomputable def rv_i_Func_of : Lv := [(4, (.v (.int .i64)))]
noncomputable def sg_i_Func_of {R : Type} (K : Nat) (k : Nat) : List (Nat × SegS R) := []
noncomputable def su_i_Func_of : List (Nat × Unit) := []
noncomputable def en_i_Func_of {R : Type} (K : Nat) (k : Nat) : Env R := { L := lk [], X := lk [], S := lk (sg_i_Func_of K k), rv := rv_i_Func_of }
noncomputable def cf_i_Func_of (K : Nat) : Cfg := { ty := lk tys, fn := lk [(170, sp_i_Func_at (i_Func_at K)), (173, sp_i_packed (i_packed K))], fs := lk [], prot := 0, nt := Try.f102.ntmps }
theorem e_i_Func_of (K : Nat) (x : den as_i_Func_of) : i_Func_of K x = evFn (cf_i_Func_of K) as_i_Func_of [false, false] (.int .i64) (en_i_Func_of K K) Try.f102.results.toList (bodyOf Try.f102) x := by kernel_rfl
theorem ok_i_Func_of (K : Nat) : FnOk Try.prog 102 (sp_i_Func_of (i_Func_of K)) :=
  fn_ok (cf := cf_i_Func_of K) (en := en_i_Func_of K K) (c := bodyOf Try.f102) Try.func102 (by kernel_rfl) (by kernel_rfl) tysOk (fns_ok (l := [(170, sp_i_Func_at (i_Func_at K)), (173, sp_i_packed (i_packed K))]) ⟨ok_i_Func_at K, ⟨ok_i_packed K, trivial⟩⟩) (shs_ok (l := []) trivial) (by kernel_rfl) rfl (Nat.le_of_ble_eq_true (by kernel_rfl)) (by kernel_rfl) (of_decide_eq_true (by kernel_rfl)) (by decide) (fun C hP O => lpOk_of (en := en_i_Func_of K K) (S := hasK su_i_Func_of) (fun i => hasK_lk (sg_i_Func_of K K) i) _ (by rw [show partsOf (hasK su_i_Func_of) (bodyOf Try.f102) = [] from by kernel_rfl]; exact trivial)) (fun x y h => by rw [← e_i_Func_of]; exact h)
noncomputable def as_i_Func_isOfKind_c1 : Ty := (.pair (.int .i64) (.pair (.int .i64) (.pair (.ptr (.st (.pair (.int .i64) (.pair (.int .i64) .unit)))) .unit)))
noncomputable def sp_i_Func_isOfKind_c1 (F : (Int × Int × (Int × Int × Unit) × Unit) → Option Bool) : FnSpec := ⟨as_i_Func_isOfKind_c1, [false, false, false], .bool, F⟩
noncomputable def i_Func_isOfKind_c1 (K : Nat) (x : (Int × Int × (Int × Int × Unit) × Unit)) : Option Bool :=
    let l1 := [x.1, x.1, x.2.1]
    (i_Func_of K (x.2.2.1, l1, ())).bind fun y2 =>
    (if (decide (y2 = x.1)) = true then
    let l3 := [x.1, x.2.1, x.1]
    (i_Func_of K (x.2.2.1, l3, ())).bind fun y4 =>
    (if (decide (y4 = x.1)) = true then
    let l5 := [x.2.1, x.1, x.1]
    (i_Func_of K (x.2.2.1, l5, ())).bind fun y6 =>
    some (decide (y6 = x.1))
    else
    some false)
    else
    some false)
noncomputable def rv_i_Func_isOfKind_c1 : Lv := [(5, (.v .bool))]
noncomputable def sg_i_Func_isOfKind_c1 {R : Type} (K : Nat) (k : Nat) : List (Nat × SegS R) := []
noncomputable def su_i_Func_isOfKind_c1 : List (Nat × Unit) := []
noncomputable def en_i_Func_isOfKind_c1 {R : Type} (K : Nat) (k : Nat) : Env R := { L := lk [], X := lk [], S := lk (sg_i_Func_isOfKind_c1 K k), rv := rv_i_Func_isOfKind_c1 }
noncomputable def cf_i_Func_isOfKind_c1 (K : Nat) : Cfg := { ty := lk tys, fn := lk [(102, sp_i_Func_of (i_Func_of K))], fs := lk [], prot := 0, nt := Try.f148.ntmps }
theorem e_i_Func_isOfKind_c1 (K : Nat) (x : den as_i_Func_isOfKind_c1) : i_Func_isOfKind_c1 K x = evFn (cf_i_Func_isOfKind_c1 K) as_i_Func_isOfKind_c1 [false, false, false] .bool (en_i_Func_isOfKind_c1 K K) Try.f148.results.toList (bodyOf Try.f148) x := by kernel_rfl
theorem ok_i_Func_isOfKind_c1 (K : Nat) : FnOk Try.prog 148 (sp_i_Func_isOfKind_c1 (i_Func_isOfKind_c1 K)) :=
  fn_ok (cf := cf_i_Func_isOfKind_c1 K) (en := en_i_Func_isOfKind_c1 K K) (c := bodyOf Try.f148) Try.func148 (by kernel_rfl) (by kernel_rfl) tysOk (fns_ok (l := [(102, sp_i_Func_of (i_Func_of K))]) ⟨ok_i_Func_of K, trivial⟩) (shs_ok (l := []) trivial) (by kernel_rfl) rfl (Nat.le_of_ble_eq_true (by kernel_rfl)) (by kernel_rfl) (of_decide_eq_true (by kernel_rfl)) (by decide) (fun C hP O => lpOk_of (en := en_i_Func_isOfKind_c1 K K) (S := hasK su_i_Func_isOfKind_c1) (fun i => hasK_lk (sg_i_Func_isOfKind_c1 K K) i) _ (by rw [show partsOf (hasK su_i_Func_isOfKind_c1) (bodyOf Try.f148) = [] from by kernel_rfl]; exact trivial)) (fun x y h => by rw [← e_i_Func_isOfKind_c1]; exact h)
noncomputable def as_i_Func_isOfKind_c2 : Ty := (.pair (.int .i64) (.pair (.int .i64) (.pair (.ptr (.st (.pair (.int .i64) (.pair (.int .i64) .unit)))) .unit)))
noncomputable def sp_i_Func_isOfKind_c2 (F : (Int × Int × (Int × Int × Unit) × Unit) → Option Bool) : FnSpec := ⟨as_i_Func_isOfKind_c2, [false, false, false], .bool, F⟩
noncomputable def i_Func_isOfKind_c2 (K : Nat) (x : (Int × Int × (Int × Int × Unit) × Unit)) : Option Bool :=
    let l1 := [x.1, x.1, x.2.1]
    (i_Func_of K (x.2.2.1, l1, ())).bind fun y2 =>
    (if (decide (y2 = x.2.1)) = true then
    let l3 := [x.1, x.2.1, x.1]
    (i_Func_of K (x.2.2.1, l3, ())).bind fun y4 =>
    (if (decide (y4 = x.2.1)) = true then
    let l5 := [x.2.1, x.1, x.1]
    (i_Func_of K (x.2.2.1, l5, ())).bind fun y6 =>
    some (decide (y6 = x.2.1))
    else
    some false)
    else
    some false)
noncomputable def rv_i_Func_isOfKind_c2 : Lv := [(5, (.v .bool))]
noncomputable def sg_i_Func_isOfKind_c2 {R : Type} (K : Nat) (k : Nat) : List (Nat × SegS R) := []
noncomputable def su_i_Func_isOfKind_c2 : List (Nat × Unit) := []
noncomputable def en_i_Func_isOfKind_c2 {R : Type} (K : Nat) (k : Nat) : Env R := { L := lk [], X := lk [], S := lk (sg_i_Func_isOfKind_c2 K k), rv := rv_i_Func_isOfKind_c2 }
noncomputable def cf_i_Func_isOfKind_c2 (K : Nat) : Cfg := { ty := lk tys, fn := lk [(102, sp_i_Func_of (i_Func_of K))], fs := lk [], prot := 0, nt := Try.f149.ntmps }
theorem e_i_Func_isOfKind_c2 (K : Nat) (x : den as_i_Func_isOfKind_c2) : i_Func_isOfKind_c2 K x = evFn (cf_i_Func_isOfKind_c2 K) as_i_Func_isOfKind_c2 [false, false, false] .bool (en_i_Func_isOfKind_c2 K K) Try.f149.results.toList (bodyOf Try.f149) x := by kernel_rfl
theorem ok_i_Func_isOfKind_c2 (K : Nat) : FnOk Try.prog 149 (sp_i_Func_isOfKind_c2 (i_Func_isOfKind_c2 K)) :=
  fn_ok (cf := cf_i_Func_isOfKind_c2 K) (en := en_i_Func_isOfKind_c2 K K) (c := bodyOf Try.f149) Try.func149 (by kernel_rfl) (by kernel_rfl) tysOk (fns_ok (l := [(102, sp_i_Func_of (i_Func_of K))]) ⟨ok_i_Func_of K, trivial⟩) (shs_ok (l := []) trivial) (by kernel_rfl) rfl (Nat.le_of_ble_eq_true (by kernel_rfl)) (by kernel_rfl) (of_decide_eq_true (by kernel_rfl)) (by decide) (fun C hP O => lpOk_of (en := en_i_Func_isOfKind_c2 K K) (S := hasK su_i_Func_isOfKind_c2) (fun i => hasK_lk (sg_i_Func_isOfKind_c2 K K) i) _ (by rw [show partsOf (hasK su_i_Func_isOfKind_c2) (bodyOf Try.f149) = [] from by kernel_rfl]; exact trivial)) (fun x y h => by rw [← e_i_Func_isOfKind_c2]; exact h)
noncomputable def as_i_Func_isOfKind_c3 : Ty := (.pair (.int .i64) (.pair (.int .i64) (.pair (.ptr (.st (.pair (.int .i64) (.pair (.int .i64) .unit)))) .unit)))
noncomputable def sp_i_Func_isOfKind_c3 (F : (Int × Int × (Int × Int × Unit) × Unit) → Option Bool) : FnSpec := ⟨as_i_Func_isOfKind_c3, [false, false, false], .bool, F⟩
noncomputable def i_Func_isOfKind_c3 (K : Nat) (x : (Int × Int × (Int × Int × Unit) × Unit)) : Option Bool :=
    let l1 := [x.1, x.2.1, x.2.1]
    (i_Func_of K (x.2.2.1, l1, ())).bind fun y2 =>
    (if (decide (y2 = x.1)) = true then
    let l3 := [x.2.1, x.2.1, x.1]
    (i_Func_of K (x.2.2.1, l3, ())).bind fun y4 =>
    some (decide (y4 = x.1))
    else
    some false)
noncomputable def rv_i_Func_isOfKind_c3 : Lv := [(5, (.v .bool))]
noncomputable def sg_i_Func_isOfKind_c3 {R : Type} (K : Nat) (k : Nat) : List (Nat × SegS R) := []
noncomputable def su_i_Func_isOfKind_c3 : List (Nat × Unit) := []
noncomputable def en_i_Func_isOfKind_c3 {R : Type} (K : Nat) (k : Nat) : Env R := { L := lk [], X := lk [], S := lk (sg_i_Func_isOfKind_c3 K k), rv := rv_i_Func_isOfKind_c3 }
noncomputable def cf_i_Func_isOfKind_c3 (K : Nat) : Cfg := { ty := lk tys, fn := lk [(102, sp_i_Func_of (i_Func_of K))], fs := lk [], prot := 0, nt := Try.f150.ntmps }
theorem e_i_Func_isOfKind_c3 (K : Nat) (x : den as_i_Func_isOfKind_c3) : i_Func_isOfKind_c3 K x = evFn (cf_i_Func_isOfKind_c3 K) as_i_Func_isOfKind_c3 [false, false, false] .bool (en_i_Func_isOfKind_c3 K K) Try.f150.results.toList (bodyOf Try.f150) x := by kernel_rfl
theorem ok_i_Func_isOfKind_c3 (K : Nat) : FnOk Try.prog 150 (sp_i_Func_isOfKind_c3 (i_Func_isOfKind_c3 K)) :=
  fn_ok (cf := cf_i_Func_isOfKind_c3 K) (en := en_i_Func_isOfKind_c3 K K) (c := bodyOf Try.f150) Try.func150 (by kernel_rfl) (by kernel_rfl) tysOk (fns_ok (l := [(102, sp_i_Func_of (i_Func_of K))]) ⟨ok_i_Func_of K, trivial⟩) (shs_ok (l := []) trivial) (by kernel_rfl) rfl (Nat.le_of_ble_eq_true (by kernel_rfl)) (by kernel_rfl) (of_decide_eq_true (by kernel_rfl)) (by decide) (fun C hP O => lpOk_of (en := en_i_Func_isOfKind_c3 K K) (S := hasK su_i_Func_isOfKind_c3) (fun i => hasK_lk (sg_i_Func_isOfKind_c3 K K) i) _ (by rw [show partsOf (hasK su_i_Func_isOfKind_c3) (bodyOf Try.f150) = [] from by kernel_rfl]; exact trivial)) (fun x y h => by rw [← e_i_Func_isOfKind_c3]; exact h)
noncomputable def as_i_Func_isOfKind : Ty := (.pair (.st (.pair (.int .i64) (.pair (.int .i64) .unit))) (.pair (.int .i64) .unit))
noncomputable def sp_i_Func_isOfKind (F : ((Int × Int × Unit) × Int × Unit) → Option Bool) : FnSpec := ⟨as_i_Func_isOfKind, [false, false], .bool, F⟩
noncomputable def i_Func_isOfKind (K : Nat) (x : ((Int × Int × Unit) × Int × Unit)) : Option Bool :=
    (if (!decide (x.1.1 = (3 : Int))) = true then
    some false
    else
    (if (decide (x.2.1 = (0 : Int))) = true then
    (i_forTwo K ((fun y2 => i_Func_isOfKind_c1 K (y2.1, y2.2.1, x.1, ())), ())).bind fun y1 =>
    some y1
    else
    (if (decide (x.2.1 = (1 : Int))) = true then
    (i_forTwo K ((fun y4 => i_Func_isOfKind_c2 K (y4.1, y4.2.1, x.1, ())), ())).bind fun y3 =>
    some y3
    else
    (if (decide (x.2.1 = (2 : Int))) = true then
    (i_forTwo K ((fun y6 => i_Func_isOfKind_c3 K (y6.1, y6.2.1, x.1, ())), ())).bind fun y5 =>
    some y5
    else
    (i_Func_isIdempotent K (x.1, ())).bind fun y7 =>
    (if y7 = true then
    (i_Func_isSymmetric K (x.1, ())).bind fun y8 =>
    some y8
    else
    some false)))))
noncomputable def rv_i_Func_isOfKind : Lv := [(4, (.v .bool))]
noncomputable def sg_i_Func_isOfKind {R : Type} (K : Nat) (k : Nat) : List (Nat × SegS R) := []
noncomputable def su_i_Func_isOfKind : List (Nat × Unit) := []
noncomputable def en_i_Func_isOfKind {R : Type} (K : Nat) (k : Nat) : Env R := { L := lk [], X := lk [], S := lk (sg_i_Func_isOfKind K k), rv := rv_i_Func_isOfKind }
noncomputable def cf_i_Func_isOfKind (K : Nat) : Cfg := { ty := lk tys, fn := lk [(97, sp_i_Func_isIdempotent (i_Func_isIdempotent K)), (100, sp_i_Func_isSymmetric (i_Func_isSymmetric K)), (103, sp_i_forTwo (i_forTwo K)), (148, sp_i_Func_isOfKind_c1 (i_Func_isOfKind_c1 K)), (149, sp_i_Func_isOfKind_c2 (i_Func_isOfKind_c2 K)), (150, sp_i_Func_isOfKind_c3 (i_Func_isOfKind_c3 K))], fs := lk [], prot := 0, nt := Try.f84.ntmps }
theorem e_i_Func_isOfKind (K : Nat) (x : den as_i_Func_isOfKind) : i_Func_isOfKind K x = evFn (cf_i_Func_isOfKind K) as_i_Func_isOfKind [false, false] .bool (en_i_Func_isOfKind K K) Try.f84.results.toList (bodyOf Try.f84) x := by kernel_rfl
theorem ok_i_Func_isOfKind (K : Nat) : FnOk Try.prog 84 (sp_i_Func_isOfKind (i_Func_isOfKind K)) :=
  fn_ok (cf := cf_i_Func_isOfKind K) (en := en_i_Func_isOfKind K K) (c := bodyOf Try.f84) Try.func84 (by kernel_rfl) (by kernel_rfl) tysOk (fns_ok (l := [(97, sp_i_Func_isIdempotent (i_Func_isIdempotent K)), (100, sp_i_Func_isSymmetric (i_Func_isSymmetric K)), (103, sp_i_forTwo (i_forTwo K)), (148, sp_i_Func_isOfKind_c1 (i_Func_isOfKind_c1 K)), (149, sp_i_Func_isOfKind_c2 (i_Func_isOfKind_c2 K)), (150, sp_i_Func_isOfKind_c3 (i_Func_isOfKind_c3 K))]) ⟨ok_i_Func_isIdempotent K, ⟨ok_i_Func_isSymmetric K, ⟨ok_i_forTwo K, ⟨ok_i_Func_isOfKind_c1 K, ⟨ok_i_Func_isOfKind_c2 K, ⟨ok_i_Func_isOfKind_c3 K, trivial⟩⟩⟩⟩⟩⟩) (shs_ok (l := []) trivial) (by kernel_rfl) rfl (Nat.le_of_ble_eq_true (by kernel_rfl)) (by kernel_rfl) (of_decide_eq_true (by kernel_rfl)) (by decide) (fun C hP O => lpOk_of (en := en_i_Func_isOfKind K K) (S := hasK su_i_Func_isOfKind) (fun i => hasK_lk (sg_i_Func_isOfKind K K) i) _ (by rw [show partsOf (hasK su_i_Func_isOfKind) (bodyOf Try.f84) = [] from by kernel_rfl]; exact trivial)) (fun x y h => by rw [← e_i_Func_isOfKind]; exact h)
noncomputable def as_i_within : Ty := (.pair (.int .i64) (.pair (.int .i64) (.pair (.int .i64) .unit)))
noncomputable def sp_i_within (F : (Int × Int × Int × Unit) → Option Bool) : FnSpec := ⟨as_i_within, [false, false, false], .bool, F⟩
noncomputable def i_within (K : Nat) (x : (Int × Int × Int × Unit)) : Option Bool :=
    (if (decide (x.1 ≥ x.2.1)) = true then
    some (decide (x.1 ≤ x.2.2.1))
    else
    some false)
noncomputable def rv_i_within : Lv := [(6, (.v .bool))]
noncomputable def sg_i_within {R : Type} (K : Nat) (k : Nat) : List (Nat × SegS R) := []
noncomputable def su_i_within : List (Nat × Unit) := []
noncomputable def en_i_within {R : Type} (K : Nat) (k : Nat) : Env R := { L := lk [], X := lk [], S := lk (sg_i_within K k), rv := rv_i_within }
noncomputable def cf_i_within (K : Nat) : Cfg := { ty := lk tys, fn := lk [], fs := lk [], prot := 0, nt := Try.f114.ntmps }
theorem e_i_within (K : Nat) (x : den as_i_within) : i_within K x = evFn (cf_i_within K) as_i_within [false, false, false] .bool (en_i_within K K) Try.f114.results.toList (bodyOf Try.f114) x := by kernel_rfl
theorem ok_i_within (K : Nat) : FnOk Try.prog 114 (sp_i_within (i_within K)) :=
  fn_ok (cf := cf_i_within K) (en := en_i_within K K) (c := bodyOf Try.f114) Try.func114 (by kernel_rfl) (by kernel_rfl) tysOk (fns_ok (l := []) trivial) (shs_ok (l := []) trivial) (by kernel_rfl) rfl (Nat.le_of_ble_eq_true (by kernel_rfl)) (by kernel_rfl) (of_decide_eq_true (by kernel_rfl)) (by decide) (fun C hP O => lpOk_of (en := en_i_within K K) (S := hasK su_i_within) (fun i => hasK_lk (sg_i_within K K) i) _ (by rw [show partsOf (hasK su_i_within) (bodyOf Try.f114) = [] from by kernel_rfl]; exact trivial)) (fun x y h => by rw [← e_i_within]; exact h)
noncomputable def as_i_isArity : Ty := (.pair (.int .i64) .unit)
noncomputable def sp_i_isArity (F : (Int × Unit) → Option Bool) : FnSpec := ⟨as_i_isArity, [false], .bool, F⟩
noncomputable def i_isArity (K : Nat) (x : (Int × Unit)) : Option Bool :=
    (i_within K (x.1, (0 : Int), (4 : Int), ())).bind fun y1 =>
    some y1
noncomputable def rv_i_isArity : Lv := [(2, (.v .bool))]
noncomputable def sg_i_isArity {R : Type} (K : Nat) (k : Nat) : List (Nat × SegS R) := []
noncomputable def su_i_isArity : List (Nat × Unit) := []
noncomputable def en_i_isArity {R : Type} (K : Nat) (k : Nat) : Env R := { L := lk [], X := lk [], S := lk (sg_i_isArity K k), rv := rv_i_isArity }
noncomputable def cf_i_isArity (K : Nat) : Cfg := { ty := lk tys, fn := lk [(114, sp_i_within (i_within K))], fs := lk [], prot := 0, nt := Try.f65.ntmps }
theorem e_i_isArity (K : Nat) (x : den as_i_isArity) : i_isArity K x = evFn (cf_i_isArity K) as_i_isArity [false] .bool (en_i_isArity K K) Try.f65.results.toList (bodyOf Try.f65) x := by kernel_rfl
theorem ok_i_isArity (K : Nat) : FnOk Try.prog 65 (sp_i_isArity (i_isArity K)) :=
  fn_ok (cf := cf_i_isArity K) (en := en_i_isArity K K) (c := bodyOf Try.f65) Try.func65 (by kernel_rfl) (by kernel_rfl) tysOk (fns_ok (l := [(114, sp_i_within (i_within K))]) ⟨ok_i_within K, trivial⟩) (shs_ok (l := []) trivial) (by kernel_rfl) rfl (Nat.le_of_ble_eq_true (by kernel_rfl)) (by kernel_rfl) (of_decide_eq_true (by kernel_rfl)) (by decide) (fun C hP O => lpOk_of (en := en_i_isArity K K) (S := hasK su_i_isArity) (fun i => hasK_lk (sg_i_isArity K K) i) _ (by rw [show partsOf (hasK su_i_isArity) (bodyOf Try.f65) = [] from by kernel_rfl]; exact trivial)) (fun x y h => by rw [← e_i_isArity]; exact h)
noncomputable def as_i_funcsOf : Ty := (.pair (.int .i64) .unit)
noncomputable def sp_i_funcsOf (F : (Int × Unit) → Option Int) : FnSpec := ⟨as_i_funcsOf, [false], (.int .i64), F⟩
noncomputable def i_funcsOf (K : Nat) (x : (Int × Unit)) : Option Int :=
    (i_rowsOf K (x.1, ())).bind fun y1 =>
    (if (decide ((0 : Int) ≤ y1)) = true then
    some (shlI .i64 (1 : Int) y1)
    else
    none)
noncomputable def rv_i_funcsOf : Lv := [(2, (.v (.int .i64)))]
noncomputable def sg_i_funcsOf {R : Type} (K : Nat) (k : Nat) : List (Nat × SegS R) := []
noncomputable def su_i_funcsOf : List (Nat × Unit) := []
noncomputable def en_i_funcsOf {R : Type} (K : Nat) (k : Nat) : Env R := { L := lk [], X := lk [], S := lk (sg_i_funcsOf K k), rv := rv_i_funcsOf }
noncomputable def cf_i_funcsOf (K : Nat) : Cfg := { ty := lk tys, fn := lk [(164, sp_i_rowsOf (i_rowsOf K))], fs := lk [], prot := 0, nt := Try.f109.ntmps }
theorem e_i_funcsOf (K : Nat) (x : den as_i_funcsOf) : i_funcsOf K x = evFn (cf_i_funcsOf K) as_i_funcsOf [false] (.int .i64) (en_i_funcsOf K K) Try.f109.results.toList (bodyOf Try.f109) x := by kernel_rfl
theorem ok_i_funcsOf (K : Nat) : FnOk Try.prog 109 (sp_i_funcsOf (i_funcsOf K)) :=
  fn_ok (cf := cf_i_funcsOf K) (en := en_i_funcsOf K K) (c := bodyOf Try.f109) Try.func109 (by kernel_rfl) (by kernel_rfl) tysOk (fns_ok (l := [(164, sp_i_rowsOf (i_rowsOf K))]) ⟨ok_i_rowsOf K, trivial⟩) (shs_ok (l := []) trivial) (by kernel_rfl) rfl (Nat.le_of_ble_eq_true (by kernel_rfl)) (by kernel_rfl) (of_decide_eq_true (by kernel_rfl)) (by decide) (fun C hP O => lpOk_of (en := en_i_funcsOf K K) (S := hasK su_i_funcsOf) (fun i => hasK_lk (sg_i_funcsOf K K) i) _ (by rw [show partsOf (hasK su_i_funcsOf) (bodyOf Try.f109) = [] from by kernel_rfl]; exact trivial)) (fun x y h => by rw [← e_i_funcsOf]; exact h)
noncomputable def as_i_IsFunc : Ty := (.pair (.st (.pair (.int .i64) (.pair (.int .i64) .unit))) .unit)
noncomputable def sp_i_IsFunc (F : ((Int × Int × Unit) × Unit) → Option Bool) : FnSpec := ⟨as_i_IsFunc, [false], .bool, F⟩
noncomputable def i_IsFunc (K : Nat) (x : ((Int × Int × Unit) × Unit)) : Option Bool :=
    (i_isArity K (x.1.1, ())).bind fun y1 =>
    (if y1 = true then
    (i_funcsOf K (x.1.1, ())).bind fun y2 =>
    (i_within K (x.1.2.1, (0 : Int), (IntKind.i64.wrap (y2 - (1 : Int))), ())).bind fun y3 =>
    some y3
    else
    some false)
noncomputable def rv_i_IsFunc : Lv := [(2, (.v .bool))]
noncomputable def sg_i_IsFunc {R : Type} (K : Nat) (k : Nat) : List (Nat × SegS R) := []
noncomputable def su_i_IsFunc : List (Nat × Unit) := []
noncomputable def en_i_IsFunc {R : Type} (K : Nat) (k : Nat) : Env R := { L := lk [], X := lk [], S := lk (sg_i_IsFunc K k), rv := rv_i_IsFunc }
noncomputable def cf_i_IsFunc (K : Nat) : Cfg := { ty := lk tys, fn := lk [(65, sp_i_isArity (i_isArity K)), (109, sp_i_funcsOf (i_funcsOf K)), (114, sp_i_within (i_within K))], fs := lk [], prot := 0, nt := Try.f96.ntmps }
theorem e_i_IsFunc (K : Nat) (x : den as_i_IsFunc) : i_IsFunc K x = evFn (cf_i_IsFunc K) as_i_IsFunc [false] .bool (en_i_IsFunc K K) Try.f96.results.toList (bodyOf Try.f96) x := by kernel_rfl
theorem ok_i_IsFunc (K : Nat) : FnOk Try.prog 96 (sp_i_IsFunc (i_IsFunc K)) :=
  fn_ok (cf := cf_i_IsFunc K) (en := en_i_IsFunc K K) (c := bodyOf Try.f96) Try.func96 (by kernel_rfl) (by kernel_rfl) tysOk (fns_ok (l := [(65, sp_i_isArity (i_isArity K)), (109, sp_i_funcsOf (i_funcsOf K)), (114, sp_i_within (i_within K))]) ⟨ok_i_isArity K, ⟨ok_i_funcsOf K, ⟨ok_i_within K, trivial⟩⟩⟩) (shs_ok (l := []) trivial) (by kernel_rfl) rfl (Nat.le_of_ble_eq_true (by kernel_rfl)) (by kernel_rfl) (of_decide_eq_true (by kernel_rfl)) (by decide) (fun C hP O => lpOk_of (en := en_i_IsFunc K K) (S := hasK su_i_IsFunc) (fun i => hasK_lk (sg_i_IsFunc K K) i) _ (by rw [show partsOf (hasK su_i_IsFunc) (bodyOf Try.f96) = [] from by kernel_rfl]; exact trivial)) (fun x y h => by rw [← e_i_IsFunc]; exact h)
noncomputable def as_i_HasNearUnanimity : Ty := (.pair (.st (.pair (.int .i64) (.pair (.int .i64) .unit))) .unit)
noncomputable def sp_i_HasNearUnanimity (F : ((Int × Int × Unit) × Unit) → Option (Bool × Int × Unit)) : FnSpec := ⟨as_i_HasNearUnanimity, [false], (.tup (.pair .bool (.pair (.int .i64) .unit))), F⟩
noncomputable def i_HasNearUnanimity (K : Nat) (x : ((Int × Int × Unit) × Unit)) : Option (Bool × Int × Unit) :=
    (i_IsFunc K (x.1, ())).bind fun y1 =>
    (if (!y1) = true then
    some (false, (1 : Int), ())
    else
    (i_Func_hasNearUnanimity K (x.1, ())).bind fun y2 =>
    some (y2, (0 : Int), ()))
noncomputable def rv_i_HasNearUnanimity : Lv := [(2, (.v .bool)), (3, (.v (.int .i64)))]
noncomputable def sg_i_HasNearUnanimity {R : Type} (K : Nat) (k : Nat) : List (Nat × SegS R) := []
noncomputable def su_i_HasNearUnanimity : List (Nat × Unit) := []
noncomputable def en_i_HasNearUnanimity {R : Type} (K : Nat) (k : Nat) : Env R := { L := lk [], X := lk [], S := lk (sg_i_HasNearUnanimity K k), rv := rv_i_HasNearUnanimity }
noncomputable def cf_i_HasNearUnanimity (K : Nat) : Cfg := { ty := lk tys, fn := lk [(96, sp_i_IsFunc (i_IsFunc K)), (106, sp_i_Func_hasNearUnanimity (i_Func_hasNearUnanimity K))], fs := lk [], prot := 0, nt := Try.f42.ntmps }
theorem e_i_HasNearUnanimity (K : Nat) (x : den as_i_HasNearUnanimity) : i_HasNearUnanimity K x = evFn (cf_i_HasNearUnanimity K) as_i_HasNearUnanimity [false] (.tup (.pair .bool (.pair (.int .i64) .unit))) (en_i_HasNearUnanimity K K) Try.f42.results.toList (bodyOf Try.f42) x := by kernel_rfl
theorem ok_i_HasNearUnanimity (K : Nat) : FnOk Try.prog 42 (sp_i_HasNearUnanimity (i_HasNearUnanimity K)) :=
  fn_ok (cf := cf_i_HasNearUnanimity K) (en := en_i_HasNearUnanimity K K) (c := bodyOf Try.f42) Try.func42 (by kernel_rfl) (by kernel_rfl) tysOk (fns_ok (l := [(96, sp_i_IsFunc (i_IsFunc K)), (106, sp_i_Func_hasNearUnanimity (i_Func_hasNearUnanimity K))]) ⟨ok_i_IsFunc K, ⟨ok_i_Func_hasNearUnanimity K, trivial⟩⟩) (shs_ok (l := []) trivial) (by kernel_rfl) rfl (Nat.le_of_ble_eq_true (by kernel_rfl)) (by kernel_rfl) (of_decide_eq_true (by kernel_rfl)) (by decide) (fun C hP O => lpOk_of (en := en_i_HasNearUnanimity K K) (S := hasK su_i_HasNearUnanimity) (fun i => hasK_lk (sg_i_HasNearUnanimity K K) i) _ (by rw [show partsOf (hasK su_i_HasNearUnanimity) (bodyOf Try.f42) = [] from by kernel_rfl]; exact trivial)) (fun x y h => by rw [← e_i_HasNearUnanimity]; exact h)
noncomputable def as_i_IsIdempotent : Ty := (.pair (.st (.pair (.int .i64) (.pair (.int .i64) .unit))) .unit)
noncomputable def sp_i_IsIdempotent (F : ((Int × Int × Unit) × Unit) → Option (Bool × Int × Unit)) : FnSpec := ⟨as_i_IsIdempotent, [false], (.tup (.pair .bool (.pair (.int .i64) .unit))), F⟩
noncomputable def i_IsIdempotent (K : Nat) (x : ((Int × Int × Unit) × Unit)) : Option (Bool × Int × Unit) :=
    (i_IsFunc K (x.1, ())).bind fun y1 =>
    (if (!y1) = true then
    some (false, (1 : Int), ())
    else
    (i_Func_isIdempotent K (x.1, ())).bind fun y2 =>
    some (y2, (0 : Int), ()))
noncomputable def rv_i_IsIdempotent : Lv := [(2, (.v .bool)), (3, (.v (.int .i64)))]
noncomputable def sg_i_IsIdempotent {R : Type} (K : Nat) (k : Nat) : List (Nat × SegS R) := []
noncomputable def su_i_IsIdempotent : List (Nat × Unit) := []
noncomputable def en_i_IsIdempotent {R : Type} (K : Nat) (k : Nat) : Env R := { L := lk [], X := lk [], S := lk (sg_i_IsIdempotent K k), rv := rv_i_IsIdempotent }
noncomputable def cf_i_IsIdempotent (K : Nat) : Cfg := { ty := lk tys, fn := lk [(96, sp_i_IsFunc (i_IsFunc K)), (97, sp_i_Func_isIdempotent (i_Func_isIdempotent K))], fs := lk [], prot := 0, nt := Try.f36.ntmps }
theorem e_i_IsIdempotent (K : Nat) (x : den as_i_IsIdempotent) : i_IsIdempotent K x = evFn (cf_i_IsIdempotent K) as_i_IsIdempotent [false] (.tup (.pair .bool (.pair (.int .i64) .unit))) (en_i_IsIdempotent K K) Try.f36.results.toList (bodyOf Try.f36) x := by kernel_rfl
theorem ok_i_IsIdempotent (K : Nat) : FnOk Try.prog 36 (sp_i_IsIdempotent (i_IsIdempotent K)) :=
  fn_ok (cf := cf_i_IsIdempotent K) (en := en_i_IsIdempotent K K) (c := bodyOf Try.f36) Try.func36 (by kernel_rfl) (by kernel_rfl) tysOk (fns_ok (l := [(96, sp_i_IsFunc (i_IsFunc K)), (97, sp_i_Func_isIdempotent (i_Func_isIdempotent K))]) ⟨ok_i_IsFunc K, ⟨ok_i_Func_isIdempotent K, trivial⟩⟩) (shs_ok (l := []) trivial) (by kernel_rfl) rfl (Nat.le_of_ble_eq_true (by kernel_rfl)) (by kernel_rfl) (of_decide_eq_true (by kernel_rfl)) (by decide) (fun C hP O => lpOk_of (en := en_i_IsIdempotent K K) (S := hasK su_i_IsIdempotent) (fun i => hasK_lk (sg_i_IsIdempotent K K) i) _ (by rw [show partsOf (hasK su_i_IsIdempotent) (bodyOf Try.f36) = [] from by kernel_rfl]; exact trivial)) (fun x y h => by rw [← e_i_IsIdempotent]; exact h)
noncomputable def as_i_isKind : Ty := (.pair (.int .i64) .unit)
noncomputable def sp_i_isKind (F : (Int × Unit) → Option Bool) : FnSpec := ⟨as_i_isKind, [false], .bool, F⟩
noncomputable def i_isKind (K : Nat) (x : (Int × Unit)) : Option Bool :=
    (i_within K (x.1, (0 : Int), (3 : Int), ())).bind fun y1 =>
    some y1
noncomputable def rv_i_isKind : Lv := [(2, (.v .bool))]
noncomputable def sg_i_isKind {R : Type} (K : Nat) (k : Nat) : List (Nat × SegS R) := []
noncomputable def su_i_isKind : List (Nat × Unit) := []
noncomputable def en_i_isKind {R : Type} (K : Nat) (k : Nat) : Env R := { L := lk [], X := lk [], S := lk (sg_i_isKind K k), rv := rv_i_isKind }
noncomputable def cf_i_isKind (K : Nat) : Cfg := { ty := lk tys, fn := lk [(114, sp_i_within (i_within K))], fs := lk [], prot := 0, nt := Try.f80.ntmps }
theorem e_i_isKind (K : Nat) (x : den as_i_isKind) : i_isKind K x = evFn (cf_i_isKind K) as_i_isKind [false] .bool (en_i_isKind K K) Try.f80.results.toList (bodyOf Try.f80) x := by kernel_rfl
theorem ok_i_isKind (K : Nat) : FnOk Try.prog 80 (sp_i_isKind (i_isKind K)) :=
  fn_ok (cf := cf_i_isKind K) (en := en_i_isKind K K) (c := bodyOf Try.f80) Try.func80 (by kernel_rfl) (by kernel_rfl) tysOk (fns_ok (l := [(114, sp_i_within (i_within K))]) ⟨ok_i_within K, trivial⟩) (shs_ok (l := []) trivial) (by kernel_rfl) rfl (Nat.le_of_ble_eq_true (by kernel_rfl)) (by kernel_rfl) (of_decide_eq_true (by kernel_rfl)) (by decide) (fun C hP O => lpOk_of (en := en_i_isKind K K) (S := hasK su_i_isKind) (fun i => hasK_lk (sg_i_isKind K K) i) _ (by rw [show partsOf (hasK su_i_isKind) (bodyOf Try.f80) = [] from by kernel_rfl]; exact trivial)) (fun x y h => by rw [← e_i_isKind]; exact h)
noncomputable def as_i_IsOfKind : Ty := (.pair (.st (.pair (.int .i64) (.pair (.int .i64) .unit))) (.pair (.int .i64) .unit))
noncomputable def sp_i_IsOfKind (F : ((Int × Int × Unit) × Int × Unit) → Option (Bool × Int × Unit)) : FnSpec := ⟨as_i_IsOfKind, [false, false], (.tup (.pair .bool (.pair (.int .i64) .unit))), F⟩
noncomputable def i_IsOfKind (K : Nat) (x : ((Int × Int × Unit) × Int × Unit)) : Option (Bool × Int × Unit) :=
    (i_IsFunc K (x.1, ())).bind fun y1 =>
    (if (!y1) = true then
    some (false, (1 : Int), ())
    else
    (i_isKind K (x.2.1, ())).bind fun y2 =>
    (if (!y2) = true then
    some (false, (2 : Int), ())
    else
    (i_Func_isOfKind K (x.1, x.2.1, ())).bind fun y3 =>
    some (y3, (0 : Int), ())))
noncomputable def rv_i_IsOfKind : Lv := [(4, (.v .bool)), (5, (.v (.int .i64)))]
noncomputable def sg_i_IsOfKind {R : Type} (K : Nat) (k : Nat) : List (Nat × SegS R) := []
noncomputable def su_i_IsOfKind : List (Nat × Unit) := []
noncomputable def en_i_IsOfKind {R : Type} (K : Nat) (k : Nat) : Env R := { L := lk [], X := lk [], S := lk (sg_i_IsOfKind K k), rv := rv_i_IsOfKind }
noncomputable def cf_i_IsOfKind (K : Nat) : Cfg := { ty := lk tys, fn := lk [(80, sp_i_isKind (i_isKind K)), (84, sp_i_Func_isOfKind (i_Func_isOfKind K)), (96, sp_i_IsFunc (i_IsFunc K))], fs := lk [], prot := 0, nt := Try.f33.ntmps }
theorem e_i_IsOfKind (K : Nat) (x : den as_i_IsOfKind) : i_IsOfKind K x = evFn (cf_i_IsOfKind K) as_i_IsOfKind [false, false] (.tup (.pair .bool (.pair (.int .i64) .unit))) (en_i_IsOfKind K K) Try.f33.results.toList (bodyOf Try.f33) x := by kernel_rfl
theorem ok_i_IsOfKind (K : Nat) : FnOk Try.prog 33 (sp_i_IsOfKind (i_IsOfKind K)) :=
  fn_ok (cf := cf_i_IsOfKind K) (en := en_i_IsOfKind K K) (c := bodyOf Try.f33) Try.func33 (by kernel_rfl) (by kernel_rfl) tysOk (fns_ok (l := [(80, sp_i_isKind (i_isKind K)), (84, sp_i_Func_isOfKind (i_Func_isOfKind K)), (96, sp_i_IsFunc (i_IsFunc K))]) ⟨ok_i_isKind K, ⟨ok_i_Func_isOfKind K, ⟨ok_i_IsFunc K, trivial⟩⟩⟩) (shs_ok (l := []) trivial) (by kernel_rfl) rfl (Nat.le_of_ble_eq_true (by kernel_rfl)) (by kernel_rfl) (of_decide_eq_true (by kernel_rfl)) (by decide) (fun C hP O => lpOk_of (en := en_i_IsOfKind K K) (S := hasK su_i_IsOfKind) (fun i => hasK_lk (sg_i_IsOfKind K K) i) _ (by rw [show partsOf (hasK su_i_IsOfKind) (bodyOf Try.f33) = [] from by kernel_rfl]; exact trivial)) (fun x y h => by rw [← e_i_IsOfKind]; exact h)
noncomputable def as_i_IsSemilattice_c1 : Ty := (.pair (.int .i64) (.pair (.int .i64) (.pair (.ptr (.st (.pair (.int .i64) (.pair (.int .i64) .unit)))) .unit)))
noncomputable def sp_i_IsSemilattice_c1 (F : (Int × Int × (Int × Int × Unit) × Unit) → Option Bool) : FnSpec := ⟨as_i_IsSemilattice_c1, [false, false, false], .bool, F⟩
noncomputable def i_IsSemilattice_c1 (K : Nat) (x : (Int × Int × (Int × Int × Unit) × Unit)) : Option Bool :=
    let l1 := [x.2.1, (0 : Int)]
    (i_Func_of K (x.2.2.1, l1, ())).bind fun y2 =>
    let l3 := [x.1, y2]
    (i_Func_of K (x.2.2.1, l3, ())).bind fun y4 =>
    let l5 := [x.1, x.2.1]
    (i_Func_of K (x.2.2.1, l5, ())).bind fun y6 =>
    let l7 := [y6, (0 : Int)]
    (i_Func_of K (x.2.2.1, l7, ())).bind fun y8 =>
    (if (decide (y4 = y8)) = true then
    let l9 := [x.2.1, (1 : Int)]
    (i_Func_of K (x.2.2.1, l9, ())).bind fun y10 =>
    let l11 := [x.1, y10]
    (i_Func_of K (x.2.2.1, l11, ())).bind fun y12 =>
    let l13 := [x.1, x.2.1]
    (i_Func_of K (x.2.2.1, l13, ())).bind fun y14 =>
    let l15 := [y14, (1 : Int)]
    (i_Func_of K (x.2.2.1, l15, ())).bind fun y16 =>
    some (decide (y12 = y16))
    else
    some false)
noncomputable def rv_i_IsSemilattice_c1 : Lv := [(5, (.v .bool))]
noncomputable def sg_i_IsSemilattice_c1 {R : Type} (K : Nat) (k : Nat) : List (Nat × SegS R) := []
noncomputable def su_i_IsSemilattice_c1 : List (Nat × Unit) := []
noncomputable def en_i_IsSemilattice_c1 {R : Type} (K : Nat) (k : Nat) : Env R := { L := lk [], X := lk [], S := lk (sg_i_IsSemilattice_c1 K k), rv := rv_i_IsSemilattice_c1 }
noncomputable def cf_i_IsSemilattice_c1 (K : Nat) : Cfg := { ty := lk tys, fn := lk [(102, sp_i_Func_of (i_Func_of K))], fs := lk [], prot := 0, nt := Try.f104.ntmps }
theorem e_i_IsSemilattice_c1 (K : Nat) (x : den as_i_IsSemilattice_c1) : i_IsSemilattice_c1 K x = evFn (cf_i_IsSemilattice_c1 K) as_i_IsSemilattice_c1 [false, false, false] .bool (en_i_IsSemilattice_c1 K K) Try.f104.results.toList (bodyOf Try.f104) x := by kernel_rfl
theorem ok_i_IsSemilattice_c1 (K : Nat) : FnOk Try.prog 104 (sp_i_IsSemilattice_c1 (i_IsSemilattice_c1 K)) :=
  fn_ok (cf := cf_i_IsSemilattice_c1 K) (en := en_i_IsSemilattice_c1 K K) (c := bodyOf Try.f104) Try.func104 (by kernel_rfl) (by kernel_rfl) tysOk (fns_ok (l := [(102, sp_i_Func_of (i_Func_of K))]) ⟨ok_i_Func_of K, trivial⟩) (shs_ok (l := []) trivial) (by kernel_rfl) rfl (Nat.le_of_ble_eq_true (by kernel_rfl)) (by kernel_rfl) (of_decide_eq_true (by kernel_rfl)) (by decide) (fun C hP O => lpOk_of (en := en_i_IsSemilattice_c1 K K) (S := hasK su_i_IsSemilattice_c1) (fun i => hasK_lk (sg_i_IsSemilattice_c1 K K) i) _ (by rw [show partsOf (hasK su_i_IsSemilattice_c1) (bodyOf Try.f104) = [] from by kernel_rfl]; exact trivial)) (fun x y h => by rw [← e_i_IsSemilattice_c1]; exact h)
noncomputable def as_i_IsSemilattice : Ty := (.pair (.st (.pair (.int .i64) (.pair (.int .i64) .unit))) .unit)
noncomputable def sp_i_IsSemilattice (F : ((Int × Int × Unit) × Unit) → Option (Bool × Int × Unit)) : FnSpec := ⟨as_i_IsSemilattice, [false], (.tup (.pair .bool (.pair (.int .i64) .unit))), F⟩
noncomputable def i_IsSemilattice (K : Nat) (x : ((Int × Int × Unit) × Unit)) : Option (Bool × Int × Unit) :=
    (i_IsFunc K (x.1, ())).bind fun y1 =>
    (if (!y1) = true then
    some (false, (1 : Int), ())
    else
    (if (decide (x.1.1 = (2 : Int))) = true then
    (i_Func_isIdempotent K (x.1, ())).bind fun y2 =>
    (if y2 = true then
    let l3 := [(0 : Int), (1 : Int)]
    (i_Func_of K (x.1, l3, ())).bind fun y4 =>
    let l5 := [(1 : Int), (0 : Int)]
    (i_Func_of K (x.1, l5, ())).bind fun y6 =>
    (if (decide (y4 = y6)) = true then
    (i_forTwo K ((fun y8 => i_IsSemilattice_c1 K (y8.1, y8.2.1, x.1, ())), ())).bind fun y7 =>
    some (y7, (0 : Int), ())
    else
    some (false, (0 : Int), ()))
    else
    some (false, (0 : Int), ()))
    else
    some (false, (0 : Int), ())))
noncomputable def rv_i_IsSemilattice : Lv := [(2, (.v .bool)), (3, (.v (.int .i64)))]
noncomputable def sg_i_IsSemilattice {R : Type} (K : Nat) (k : Nat) : List (Nat × SegS R) := []
noncomputable def su_i_IsSemilattice : List (Nat × Unit) := []
noncomputable def en_i_IsSemilattice {R : Type} (K : Nat) (k : Nat) : Env R := { L := lk [], X := lk [], S := lk (sg_i_IsSemilattice K k), rv := rv_i_IsSemilattice }
noncomputable def cf_i_IsSemilattice (K : Nat) : Cfg := { ty := lk tys, fn := lk [(96, sp_i_IsFunc (i_IsFunc K)), (97, sp_i_Func_isIdempotent (i_Func_isIdempotent K)), (102, sp_i_Func_of (i_Func_of K)), (103, sp_i_forTwo (i_forTwo K)), (104, sp_i_IsSemilattice_c1 (i_IsSemilattice_c1 K))], fs := lk [], prot := 0, nt := Try.f40.ntmps }
theorem e_i_IsSemilattice (K : Nat) (x : den as_i_IsSemilattice) : i_IsSemilattice K x = evFn (cf_i_IsSemilattice K) as_i_IsSemilattice [false] (.tup (.pair .bool (.pair (.int .i64) .unit))) (en_i_IsSemilattice K K) Try.f40.results.toList (bodyOf Try.f40) x := by kernel_rfl
theorem ok_i_IsSemilattice (K : Nat) : FnOk Try.prog 40 (sp_i_IsSemilattice (i_IsSemilattice K)) :=
  fn_ok (cf := cf_i_IsSemilattice K) (en := en_i_IsSemilattice K K) (c := bodyOf Try.f40) Try.func40 (by kernel_rfl) (by kernel_rfl) tysOk (fns_ok (l := [(96, sp_i_IsFunc (i_IsFunc K)), (97, sp_i_Func_isIdempotent (i_Func_isIdempotent K)), (102, sp_i_Func_of (i_Func_of K)), (103, sp_i_forTwo (i_forTwo K)), (104, sp_i_IsSemilattice_c1 (i_IsSemilattice_c1 K))]) ⟨ok_i_IsFunc K, ⟨ok_i_Func_isIdempotent K, ⟨ok_i_Func_of K, ⟨ok_i_forTwo K, ⟨ok_i_IsSemilattice_c1 K, trivial⟩⟩⟩⟩⟩) (shs_ok (l := []) trivial) (by kernel_rfl) rfl (Nat.le_of_ble_eq_true (by kernel_rfl)) (by kernel_rfl) (of_decide_eq_true (by kernel_rfl)) (by decide) (fun C hP O => lpOk_of (en := en_i_IsSemilattice K K) (S := hasK su_i_IsSemilattice) (fun i => hasK_lk (sg_i_IsSemilattice K K) i) _ (by rw [show partsOf (hasK su_i_IsSemilattice) (bodyOf Try.f40) = [] from by kernel_rfl]; exact trivial)) (fun x y h => by rw [← e_i_IsSemilattice]; exact h)
noncomputable def as_i_IsSymmetric : Ty := (.pair (.st (.pair (.int .i64) (.pair (.int .i64) .unit))) .unit)
noncomputable def sp_i_IsSymmetric (F : ((Int × Int × Unit) × Unit) → Option (Bool × Int × Unit)) : FnSpec := ⟨as_i_IsSymmetric, [false], (.tup (.pair .bool (.pair (.int .i64) .unit))), F⟩
noncomputable def i_IsSymmetric (K : Nat) (x : ((Int × Int × Unit) × Unit)) : Option (Bool × Int × Unit) :=
    (i_IsFunc K (x.1, ())).bind fun y1 =>
    (if (!y1) = true then
    some (false, (1 : Int), ())
    else
    (i_Func_isSymmetric K (x.1, ())).bind fun y2 =>
    some (y2, (0 : Int), ()))
noncomputable def rv_i_IsSymmetric : Lv := [(2, (.v .bool)), (3, (.v (.int .i64)))]
noncomputable def sg_i_IsSymmetric {R : Type} (K : Nat) (k : Nat) : List (Nat × SegS R) := []
noncomputable def su_i_IsSymmetric : List (Nat × Unit) := []
noncomputable def en_i_IsSymmetric {R : Type} (K : Nat) (k : Nat) : Env R := { L := lk [], X := lk [], S := lk (sg_i_IsSymmetric K k), rv := rv_i_IsSymmetric }
noncomputable def cf_i_IsSymmetric (K : Nat) : Cfg := { ty := lk tys, fn := lk [(96, sp_i_IsFunc (i_IsFunc K)), (100, sp_i_Func_isSymmetric (i_Func_isSymmetric K))], fs := lk [], prot := 0, nt := Try.f38.ntmps }
theorem e_i_IsSymmetric (K : Nat) (x : den as_i_IsSymmetric) : i_IsSymmetric K x = evFn (cf_i_IsSymmetric K) as_i_IsSymmetric [false] (.tup (.pair .bool (.pair (.int .i64) .unit))) (en_i_IsSymmetric K K) Try.f38.results.toList (bodyOf Try.f38) x := by kernel_rfl
theorem ok_i_IsSymmetric (K : Nat) : FnOk Try.prog 38 (sp_i_IsSymmetric (i_IsSymmetric K)) :=
  fn_ok (cf := cf_i_IsSymmetric K) (en := en_i_IsSymmetric K K) (c := bodyOf Try.f38) Try.func38 (by kernel_rfl) (by kernel_rfl) tysOk (fns_ok (l := [(96, sp_i_IsFunc (i_IsFunc K)), (100, sp_i_Func_isSymmetric (i_Func_isSymmetric K))]) ⟨ok_i_IsFunc K, ⟨ok_i_Func_isSymmetric K, trivial⟩⟩) (shs_ok (l := []) trivial) (by kernel_rfl) rfl (Nat.le_of_ble_eq_true (by kernel_rfl)) (by kernel_rfl) (of_decide_eq_true (by kernel_rfl)) (by decide) (fun C hP O => lpOk_of (en := en_i_IsSymmetric K K) (S := hasK su_i_IsSymmetric) (fun i => hasK_lk (sg_i_IsSymmetric K K) i) _ (by rw [show partsOf (hasK su_i_IsSymmetric) (bodyOf Try.f38) = [] from by kernel_rfl]; exact trivial)) (fun x y h => by rw [← e_i_IsSymmetric]; exact h)
noncomputable def as_i_one : Ty := (.pair .bool .unit)
noncomputable def sp_i_one (F : (Bool × Unit) → Option Int) : FnSpec := ⟨as_i_one, [false], (.int .i64), F⟩
noncomputable def i_one (K : Nat) (x : (Bool × Unit)) : Option Int :=
    (if x.1 = true then
    some (1 : Int)
    else
    some (0 : Int))
noncomputable def rv_i_one : Lv := [(2, (.v (.int .i64)))]
noncomputable def sg_i_one {R : Type} (K : Nat) (k : Nat) : List (Nat × SegS R) := []
noncomputable def su_i_one : List (Nat × Unit) := []
noncomputable def en_i_one {R : Type} (K : Nat) (k : Nat) : Env R := { L := lk [], X := lk [], S := lk (sg_i_one K k), rv := rv_i_one }
noncomputable def cf_i_one (K : Nat) : Cfg := { ty := lk tys, fn := lk [], fs := lk [], prot := 0, nt := Try.f110.ntmps }
theorem e_i_one (K : Nat) (x : den as_i_one) : i_one K x = evFn (cf_i_one K) as_i_one [false] (.int .i64) (en_i_one K K) Try.f110.results.toList (bodyOf Try.f110) x := by kernel_rfl
theorem ok_i_one (K : Nat) : FnOk Try.prog 110 (sp_i_one (i_one K)) :=
  fn_ok (cf := cf_i_one K) (en := en_i_one K K) (c := bodyOf Try.f110) Try.func110 (by kernel_rfl) (by kernel_rfl) tysOk (fns_ok (l := []) trivial) (shs_ok (l := []) trivial) (by kernel_rfl) rfl (Nat.le_of_ble_eq_true (by kernel_rfl)) (by kernel_rfl) (of_decide_eq_true (by kernel_rfl)) (by decide) (fun C hP O => lpOk_of (en := en_i_one K K) (S := hasK su_i_one) (fun i => hasK_lk (sg_i_one K K) i) _ (by rw [show partsOf (hasK su_i_one) (bodyOf Try.f110) = [] from by kernel_rfl]; exact trivial)) (fun x y h => by rw [← e_i_one]; exact h)
noncomputable def as_i_KindCounts : Ty := (.pair (.int .i64) .unit)
noncomputable def sp_i_KindCounts (F : (Int × Unit) → Option ((List Int) × Int × Unit)) : FnSpec := ⟨as_i_KindCounts, [false], (.tup (.pair (.sl (.int .i64)) (.pair (.int .i64) .unit))), F⟩
noncomputable def i_KindCounts_j12 {R : Type} (K : Nat) (k : Nat) (v0 : Int) (v4 : (List Int)) (v6 : (Int × Int × Unit)) (v14 : Int) (v15 : Int) (kn : Int → (List Int) → Int → Int → Option R)  : Option R :=
    (if (bnds (3 : Int) (v4.length : Int)) = true then
    (i_Func_hasNearUnanimity K (v6, ())).bind fun y15 =>
    (i_one K (y15, ())).bind fun y16 =>
    let x17 := (IntKind.i64.wrap ((v4.getD (3 : Int).toNat (0 : Int)) + y16))
    (if (bnds (3 : Int) (v4.length : Int)) = true then
    let l18 := (v4.set (3 : Int).toNat x17)
    kn v0 l18 v14 v15
    else
    none)
    else
    none)
noncomputable def i_KindCounts_l5 {R : Type} (K : Nat) : Nat → Int → (List Int) → Int → Int → ((List Int) → Option R) → Option R
  | 0, _, _, _, _, _ => none
  | k + 1, v0, v4, v14, v15, kx0 =>
    (if (decide (v15 < v14)) = true then
    (i_Func_isIdempotent K (((v0, ((0 : Int), (0 : Int), ()).2.1, ()).1, v15, ()), ())).bind fun y4 =>
    (i_Func_isSymmetric K (((v0, ((0 : Int), (0 : Int), ()).2.1, ()).1, v15, ()), ())).bind fun y5 =>
    (if (bnds (0 : Int) (v4.length : Int)) = true then
    (i_one K (y4, ())).bind fun y6 =>
    let x7 := (IntKind.i64.wrap ((v4.getD (0 : Int).toNat (0 : Int)) + y6))
    (if (bnds (0 : Int) (v4.length : Int)) = true then
    let l8 := (v4.set (0 : Int).toNat x7)
    (if (bnds (1 : Int) (l8.length : Int)) = true then
    (i_one K (y5, ())).bind fun y9 =>
    let x10 := (IntKind.i64.wrap ((l8.getD (1 : Int).toNat (0 : Int)) + y9))
    (if (bnds (1 : Int) (l8.length : Int)) = true then
    let l11 := (l8.set (1 : Int).toNat x10)
    (if (bnds (2 : Int) (l11.length : Int)) = true then
    (if y4 = true then
    (i_one K (y5, ())).bind fun y12 =>
    let x13 := (IntKind.i64.wrap ((l11.getD (2 : Int).toNat (0 : Int)) + y12))
    (if (bnds (2 : Int) (l11.length : Int)) = true then
    let l14 := (l11.set (2 : Int).toNat x13)
    i_KindCounts_j12 K k v0 l14 ((v0, ((0 : Int), (0 : Int), ()).2.1, ()).1, v15, ()) v14 v15 (fun z19 z20 z21 z22 =>
    i_KindCounts_l5 K k z19 z20 z21 (IntKind.i64.wrap (z22 + (1 : Int))) kx0)
    else
    none)
    else
    (i_one K (false, ())).bind fun y23 =>
    let x24 := (IntKind.i64.wrap ((l11.getD (2 : Int).toNat (0 : Int)) + y23))
    (if (bnds (2 : Int) (l11.length : Int)) = true then
    let l25 := (l11.set (2 : Int).toNat x24)
    i_KindCounts_j12 K k v0 l25 ((v0, ((0 : Int), (0 : Int), ()).2.1, ()).1, v15, ()) v14 v15 (fun z26 z27 z28 z29 =>
    i_KindCounts_l5 K k z26 z27 z28 (IntKind.i64.wrap (z29 + (1 : Int))) kx0)
    else
    none))
    else
    none)
    else
    none)
    else
    none)
    else
    none)
    else
    none)
    else
    kx0 v4)
noncomputable def i_KindCounts (K : Nat) (x : (Int × Unit)) : Option ((List Int) × Int × Unit) :=
    (i_isArity K (x.1, ())).bind fun y1 =>
    (if (!y1) = true then
    some (([] : List Int), (2 : Int), ())
    else
    (if (decide (0 ≤ (4 : Int)) && decide ((4 : Int) ≤ (lim : Int)) && decide ((4 : Int) = (4 : Int))) = true then
    let l2 := (List.replicate (4 : Int).toNat (0 : Int))
    (i_funcsOf K (x.1, ())).bind fun y3 =>
    i_KindCounts_l5 K K x.1 l2 y3 (0 : Int) (fun z30 =>
    some (z30, (0 : Int), ()))
    else
    none))
noncomputable def lv_i_KindCounts_J12 : Lv := [(0, (.v (.int .i64))), (4, (.r (.int .i64))), (6, (.bx (.v (.st (.pair (.int .i64) (.pair (.int .i64) .unit)))))), (14, (.v (.int .i64))), (15, (.v (.int .i64)))]
noncomputable def lv_i_KindCounts_L5 : Lv := [(0, (.v (.int .i64))), (4, (.r (.int .i64))), (14, (.v (.int .i64))), (15, (.v (.int .i64)))]
noncomputable def lv_i_KindCounts_N12 : Lv := [(0, (.v (.int .i64))), (4, (.r (.int .i64))), (14, (.v (.int .i64))), (15, (.v (.int .i64)))]
noncomputable def lv_i_KindCounts_X0 : Lv := [(4, (.r (.int .i64)))]
noncomputable def rv_i_KindCounts : Lv := [(2, (.r (.int .i64))), (3, (.v (.int .i64)))]
noncomputable def gi_KindCounts_j12 {R : Type} (K : Nat) (k : Nat) (x : den lv_i_KindCounts_J12.ty) (kn : den lv_i_KindCounts_N12.ty → Option R) (kx : Nat → St → Option R) (kr : St → Option R) : Option R := i_KindCounts_j12 K k x.1 x.2.1 x.2.2.1 x.2.2.2.1 x.2.2.2.2.1 (fun z0 z1 z2 z3 => kn (z0, z1, z2, z3, ()))
noncomputable def gi_KindCounts_l5 {R : Type} (K : Nat) (k : Nat) (x : den lv_i_KindCounts_L5.ty) (kx : Nat → St → Option R) (kr : St → Option R) : Option R := i_KindCounts_l5 K k x.1 x.2.1 x.2.2.1 x.2.2.2.1 (fun z0 => kx 0 (mkSt lv_i_KindCounts_X0 (z0, ())))
noncomputable def sg_i_KindCounts {R : Type} (K : Nat) (k : Nat) : List (Nat × SegS R) := [(12, mkSeg lv_i_KindCounts_J12 lv_i_KindCounts_N12 (gi_KindCounts_j12 K k))]
noncomputable def su_i_KindCounts : List (Nat × Unit) := [(12, ())]
noncomputable def en_i_KindCounts {R : Type} (K : Nat) (k : Nat) : Env R := { L := lk [(5, mkLoop lv_i_KindCounts_L5 (gi_KindCounts_l5 K k))], X := lk [(0, lv_i_KindCounts_X0)], S := lk (sg_i_KindCounts K k), rv := rv_i_KindCounts }
noncomputable def cf_i_KindCounts (K : Nat) : Cfg := { ty := lk tys, fn := lk [(65, sp_i_isArity (i_isArity K)), (97, sp_i_Func_isIdempotent (i_Func_isIdempotent K)), (100, sp_i_Func_isSymmetric (i_Func_isSymmetric K)), (106, sp_i_Func_hasNearUnanimity (i_Func_hasNearUnanimity K)), (109, sp_i_funcsOf (i_funcsOf K)), (110, sp_i_one (i_one K))], fs := lk [], prot := 0, nt := Try.f45.ntmps }
noncomputable def c_i_KindCounts_L5 : Code := nthC (partsOf (hasK su_i_KindCounts) (bodyOf Try.f45)) 0
noncomputable def c_i_KindCounts_J12 : Code := nthC (partsOf (hasK su_i_KindCounts) c_i_KindCounts_L5) 0
theorem ei_KindCounts_j12 {R : Type} (K : Nat) (k : Nat) (x : den lv_i_KindCounts_J12.ty) (kn : den lv_i_KindCounts_N12.ty → Option R) (kx : Nat → St → Option R) (kr : St → Option R) : gi_KindCounts_j12 K k x kn kx kr = evC (cf_i_KindCounts K) (en_i_KindCounts K k) c_i_KindCounts_J12 (mkSt lv_i_KindCounts_J12 x) (cutK lv_i_KindCounts_N12 kn) kx kr := by kernel_rfl
theorem si_KindCounts_j12 {R : Type} (K : Nat) (C : Cx) (hP : C.P = Try.prog) (O : CfgOk C (cf_i_KindCounts K)) (k : Nat) : SgS C (R := R) (mkSeg lv_i_KindCounts_J12 lv_i_KindCounts_N12 (gi_KindCounts_j12 K k)) c_i_KindCounts_J12 :=
  seg_sound O (by rw [hP]; kernel_rfl) (ei_KindCounts_j12 K k) (lpOk_of (en := en_i_KindCounts K k) (S := hasK su_i_KindCounts) (fun i => hasK_lk (sg_i_KindCounts K k) i) _ (by rw [show partsOf (hasK su_i_KindCounts) c_i_KindCounts_J12 = [] from by kernel_rfl]; exact trivial))
theorem ei_KindCounts_l5 {R : Type} (K : Nat) (k : Nat) (x : den lv_i_KindCounts_L5.ty) (kx : Nat → St → Option R) (kr : St → Option R) : gi_KindCounts_l5 K (k + 1) x kx kr = evC (cf_i_KindCounts K) (en_i_KindCounts K k) c_i_KindCounts_L5 (mkSt lv_i_KindCounts_L5 x) (fun s => mkLoop lv_i_KindCounts_L5 (gi_KindCounts_l5 K k) s kx kr) kx kr := by kernel_rfl
theorem si_KindCounts_l5 {R : Type} (K : Nat) (C : Cx) (hP : C.P = Try.prog) (O : CfgOk C (cf_i_KindCounts K)) (k : Nat) : LpS C (R := R) (mkLoop lv_i_KindCounts_L5 (gi_KindCounts_l5 K k)) c_i_KindCounts_L5 :=
  loop_sound O (by rw [hP]; kernel_rfl) (fun x kx kr => rfl) (ei_KindCounts_l5 K) (fun k => lpOk_of (en := en_i_KindCounts K k) (S := hasK su_i_KindCounts) (fun i => hasK_lk (sg_i_KindCounts K k) i) _ (by rw [show partsOf (hasK su_i_KindCounts) c_i_KindCounts_L5 = [(false, c_i_KindCounts_J12)] from by kernel_rfl]; exact (lpL_seg (f := mkSeg lv_i_KindCounts_J12 lv_i_KindCounts_N12 (gi_KindCounts_j12 K k)) (by kernel_rfl) (si_KindCounts_j12 K C hP O k) trivial))) k
theorem e_i_KindCounts (K : Nat) (x : den as_i_KindCounts) : i_KindCounts K x = evFn (cf_i_KindCounts K) as_i_KindCounts [false] (.tup (.pair (.sl (.int .i64)) (.pair (.int .i64) .unit))) (en_i_KindCounts K K) Try.f45.results.toList (bodyOf Try.f45) x := by kernel_rfl
theorem ok_i_KindCounts (K : Nat) : FnOk Try.prog 45 (sp_i_KindCounts (i_KindCounts K)) :=
  fn_ok (cf := cf_i_KindCounts K) (en := en_i_KindCounts K K) (c := bodyOf Try.f45) Try.func45 (by kernel_rfl) (by kernel_rfl) tysOk (fns_ok (l := [(65, sp_i_isArity (i_isArity K)), (97, sp_i_Func_isIdempotent (i_Func_isIdempotent K)), (100, sp_i_Func_isSymmetric (i_Func_isSymmetric K)), (106, sp_i_Func_hasNearUnanimity (i_Func_hasNearUnanimity K)), (109, sp_i_funcsOf (i_funcsOf K)), (110, sp_i_one (i_one K))]) ⟨ok_i_isArity K, ⟨ok_i_Func_isIdempotent K, ⟨ok_i_Func_isSymmetric K, ⟨ok_i_Func_hasNearUnanimity K, ⟨ok_i_funcsOf K, ⟨ok_i_one K, trivial⟩⟩⟩⟩⟩⟩) (shs_ok (l := []) trivial) (by kernel_rfl) rfl (Nat.le_of_ble_eq_true (by kernel_rfl)) (by kernel_rfl) (of_decide_eq_true (by kernel_rfl)) (by decide) (fun C hP O => lpOk_of (en := en_i_KindCounts K K) (S := hasK su_i_KindCounts) (fun i => hasK_lk (sg_i_KindCounts K K) i) _ (by rw [show partsOf (hasK su_i_KindCounts) (bodyOf Try.f45) = [(true, c_i_KindCounts_L5)] from by kernel_rfl]; exact (lpL_loop (f := mkLoop lv_i_KindCounts_L5 (gi_KindCounts_l5 K K)) (by kernel_rfl) (si_KindCounts_l5 K C hP O K) trivial))) (fun x y h => by rw [← e_i_KindCounts]; exact h)
noncomputable def ps_s_l01From : Lv := [(0, (.v (.sl (.int .u8))))]
noncomputable def rl_s_l01From : Lv := [(0, (.bx (.v (.st (.pair (.sl (.int .u8)) (.pair (.int .i64) (.pair (.int .u64) .unit)))))))]
noncomputable def sp_s_l01From (F : ((List Int) × Unit) → Option ((((List Int) × Int × Int × Unit) × Unit) × Unit)) : ShSpec := ⟨ps_s_l01From, rl_s_l01From, F⟩
noncomputable def s_l01From_j5 {R : Type} (K : Nat) (k : Nat) (v0 : (List Int)) (v3 : ((List Int) × Int × Int × Unit)) (v4 : Int) (kn : (List Int) → ((List Int) × Int × Int × Unit) → Int → Option R)  : Option R :=
    (if (bnds v4 (v0.length : Int)) = true then
    let x3 := (IntKind.u64.wrap ((IntKind.u64.wrap (v3.2.2.1 * (1099511628211 : Int))) + (IntKind.u64.wrap (v0.getD v4.toNat (0 : Int)))))
    kn v0 (v3.1, v3.2.1, (IntKind.u64.wrap (x3 + (149 : Int))), ()) (IntKind.i64.wrap (v4 + (1 : Int)))
    else
    none)
noncomputable def s_l01From_l3 {R : Type} (K : Nat) : Nat → (List Int) → ((List Int) × Int × Int × Unit) → Int → (((List Int) × Int × Int × Unit) → Option R) → Option R
  | 0, _, _, _, _ => none
  | k + 1, v0, v3, v4, kx0 =>
    (if (decide (v4 < (v0.length : Int))) = true then
    (if (decide (v4 < (4096 : Int))) = true then
    s_l01From_j5 K k v0 v3 v4 (fun z4 z5 z6 =>
    s_l01From_l3 K k z4 z5 z6 kx0)
    else
    kx0 v3)
    else
    kx0 v3)
noncomputable def s_l01From (K : Nat) (x : ((List Int) × Unit)) : Option ((((List Int) × Int × Int × Unit) × Unit) × Unit) :=
    let x1 := (IntKind.u64.wrap ((13231 : Int) + (IntKind.u64.wrap (x.1.length : Int))))
    let x2 := ((x.1, (0 : Int), (0 : Int), ()).1, (x.1, (0 : Int), (0 : Int), ()).2.1, x1, ())
    s_l01From_l3 K K x.1 x2 (0 : Int) (fun z7 =>
    some ((z7, ()), ()))
noncomputable def lv_s_l01From_J5 : Lv := [(0, (.v (.sl (.int .u8)))), (3, (.bx (.v (.st (.pair (.sl (.int .u8)) (.pair (.int .i64) (.pair (.int .u64) .unit))))))), (4, (.v (.int .i64)))]
noncomputable def lv_s_l01From_L3 : Lv := [(0, (.v (.sl (.int .u8)))), (3, (.bx (.v (.st (.pair (.sl (.int .u8)) (.pair (.int .i64) (.pair (.int .u64) .unit))))))), (4, (.v (.int .i64)))]
noncomputable def lv_s_l01From_N5 : Lv := [(0, (.v (.sl (.int .u8)))), (3, (.bx (.v (.st (.pair (.sl (.int .u8)) (.pair (.int .i64) (.pair (.int .u64) .unit))))))), (4, (.v (.int .i64)))]
noncomputable def lv_s_l01From_X0 : Lv := [(3, (.bx (.v (.st (.pair (.sl (.int .u8)) (.pair (.int .i64) (.pair (.int .u64) .unit)))))))]
noncomputable def rv_s_l01From : Lv := [(2, (.bx (.v (.st (.pair (.sl (.int .u8)) (.pair (.int .i64) (.pair (.int .u64) .unit)))))))]
noncomputable def gs_l01From_j5 {R : Type} (K : Nat) (k : Nat) (x : den lv_s_l01From_J5.ty) (kn : den lv_s_l01From_N5.ty → Option R) (kx : Nat → St → Option R) (kr : St → Option R) : Option R := s_l01From_j5 K k x.1 x.2.1 x.2.2.1 (fun z0 z1 z2 => kn (z0, z1, z2, ()))
noncomputable def gs_l01From_l3 {R : Type} (K : Nat) (k : Nat) (x : den lv_s_l01From_L3.ty) (kx : Nat → St → Option R) (kr : St → Option R) : Option R := s_l01From_l3 K k x.1 x.2.1 x.2.2.1 (fun z0 => kx 0 (mkSt lv_s_l01From_X0 (z0, ())))
noncomputable def sg_s_l01From {R : Type} (K : Nat) (k : Nat) : List (Nat × SegS R) := [(5, mkSeg lv_s_l01From_J5 lv_s_l01From_N5 (gs_l01From_j5 K k))]
noncomputable def su_s_l01From : List (Nat × Unit) := [(5, ())]
noncomputable def en_s_l01From {R : Type} (K : Nat) (k : Nat) : Env R := { L := lk [(3, mkLoop lv_s_l01From_L3 (gs_l01From_l3 K k))], X := lk [(0, lv_s_l01From_X0)], S := lk (sg_s_l01From K k), rv := rv_s_l01From }
noncomputable def cf_s_l01From (K : Nat) : Cfg := { ty := lk tys, fn := lk [], fs := lk [], prot := 0, nt := Try.f93.ntmps }
noncomputable def c_s_l01From_L3 : Code := nthC (partsOf (hasK su_s_l01From) (bodyOf Try.f93)) 0
noncomputable def c_s_l01From_J5 : Code := nthC (partsOf (hasK su_s_l01From) c_s_l01From_L3) 0
theorem es_l01From_j5 {R : Type} (K : Nat) (k : Nat) (x : den lv_s_l01From_J5.ty) (kn : den lv_s_l01From_N5.ty → Option R) (kx : Nat → St → Option R) (kr : St → Option R) : gs_l01From_j5 K k x kn kx kr = evC (cf_s_l01From K) (en_s_l01From K k) c_s_l01From_J5 (mkSt lv_s_l01From_J5 x) (cutK lv_s_l01From_N5 kn) kx kr := by kernel_rfl
theorem ss_l01From_j5 {R : Type} (K : Nat) (C : Cx) (hP : C.P = Try.prog) (O : CfgOk C (cf_s_l01From K)) (k : Nat) : SgS C (R := R) (mkSeg lv_s_l01From_J5 lv_s_l01From_N5 (gs_l01From_j5 K k)) c_s_l01From_J5 :=
  seg_sound O (by rw [hP]; kernel_rfl) (es_l01From_j5 K k) (lpOk_of (en := en_s_l01From K k) (S := hasK su_s_l01From) (fun i => hasK_lk (sg_s_l01From K k) i) _ (by rw [show partsOf (hasK su_s_l01From) c_s_l01From_J5 = [] from by kernel_rfl]; exact trivial))
theorem es_l01From_l3 {R : Type} (K : Nat) (k : Nat) (x : den lv_s_l01From_L3.ty) (kx : Nat → St → Option R) (kr : St → Option R) : gs_l01From_l3 K (k + 1) x kx kr = evC (cf_s_l01From K) (en_s_l01From K k) c_s_l01From_L3 (mkSt lv_s_l01From_L3 x) (fun s => mkLoop lv_s_l01From_L3 (gs_l01From_l3 K k) s kx kr) kx kr := by kernel_rfl
theorem ss_l01From_l3 {R : Type} (K : Nat) (C : Cx) (hP : C.P = Try.prog) (O : CfgOk C (cf_s_l01From K)) (k : Nat) : LpS C (R := R) (mkLoop lv_s_l01From_L3 (gs_l01From_l3 K k)) c_s_l01From_L3 :=
  loop_sound O (by rw [hP]; kernel_rfl) (fun x kx kr => rfl) (es_l01From_l3 K) (fun k => lpOk_of (en := en_s_l01From K k) (S := hasK su_s_l01From) (fun i => hasK_lk (sg_s_l01From K k) i) _ (by rw [show partsOf (hasK su_s_l01From) c_s_l01From_L3 = [(false, c_s_l01From_J5)] from by kernel_rfl]; exact (lpL_seg (f := mkSeg lv_s_l01From_J5 lv_s_l01From_N5 (gs_l01From_j5 K k)) (by kernel_rfl) (ss_l01From_j5 K C hP O k) trivial))) k
theorem e_s_l01From (K : Nat) (x : den ps_s_l01From.ty) : s_l01From K x = evFnS (cf_s_l01From K) ps_s_l01From rl_s_l01From (en_s_l01From K K) Try.f93.results.toList (bodyOf Try.f93) x := by kernel_rfl
theorem ok_s_l01From (K : Nat) : ShOk Try.prog 93 (sp_s_l01From (s_l01From K)) :=
  sh_ok (cf := cf_s_l01From K) (en := en_s_l01From K K) (c := bodyOf Try.f93) Try.func93 (by kernel_rfl) (by kernel_rfl) tysOk (fns_ok (l := []) trivial) (shs_ok (l := []) trivial) (by kernel_rfl) rfl (Nat.le_of_ble_eq_true (by kernel_rfl)) (by kernel_rfl) (Nat.le_of_ble_eq_true (by kernel_rfl)) (by kernel_rfl) (fun C hP O => lpOk_of (en := en_s_l01From K K) (S := hasK su_s_l01From) (fun i => hasK_lk (sg_s_l01From K K) i) _ (by rw [show partsOf (hasK su_s_l01From) (bodyOf Try.f93) = [(true, c_s_l01From_L3)] from by kernel_rfl]; exact (lpL_loop (f := mkLoop lv_s_l01From_L3 (gs_l01From_l3 K K)) (by kernel_rfl) (ss_l01From_l3 K C hP O K) trivial))) (fun x y h => by rw [← e_s_l01From]; exact h)
noncomputable def ps_s_l01Next : Lv := [(0, (.bx (.v (.st (.pair (.sl (.int .u8)) (.pair (.int .i64) (.pair (.int .u64) .unit))))))), (1, (.v (.int .i64)))]
noncomputable def rl_s_l01Next : Lv := [(0, (.v (.int .i64)))]
noncomputable def sp_s_l01Next (F : (((List Int) × Int × Int × Unit) × Int × Unit) → Option ((Int × Unit) × (((List Int) × Int × Int × Unit) × Unit))) : ShSpec := ⟨ps_s_l01Next, rl_s_l01Next, F⟩
noncomputable def s_l01Next (K : Nat) (x : (((List Int) × Int × Int × Unit) × Int × Unit)) : Option ((Int × Unit) × (((List Int) × Int × Int × Unit) × Unit)) :=
    (if (decide (x.2.1 < (1 : Int))) = true then
    some (((0 : Int), ()), (x.1, ()))
    else
    let x1 := (IntKind.u64.wrap ((IntKind.u64.wrap (x.1.2.2.1 * (6364136223846793005 : Int))) + (1442695040888963407 : Int)))
    let x2 := (bitI .and .u64 (shrI .u64 ((x.1.1, x.1.2.1, x1, ()).2.2.1) (33 : Int)) (16777215 : Int))
    let x3 := (decide ((x.1.1, x.1.2.1, x1, ()).2.1 < (((x.1.1, x.1.2.1, x1, ()).1).length : Int)))
    (if x3 = true then
    (if (bnds ((x.1.1, x.1.2.1, x1, ()).2.1) (((x.1.1, x.1.2.1, x1, ()).1).length : Int)) = true then
    let x4 := (((x.1.1, x.1.2.1, x1, ()).1).getD ((x.1.1, x.1.2.1, x1, ()).2.1).toNat (0 : Int))
    let x5 := (IntKind.i64.wrap ((IntKind.i64.wrap x2) + (IntKind.i64.wrap x4)))
    let x6 := (IntKind.i64.wrap ((x.1.1, x.1.2.1, x1, ()).2.1 + (1 : Int)))
    (if (!decide (x.2.1 = 0)) = true then
    some (((Int.tmod x5 x.2.1), ()), (((x.1.1, x.1.2.1, x1, ()).1, x6, (x.1.1, x.1.2.1, x1, ()).2.2.1, ()), ()))
    else
    none)
    else
    none)
    else
    (if (!decide (x.2.1 = 0)) = true then
    some (((Int.tmod (IntKind.i64.wrap x2) x.2.1), ()), ((x.1.1, x.1.2.1, x1, ()), ()))
    else
    none)))
noncomputable def rv_s_l01Next : Lv := [(0, (.bx (.v (.st (.pair (.sl (.int .u8)) (.pair (.int .i64) (.pair (.int .u64) .unit))))))), (4, (.v (.int .i64)))]
noncomputable def sg_s_l01Next {R : Type} (K : Nat) (k : Nat) : List (Nat × SegS R) := []
noncomputable def su_s_l01Next : List (Nat × Unit) := []
noncomputable def en_s_l01Next {R : Type} (K : Nat) (k : Nat) : Env R := { L := lk [], X := lk [], S := lk (sg_s_l01Next K k), rv := rv_s_l01Next }
noncomputable def cf_s_l01Next (K : Nat) : Cfg := { ty := lk tys, fn := lk [], fs := lk [], prot := 1, nt := Try.f95.ntmps }
theorem e_s_l01Next (K : Nat) (x : den ps_s_l01Next.ty) : s_l01Next K x = evFnS (cf_s_l01Next K) ps_s_l01Next rl_s_l01Next (en_s_l01Next K K) Try.f95.results.toList (bodyOf Try.f95) x := by kernel_rfl
theorem ok_s_l01Next (K : Nat) : ShOk Try.prog 95 (sp_s_l01Next (s_l01Next K)) :=
  sh_ok (cf := cf_s_l01Next K) (en := en_s_l01Next K K) (c := bodyOf Try.f95) Try.func95 (by kernel_rfl) (by kernel_rfl) tysOk (fns_ok (l := []) trivial) (shs_ok (l := []) trivial) (by kernel_rfl) rfl (Nat.le_of_ble_eq_true (by kernel_rfl)) (by kernel_rfl) (Nat.le_of_ble_eq_true (by kernel_rfl)) (by kernel_rfl) (fun C hP O => lpOk_of (en := en_s_l01Next K K) (S := hasK su_s_l01Next) (fun i => hasK_lk (sg_s_l01Next K K) i) _ (by rw [show partsOf (hasK su_s_l01Next) (bodyOf Try.f95) = [] from by kernel_rfl]; exact trivial)) (fun x y h => by rw [← e_s_l01Next]; exact h)
noncomputable def ps_s_l01Pick : Lv := [(0, (.bx (.v (.st (.pair (.sl (.int .u8)) (.pair (.int .i64) (.pair (.int .u64) .unit))))))), (1, (.v (.sl (.int .i64))))]
noncomputable def rl_s_l01Pick : Lv := [(0, (.v (.int .i64)))]
noncomputable def sp_s_l01Pick (F : (((List Int) × Int × Int × Unit) × (List Int) × Unit) → Option ((Int × Unit) × (((List Int) × Int × Int × Unit) × Unit))) : ShSpec := ⟨ps_s_l01Pick, rl_s_l01Pick, F⟩
noncomputable def s_l01Pick (K : Nat) (x : (((List Int) × Int × Int × Unit) × (List Int) × Unit)) : Option ((Int × Unit) × (((List Int) × Int × Int × Unit) × Unit)) :=
    (s_l01Next K (x.1, (x.2.1.length : Int), ())).bind fun y1 =>
    (if (bnds y1.1.1 (x.2.1.length : Int)) = true then
    some (((x.2.1.getD y1.1.1.toNat (0 : Int)), ()), (y1.2.1, ()))
    else
    none)
noncomputable def rv_s_l01Pick : Lv := [(0, (.bx (.v (.st (.pair (.sl (.int .u8)) (.pair (.int .i64) (.pair (.int .u64) .unit))))))), (4, (.v (.int .i64)))]
noncomputable def sg_s_l01Pick {R : Type} (K : Nat) (k : Nat) : List (Nat × SegS R) := []
noncomputable def su_s_l01Pick : List (Nat × Unit) := []
noncomputable def en_s_l01Pick {R : Type} (K : Nat) (k : Nat) : Env R := { L := lk [], X := lk [], S := lk (sg_s_l01Pick K k), rv := rv_s_l01Pick }
noncomputable def cf_s_l01Pick (K : Nat) : Cfg := { ty := lk tys, fn := lk [], fs := lk [(95, sp_s_l01Next (s_l01Next K))], prot := 1, nt := Try.f108.ntmps }
theorem e_s_l01Pick (K : Nat) (x : den ps_s_l01Pick.ty) : s_l01Pick K x = evFnS (cf_s_l01Pick K) ps_s_l01Pick rl_s_l01Pick (en_s_l01Pick K K) Try.f108.results.toList (bodyOf Try.f108) x := by kernel_rfl
theorem ok_s_l01Pick (K : Nat) : ShOk Try.prog 108 (sp_s_l01Pick (s_l01Pick K)) :=
  sh_ok (cf := cf_s_l01Pick K) (en := en_s_l01Pick K K) (c := bodyOf Try.f108) Try.func108 (by kernel_rfl) (by kernel_rfl) tysOk (fns_ok (l := []) trivial) (shs_ok (l := [(95, sp_s_l01Next (s_l01Next K))]) ⟨ok_s_l01Next K, trivial⟩) (by kernel_rfl) rfl (Nat.le_of_ble_eq_true (by kernel_rfl)) (by kernel_rfl) (Nat.le_of_ble_eq_true (by kernel_rfl)) (by kernel_rfl) (fun C hP O => lpOk_of (en := en_s_l01Pick K K) (S := hasK su_s_l01Pick) (fun i => hasK_lk (sg_s_l01Pick K K) i) _ (by rw [show partsOf (hasK su_s_l01Pick) (bodyOf Try.f108) = [] from by kernel_rfl]; exact trivial)) (fun x y h => by rw [← e_s_l01Pick]; exact h)
noncomputable def as_s_l01Rows : Ty := (.pair (.int .i64) .unit)
noncomputable def sp_s_l01Rows (F : (Int × Unit) → Option Int) : FnSpec := ⟨as_s_l01Rows, [false], (.int .i64), F⟩
noncomputable def s_l01Rows (K : Nat) (x : (Int × Unit)) : Option Int :=
    (if (decide ((0 : Int) ≤ (IntKind.u64.wrap x.1))) = true then
    some (shlI .i64 (1 : Int) (IntKind.u64.wrap x.1))
    else
    none)
noncomputable def rv_s_l01Rows : Lv := [(2, (.v (.int .i64)))]
noncomputable def sg_s_l01Rows {R : Type} (K : Nat) (k : Nat) : List (Nat × SegS R) := []
noncomputable def su_s_l01Rows : List (Nat × Unit) := []
noncomputable def en_s_l01Rows {R : Type} (K : Nat) (k : Nat) : Env R := { L := lk [], X := lk [], S := lk (sg_s_l01Rows K k), rv := rv_s_l01Rows }
noncomputable def cf_s_l01Rows (K : Nat) : Cfg := { ty := lk tys, fn := lk [], fs := lk [], prot := 0, nt := Try.f154.ntmps }
theorem e_s_l01Rows (K : Nat) (x : den as_s_l01Rows) : s_l01Rows K x = evFn (cf_s_l01Rows K) as_s_l01Rows [false] (.int .i64) (en_s_l01Rows K K) Try.f154.results.toList (bodyOf Try.f154) x := by kernel_rfl
theorem ok_s_l01Rows (K : Nat) : FnOk Try.prog 154 (sp_s_l01Rows (s_l01Rows K)) :=
  fn_ok (cf := cf_s_l01Rows K) (en := en_s_l01Rows K K) (c := bodyOf Try.f154) Try.func154 (by kernel_rfl) (by kernel_rfl) tysOk (fns_ok (l := []) trivial) (shs_ok (l := []) trivial) (by kernel_rfl) rfl (Nat.le_of_ble_eq_true (by kernel_rfl)) (by kernel_rfl) (of_decide_eq_true (by kernel_rfl)) (by decide) (fun C hP O => lpOk_of (en := en_s_l01Rows K K) (S := hasK su_s_l01Rows) (fun i => hasK_lk (sg_s_l01Rows K K) i) _ (by rw [show partsOf (hasK su_s_l01Rows) (bodyOf Try.f154) = [] from by kernel_rfl]; exact trivial)) (fun x y h => by rw [← e_s_l01Rows]; exact h)
noncomputable def as_s_l10Weight : Ty := (.pair (.int .i64) .unit)
noncomputable def sp_s_l10Weight (F : (Int × Unit) → Option Int) : FnSpec := ⟨as_s_l10Weight, [false], (.int .i64), F⟩
noncomputable def s_l10Weight_l2 {R : Type} (K : Nat) : Nat → Int → Int → (Int → Option R) → Option R
  | 0, _, _, _ => none
  | k + 1, v0, v3, kx0 =>
    (if (decide (v0 > (0 : Int))) = true then
    s_l10Weight_l2 K k (IntKind.i64.wrap (Int.tdiv v0 (2 : Int))) (IntKind.i64.wrap (v3 + (Int.tmod v0 (2 : Int)))) kx0
    else
    kx0 v3)
noncomputable def s_l10Weight (K : Nat) (x : (Int × Unit)) : Option Int :=
    s_l10Weight_l2 K K x.1 (0 : Int) (fun z1 =>
    some z1)
noncomputable def lv_s_l10Weight_L2 : Lv := [(0, (.v (.int .i64))), (3, (.v (.int .i64)))]
noncomputable def lv_s_l10Weight_X0 : Lv := [(3, (.v (.int .i64)))]
noncomputable def rv_s_l10Weight : Lv := [(2, (.v (.int .i64)))]
noncomputable def gs_l10Weight_l2 {R : Type} (K : Nat) (k : Nat) (x : den lv_s_l10Weight_L2.ty) (kx : Nat → St → Option R) (kr : St → Option R) : Option R := s_l10Weight_l2 K k x.1 x.2.1 (fun z0 => kx 0 (mkSt lv_s_l10Weight_X0 (z0, ())))
noncomputable def sg_s_l10Weight {R : Type} (K : Nat) (k : Nat) : List (Nat × SegS R) := []
noncomputable def su_s_l10Weight : List (Nat × Unit) := []
noncomputable def en_s_l10Weight {R : Type} (K : Nat) (k : Nat) : Env R := { L := lk [(2, mkLoop lv_s_l10Weight_L2 (gs_l10Weight_l2 K k))], X := lk [(0, lv_s_l10Weight_X0)], S := lk (sg_s_l10Weight K k), rv := rv_s_l10Weight }
noncomputable def cf_s_l10Weight (K : Nat) : Cfg := { ty := lk tys, fn := lk [], fs := lk [], prot := 0, nt := Try.f168.ntmps }
noncomputable def c_s_l10Weight_L2 : Code := nthC (partsOf (hasK su_s_l10Weight) (bodyOf Try.f168)) 0
theorem es_l10Weight_l2 {R : Type} (K : Nat) (k : Nat) (x : den lv_s_l10Weight_L2.ty) (kx : Nat → St → Option R) (kr : St → Option R) : gs_l10Weight_l2 K (k + 1) x kx kr = evC (cf_s_l10Weight K) (en_s_l10Weight K k) c_s_l10Weight_L2 (mkSt lv_s_l10Weight_L2 x) (fun s => mkLoop lv_s_l10Weight_L2 (gs_l10Weight_l2 K k) s kx kr) kx kr := by kernel_rfl
theorem ss_l10Weight_l2 {R : Type} (K : Nat) (C : Cx) (hP : C.P = Try.prog) (O : CfgOk C (cf_s_l10Weight K)) (k : Nat) : LpS C (R := R) (mkLoop lv_s_l10Weight_L2 (gs_l10Weight_l2 K k)) c_s_l10Weight_L2 :=
  loop_sound O (by rw [hP]; kernel_rfl) (fun x kx kr => rfl) (es_l10Weight_l2 K) (fun k => lpOk_of (en := en_s_l10Weight K k) (S := hasK su_s_l10Weight) (fun i => hasK_lk (sg_s_l10Weight K k) i) _ (by rw [show partsOf (hasK su_s_l10Weight) c_s_l10Weight_L2 = [] from by kernel_rfl]; exact trivial)) k
theorem e_s_l10Weight (K : Nat) (x : den as_s_l10Weight) : s_l10Weight K x = evFn (cf_s_l10Weight K) as_s_l10Weight [false] (.int .i64) (en_s_l10Weight K K) Try.f168.results.toList (bodyOf Try.f168) x := by kernel_rfl
theorem ok_s_l10Weight (K : Nat) : FnOk Try.prog 168 (sp_s_l10Weight (s_l10Weight K)) :=
  fn_ok (cf := cf_s_l10Weight K) (en := en_s_l10Weight K K) (c := bodyOf Try.f168) Try.func168 (by kernel_rfl) (by kernel_rfl) tysOk (fns_ok (l := []) trivial) (shs_ok (l := []) trivial) (by kernel_rfl) rfl (Nat.le_of_ble_eq_true (by kernel_rfl)) (by kernel_rfl) (of_decide_eq_true (by kernel_rfl)) (by decide) (fun C hP O => lpOk_of (en := en_s_l10Weight K K) (S := hasK su_s_l10Weight) (fun i => hasK_lk (sg_s_l10Weight K K) i) _ (by rw [show partsOf (hasK su_s_l10Weight) (bodyOf Try.f168) = [(true, c_s_l10Weight_L2)] from by kernel_rfl]; exact (lpL_loop (f := mkLoop lv_s_l10Weight_L2 (gs_l10Weight_l2 K K)) (by kernel_rfl) (ss_l10Weight_l2 K C hP O K) trivial))) (fun x y h => by rw [← e_s_l10Weight]; exact h)
noncomputable def as_s_l01At : Ty := (.pair (.st (.pair (.int .i64) (.pair (.int .i64) .unit))) (.pair (.int .i64) .unit))
noncomputable def sp_s_l01At (F : ((Int × Int × Unit) × Int × Unit) → Option Int) : FnSpec := ⟨as_s_l01At, [false, false], (.int .i64), F⟩
noncomputable def s_l01At (K : Nat) (x : ((Int × Int × Unit) × Int × Unit)) : Option Int :=
    (if (decide ((0 : Int) ≤ (IntKind.u64.wrap x.2.1))) = true then
    let x1 := (bitI .and .i64 (shrI .i64 x.1.2.1 (IntKind.u64.wrap x.2.1)) (1 : Int))
    some x1
    else
    none)
noncomputable def rv_s_l01At : Lv := [(4, (.v (.int .i64)))]
noncomputable def sg_s_l01At {R : Type} (K : Nat) (k : Nat) : List (Nat × SegS R) := []
noncomputable def su_s_l01At : List (Nat × Unit) := []
noncomputable def en_s_l01At {R : Type} (K : Nat) (k : Nat) : Env R := { L := lk [], X := lk [], S := lk (sg_s_l01At K k), rv := rv_s_l01At }
noncomputable def cf_s_l01At (K : Nat) : Cfg := { ty := lk tys, fn := lk [], fs := lk [], prot := 0, nt := Try.f105.ntmps }
theorem e_s_l01At (K : Nat) (x : den as_s_l01At) : s_l01At K x = evFn (cf_s_l01At K) as_s_l01At [false, false] (.int .i64) (en_s_l01At K K) Try.f105.results.toList (bodyOf Try.f105) x := by kernel_rfl
theorem ok_s_l01At (K : Nat) : FnOk Try.prog 105 (sp_s_l01At (s_l01At K)) :=
  fn_ok (cf := cf_s_l01At K) (en := en_s_l01At K K) (c := bodyOf Try.f105) Try.func105 (by kernel_rfl) (by kernel_rfl) tysOk (fns_ok (l := []) trivial) (shs_ok (l := []) trivial) (by kernel_rfl) rfl (Nat.le_of_ble_eq_true (by kernel_rfl)) (by kernel_rfl) (of_decide_eq_true (by kernel_rfl)) (by decide) (fun C hP O => lpOk_of (en := en_s_l01At K K) (S := hasK su_s_l01At) (fun i => hasK_lk (sg_s_l01At K K) i) _ (by rw [show partsOf (hasK su_s_l01At) (bodyOf Try.f105) = [] from by kernel_rfl]; exact trivial)) (fun x y h => by rw [← e_s_l01At]; exact h)
noncomputable def as_s_l01All : Ty := (.pair (.int .i64) .unit)
noncomputable def sp_s_l01All (F : (Int × Unit) → Option Int) : FnSpec := ⟨as_s_l01All, [false], (.int .i64), F⟩
noncomputable def s_l01All (K : Nat) (x : (Int × Unit)) : Option Int :=
    (s_l01Rows K (x.1, ())).bind fun y1 =>
    (if (decide ((0 : Int) ≤ (IntKind.u64.wrap y1))) = true then
    let x2 := (IntKind.i64.wrap ((shlI .i64 (1 : Int) (IntKind.u64.wrap y1)) - (1 : Int)))
    some x2
    else
    none)
noncomputable def rv_s_l01All : Lv := [(2, (.v (.int .i64)))]
noncomputable def sg_s_l01All {R : Type} (K : Nat) (k : Nat) : List (Nat × SegS R) := []
noncomputable def su_s_l01All : List (Nat × Unit) := []
noncomputable def en_s_l01All {R : Type} (K : Nat) (k : Nat) : Env R := { L := lk [], X := lk [], S := lk (sg_s_l01All K k), rv := rv_s_l01All }
noncomputable def cf_s_l01All (K : Nat) : Cfg := { ty := lk tys, fn := lk [(154, sp_s_l01Rows (s_l01Rows K))], fs := lk [], prot := 0, nt := Try.f111.ntmps }
theorem e_s_l01All (K : Nat) (x : den as_s_l01All) : s_l01All K x = evFn (cf_s_l01All K) as_s_l01All [false] (.int .i64) (en_s_l01All K K) Try.f111.results.toList (bodyOf Try.f111) x := by kernel_rfl
theorem ok_s_l01All (K : Nat) : FnOk Try.prog 111 (sp_s_l01All (s_l01All K)) :=
  fn_ok (cf := cf_s_l01All K) (en := en_s_l01All K K) (c := bodyOf Try.f111) Try.func111 (by kernel_rfl) (by kernel_rfl) tysOk (fns_ok (l := [(154, sp_s_l01Rows (s_l01Rows K))]) ⟨ok_s_l01Rows K, trivial⟩) (shs_ok (l := []) trivial) (by kernel_rfl) rfl (Nat.le_of_ble_eq_true (by kernel_rfl)) (by kernel_rfl) (of_decide_eq_true (by kernel_rfl)) (by decide) (fun C hP O => lpOk_of (en := en_s_l01All K K) (S := hasK su_s_l01All) (fun i => hasK_lk (sg_s_l01All K K) i) _ (by rw [show partsOf (hasK su_s_l01All) (bodyOf Try.f111) = [] from by kernel_rfl]; exact trivial)) (fun x y h => by rw [← e_s_l01All]; exact h)
noncomputable def ps_s_l01Bad : Lv := [(0, (.bx (.v (.st (.pair (.sl (.int .u8)) (.pair (.int .i64) (.pair (.int .u64) .unit))))))), (1, (.v (.st (.pair (.int .i64) (.pair (.int .i64) .unit)))))]
noncomputable def rl_s_l01Bad : Lv := [(0, (.v (.st (.pair (.int .i64) (.pair (.int .i64) .unit)))))]
noncomputable def sp_s_l01Bad (F : (((List Int) × Int × Int × Unit) × (Int × Int × Unit) × Unit) → Option (((Int × Int × Unit) × Unit) × (((List Int) × Int × Int × Unit) × Unit))) : ShSpec := ⟨ps_s_l01Bad, rl_s_l01Bad, F⟩
noncomputable def s_l01Bad (K : Nat) (x : (((List Int) × Int × Int × Unit) × (Int × Int × Unit) × Unit)) : Option (((Int × Int × Unit) × Unit) × (((List Int) × Int × Int × Unit) × Unit)) :=
    (s_l01Next K (x.1, (50 : Int), ())).bind fun y1 =>
    (if (decide (y1.1.1 = (0 : Int))) = true then
    let l2 := [(-1 : Int), (5 : Int), (1099511627776 : Int)]
    (s_l01Pick K (y1.2.1, l2, ())).bind fun y3 =>
    let x4 := ((y3.1.1, ((0 : Int), (0 : Int), ()).2.1, ()).1, x.2.1.2.1, ())
    some ((x4, ()), (y3.2.1, ()))
    else
    (if (decide (y1.1.1 = (1 : Int))) = true then
    (s_l01All K (x.2.1.1, ())).bind fun y5 =>
    let l6 := [(-1 : Int), (IntKind.i64.wrap (y5 + (1 : Int))), (1099511627776 : Int)]
    (s_l01Pick K (y1.2.1, l6, ())).bind fun y7 =>
    let x8 := ((x.2.1.1, ((0 : Int), (0 : Int), ()).2.1, ()).1, y7.1.1, ())
    some ((x8, ()), (y7.2.1, ()))
    else
    some ((x.2.1, ()), (y1.2.1, ()))))
noncomputable def rv_s_l01Bad : Lv := [(0, (.bx (.v (.st (.pair (.sl (.int .u8)) (.pair (.int .i64) (.pair (.int .u64) .unit))))))), (4, (.bx (.v (.st (.pair (.int .i64) (.pair (.int .i64) .unit))))))]
noncomputable def sg_s_l01Bad {R : Type} (K : Nat) (k : Nat) : List (Nat × SegS R) := []
noncomputable def su_s_l01Bad : List (Nat × Unit) := []
noncomputable def en_s_l01Bad {R : Type} (K : Nat) (k : Nat) : Env R := { L := lk [], X := lk [], S := lk (sg_s_l01Bad K k), rv := rv_s_l01Bad }
noncomputable def cf_s_l01Bad (K : Nat) : Cfg := { ty := lk tys, fn := lk [(111, sp_s_l01All (s_l01All K))], fs := lk [(95, sp_s_l01Next (s_l01Next K)), (108, sp_s_l01Pick (s_l01Pick K))], prot := 1, nt := Try.f177.ntmps }
theorem e_s_l01Bad (K : Nat) (x : den ps_s_l01Bad.ty) : s_l01Bad K x = evFnS (cf_s_l01Bad K) ps_s_l01Bad rl_s_l01Bad (en_s_l01Bad K K) Try.f177.results.toList (bodyOf Try.f177) x := by kernel_rfl
theorem ok_s_l01Bad (K : Nat) : ShOk Try.prog 177 (sp_s_l01Bad (s_l01Bad K)) :=
  sh_ok (cf := cf_s_l01Bad K) (en := en_s_l01Bad K K) (c := bodyOf Try.f177) Try.func177 (by kernel_rfl) (by kernel_rfl) tysOk (fns_ok (l := [(111, sp_s_l01All (s_l01All K))]) ⟨ok_s_l01All K, trivial⟩) (shs_ok (l := [(95, sp_s_l01Next (s_l01Next K)), (108, sp_s_l01Pick (s_l01Pick K))]) ⟨ok_s_l01Next K, ⟨ok_s_l01Pick K, trivial⟩⟩) (by kernel_rfl) rfl (Nat.le_of_ble_eq_true (by kernel_rfl)) (by kernel_rfl) (Nat.le_of_ble_eq_true (by kernel_rfl)) (by kernel_rfl) (fun C hP O => lpOk_of (en := en_s_l01Bad K K) (S := hasK su_s_l01Bad) (fun i => hasK_lk (sg_s_l01Bad K K) i) _ (by rw [show partsOf (hasK su_s_l01Bad) (bodyOf Try.f177) = [] from by kernel_rfl]; exact trivial)) (fun x y h => by rw [← e_s_l01Bad]; exact h)
noncomputable def as_s_l01Constant : Ty := (.pair (.int .i64) (.pair (.int .i64) .unit))
noncomputable def sp_s_l01Constant (F : (Int × Int × Unit) → Option (Int × Int × Unit)) : FnSpec := ⟨as_s_l01Constant, [false, false], (.st (.pair (.int .i64) (.pair (.int .i64) .unit))), F⟩
noncomputable def s_l01Constant (K : Nat) (x : (Int × Int × Unit)) : Option (Int × Int × Unit) :=
    (s_l01All K (x.1, ())).bind fun y1 =>
    let x2 := ((x.1, ((0 : Int), (0 : Int), ()).2.1, ()).1, (IntKind.i64.wrap (x.2.1 * y1)), ())
    some x2
noncomputable def rv_s_l01Constant : Lv := [(4, (.bx (.v (.st (.pair (.int .i64) (.pair (.int .i64) .unit))))))]
noncomputable def sg_s_l01Constant {R : Type} (K : Nat) (k : Nat) : List (Nat × SegS R) := []
noncomputable def su_s_l01Constant : List (Nat × Unit) := []
noncomputable def en_s_l01Constant {R : Type} (K : Nat) (k : Nat) : Env R := { L := lk [], X := lk [], S := lk (sg_s_l01Constant K k), rv := rv_s_l01Constant }
noncomputable def cf_s_l01Constant (K : Nat) : Cfg := { ty := lk tys, fn := lk [(111, sp_s_l01All (s_l01All K))], fs := lk [], prot := 0, nt := Try.f125.ntmps }
theorem e_s_l01Constant (K : Nat) (x : den as_s_l01Constant) : s_l01Constant K x = evFn (cf_s_l01Constant K) as_s_l01Constant [false, false] (.st (.pair (.int .i64) (.pair (.int .i64) .unit))) (en_s_l01Constant K K) Try.f125.results.toList (bodyOf Try.f125) x := by kernel_rfl
theorem ok_s_l01Constant (K : Nat) : FnOk Try.prog 125 (sp_s_l01Constant (s_l01Constant K)) :=
  fn_ok (cf := cf_s_l01Constant K) (en := en_s_l01Constant K K) (c := bodyOf Try.f125) Try.func125 (by kernel_rfl) (by kernel_rfl) tysOk (fns_ok (l := [(111, sp_s_l01All (s_l01All K))]) ⟨ok_s_l01All K, trivial⟩) (shs_ok (l := []) trivial) (by kernel_rfl) rfl (Nat.le_of_ble_eq_true (by kernel_rfl)) (by kernel_rfl) (of_decide_eq_true (by kernel_rfl)) (by decide) (fun C hP O => lpOk_of (en := en_s_l01Constant K K) (S := hasK su_s_l01Constant) (fun i => hasK_lk (sg_s_l01Constant K K) i) _ (by rw [show partsOf (hasK su_s_l01Constant) (bodyOf Try.f125) = [] from by kernel_rfl]; exact trivial)) (fun x y h => by rw [← e_s_l01Constant]; exact h)
noncomputable def as_s_l01Of : Ty := (.pair (.int .i64) (.pair (.sl (.int .i64)) .unit))
noncomputable def sp_s_l01Of (F : (Int × (List Int) × Unit) → Option (Int × Int × Unit)) : FnSpec := ⟨as_s_l01Of, [false, false], (.st (.pair (.int .i64) (.pair (.int .i64) .unit))), F⟩
noncomputable def s_l01Of_l3 {R : Type} (K : Nat) : Nat → Int → (List Int) → (Int × Int × Unit) → (Int × Int × Unit) → Int → ((Int × Int × Unit) → (Int × Int × Unit) → Option R) → Option R
  | 0, _, _, _, _, _, _ => none
  | k + 1, v0, v1, v4, v5, v6, kx0 =>
    (s_l01Rows K (v0, ())).bind fun y1 =>
    (if (decide (v6 < y1)) = true then
    (if (bnds v6 (v1.length : Int)) = true then
    (if (decide ((0 : Int) ≤ (IntKind.u64.wrap v6))) = true then
    let x2 := (shlI .i64 (v1.getD v6.toNat (0 : Int)) (IntKind.u64.wrap v6))
    s_l01Of_l3 K k v0 v1 v4 (v5.1, (IntKind.i64.wrap (v5.2.1 + x2)), ()) (IntKind.i64.wrap (v6 + (1 : Int))) kx0
    else
    none)
    else
    none)
    else
    kx0 v4 v5)
noncomputable def s_l01Of (K : Nat) (x : (Int × (List Int) × Unit)) : Option (Int × Int × Unit) :=
    s_l01Of_l3 K K x.1 x.2.1 ((0 : Int), (0 : Int), ()) (x.1, ((0 : Int), (0 : Int), ()).2.1, ()) (0 : Int) (fun z3 z4 =>
    some z4)
noncomputable def lv_s_l01Of_L3 : Lv := [(0, (.v (.int .i64))), (1, (.v (.sl (.int .i64)))), (4, (.bx (.v (.st (.pair (.int .i64) (.pair (.int .i64) .unit)))))), (5, (.bx (.v (.st (.pair (.int .i64) (.pair (.int .i64) .unit)))))), (6, (.v (.int .i64)))]
noncomputable def lv_s_l01Of_X0 : Lv := [(4, (.bx (.v (.st (.pair (.int .i64) (.pair (.int .i64) .unit)))))), (5, (.bx (.v (.st (.pair (.int .i64) (.pair (.int .i64) .unit))))))]
noncomputable def rv_s_l01Of : Lv := [(4, (.bx (.v (.st (.pair (.int .i64) (.pair (.int .i64) .unit))))))]
noncomputable def gs_l01Of_l3 {R : Type} (K : Nat) (k : Nat) (x : den lv_s_l01Of_L3.ty) (kx : Nat → St → Option R) (kr : St → Option R) : Option R := s_l01Of_l3 K k x.1 x.2.1 x.2.2.1 x.2.2.2.1 x.2.2.2.2.1 (fun z0 z1 => kx 0 (mkSt lv_s_l01Of_X0 (z0, z1, ())))
noncomputable def sg_s_l01Of {R : Type} (K : Nat) (k : Nat) : List (Nat × SegS R) := []
noncomputable def su_s_l01Of : List (Nat × Unit) := []
noncomputable def en_s_l01Of {R : Type} (K : Nat) (k : Nat) : Env R := { L := lk [(3, mkLoop lv_s_l01Of_L3 (gs_l01Of_l3 K k))], X := lk [(0, lv_s_l01Of_X0)], S := lk (sg_s_l01Of K k), rv := rv_s_l01Of }
noncomputable def cf_s_l01Of (K : Nat) : Cfg := { ty := lk tys, fn := lk [(154, sp_s_l01Rows (s_l01Rows K))], fs := lk [], prot := 0, nt := Try.f186.ntmps }
noncomputable def c_s_l01Of_L3 : Code := nthC (partsOf (hasK su_s_l01Of) (bodyOf Try.f186)) 0
theorem es_l01Of_l3 {R : Type} (K : Nat) (k : Nat) (x : den lv_s_l01Of_L3.ty) (kx : Nat → St → Option R) (kr : St → Option R) : gs_l01Of_l3 K (k + 1) x kx kr = evC (cf_s_l01Of K) (en_s_l01Of K k) c_s_l01Of_L3 (mkSt lv_s_l01Of_L3 x) (fun s => mkLoop lv_s_l01Of_L3 (gs_l01Of_l3 K k) s kx kr) kx kr := by kernel_rfl
theorem ss_l01Of_l3 {R : Type} (K : Nat) (C : Cx) (hP : C.P = Try.prog) (O : CfgOk C (cf_s_l01Of K)) (k : Nat) : LpS C (R := R) (mkLoop lv_s_l01Of_L3 (gs_l01Of_l3 K k)) c_s_l01Of_L3 :=
  loop_sound O (by rw [hP]; kernel_rfl) (fun x kx kr => rfl) (es_l01Of_l3 K) (fun k => lpOk_of (en := en_s_l01Of K k) (S := hasK su_s_l01Of) (fun i => hasK_lk (sg_s_l01Of K k) i) _ (by rw [show partsOf (hasK su_s_l01Of) c_s_l01Of_L3 = [] from by kernel_rfl]; exact trivial)) k
theorem e_s_l01Of (K : Nat) (x : den as_s_l01Of) : s_l01Of K x = evFn (cf_s_l01Of K) as_s_l01Of [false, false] (.st (.pair (.int .i64) (.pair (.int .i64) .unit))) (en_s_l01Of K K) Try.f186.results.toList (bodyOf Try.f186) x := by kernel_rfl
theorem ok_s_l01Of (K : Nat) : FnOk Try.prog 186 (sp_s_l01Of (s_l01Of K)) :=
  fn_ok (cf := cf_s_l01Of K) (en := en_s_l01Of K K) (c := bodyOf Try.f186) Try.func186 (by kernel_rfl) (by kernel_rfl) tysOk (fns_ok (l := [(154, sp_s_l01Rows (s_l01Rows K))]) ⟨ok_s_l01Rows K, trivial⟩) (shs_ok (l := []) trivial) (by kernel_rfl) rfl (Nat.le_of_ble_eq_true (by kernel_rfl)) (by kernel_rfl) (of_decide_eq_true (by kernel_rfl)) (by decide) (fun C hP O => lpOk_of (en := en_s_l01Of K K) (S := hasK su_s_l01Of) (fun i => hasK_lk (sg_s_l01Of K K) i) _ (by rw [show partsOf (hasK su_s_l01Of) (bodyOf Try.f186) = [(true, c_s_l01Of_L3)] from by kernel_rfl]; exact (lpL_loop (f := mkLoop lv_s_l01Of_L3 (gs_l01Of_l3 K K)) (by kernel_rfl) (ss_l01Of_l3 K C hP O K) trivial))) (fun x y h => by rw [← e_s_l01Of]; exact h)
noncomputable def as_s_l01Projection : Ty := (.pair (.int .i64) (.pair (.int .i64) .unit))
noncomputable def sp_s_l01Projection (F : (Int × Int × Unit) → Option (Int × Int × Unit)) : FnSpec := ⟨as_s_l01Projection, [false, false], (.st (.pair (.int .i64) (.pair (.int .i64) .unit))), F⟩
noncomputable def s_l01Projection_l3 {R : Type} (K : Nat) : Nat → Int → Int → (Int × Int × Unit) → (List Int) → Int → (Int → (Int × Int × Unit) → (List Int) → Option R) → Option R
  | 0, _, _, _, _, _, _ => none
  | k + 1, v0, v1, v4, v5, v6, kx0 =>
    (s_l01Rows K (v0, ())).bind fun y2 =>
    (if (decide (v6 < y2)) = true then
    (if (decide ((0 : Int) ≤ (IntKind.u64.wrap v1))) = true then
    let x3 := (bitI .and .i64 (shrI .i64 v6 (IntKind.u64.wrap v1)) (1 : Int))
    (if (decide (v5.length + ([x3]).length ≤ lim)) = true then
    let l4 := (v5 ++ [x3])
    s_l01Projection_l3 K k v0 v1 v4 l4 (IntKind.i64.wrap (v6 + (1 : Int))) kx0
    else
    none)
    else
    none)
    else
    kx0 v0 v4 v5)
noncomputable def s_l01Projection (K : Nat) (x : (Int × Int × Unit)) : Option (Int × Int × Unit) :=
    let l1 := ([] : List Int)
    s_l01Projection_l3 K K x.1 x.2.1 ((0 : Int), (0 : Int), ()) l1 (0 : Int) (fun z5 z6 z7 =>
    (s_l01Of K (z5, z7, ())).bind fun y8 =>
    some y8)
noncomputable def lv_s_l01Projection_L3 : Lv := [(0, (.v (.int .i64))), (1, (.v (.int .i64))), (4, (.bx (.v (.st (.pair (.int .i64) (.pair (.int .i64) .unit)))))), (5, (.r (.int .i64))), (6, (.v (.int .i64)))]
noncomputable def lv_s_l01Projection_X0 : Lv := [(0, (.v (.int .i64))), (4, (.bx (.v (.st (.pair (.int .i64) (.pair (.int .i64) .unit)))))), (5, (.r (.int .i64)))]
noncomputable def rv_s_l01Projection : Lv := [(4, (.bx (.v (.st (.pair (.int .i64) (.pair (.int .i64) .unit))))))]
noncomputable def gs_l01Projection_l3 {R : Type} (K : Nat) (k : Nat) (x : den lv_s_l01Projection_L3.ty) (kx : Nat → St → Option R) (kr : St → Option R) : Option R := s_l01Projection_l3 K k x.1 x.2.1 x.2.2.1 x.2.2.2.1 x.2.2.2.2.1 (fun z0 z1 z2 => kx 0 (mkSt lv_s_l01Projection_X0 (z0, z1, z2, ())))
noncomputable def sg_s_l01Projection {R : Type} (K : Nat) (k : Nat) : List (Nat × SegS R) := []
noncomputable def su_s_l01Projection : List (Nat × Unit) := []
noncomputable def en_s_l01Projection {R : Type} (K : Nat) (k : Nat) : Env R := { L := lk [(3, mkLoop lv_s_l01Projection_L3 (gs_l01Projection_l3 K k))], X := lk [(0, lv_s_l01Projection_X0)], S := lk (sg_s_l01Projection K k), rv := rv_s_l01Projection }
noncomputable def cf_s_l01Projection (K : Nat) : Cfg := { ty := lk tys, fn := lk [(154, sp_s_l01Rows (s_l01Rows K)), (186, sp_s_l01Of (s_l01Of K))], fs := lk [], prot := 0, nt := Try.f127.ntmps }
noncomputable def c_s_l01Projection_L3 : Code := nthC (partsOf (hasK su_s_l01Projection) (bodyOf Try.f127)) 0
theorem es_l01Projection_l3 {R : Type} (K : Nat) (k : Nat) (x : den lv_s_l01Projection_L3.ty) (kx : Nat → St → Option R) (kr : St → Option R) : gs_l01Projection_l3 K (k + 1) x kx kr = evC (cf_s_l01Projection K) (en_s_l01Projection K k) c_s_l01Projection_L3 (mkSt lv_s_l01Projection_L3 x) (fun s => mkLoop lv_s_l01Projection_L3 (gs_l01Projection_l3 K k) s kx kr) kx kr := by kernel_rfl
theorem ss_l01Projection_l3 {R : Type} (K : Nat) (C : Cx) (hP : C.P = Try.prog) (O : CfgOk C (cf_s_l01Projection K)) (k : Nat) : LpS C (R := R) (mkLoop lv_s_l01Projection_L3 (gs_l01Projection_l3 K k)) c_s_l01Projection_L3 :=
  loop_sound O (by rw [hP]; kernel_rfl) (fun x kx kr => rfl) (es_l01Projection_l3 K) (fun k => lpOk_of (en := en_s_l01Projection K k) (S := hasK su_s_l01Projection) (fun i => hasK_lk (sg_s_l01Projection K k) i) _ (by rw [show partsOf (hasK su_s_l01Projection) c_s_l01Projection_L3 = [] from by kernel_rfl]; exact trivial)) k
theorem e_s_l01Projection (K : Nat) (x : den as_s_l01Projection) : s_l01Projection K x = evFn (cf_s_l01Projection K) as_s_l01Projection [false, false] (.st (.pair (.int .i64) (.pair (.int .i64) .unit))) (en_s_l01Projection K K) Try.f127.results.toList (bodyOf Try.f127) x := by kernel_rfl
theorem ok_s_l01Projection (K : Nat) : FnOk Try.prog 127 (sp_s_l01Projection (s_l01Projection K)) :=
  fn_ok (cf := cf_s_l01Projection K) (en := en_s_l01Projection K K) (c := bodyOf Try.f127) Try.func127 (by kernel_rfl) (by kernel_rfl) tysOk (fns_ok (l := [(154, sp_s_l01Rows (s_l01Rows K)), (186, sp_s_l01Of (s_l01Of K))]) ⟨ok_s_l01Rows K, ⟨ok_s_l01Of K, trivial⟩⟩) (shs_ok (l := []) trivial) (by kernel_rfl) rfl (Nat.le_of_ble_eq_true (by kernel_rfl)) (by kernel_rfl) (of_decide_eq_true (by kernel_rfl)) (by decide) (fun C hP O => lpOk_of (en := en_s_l01Projection K K) (S := hasK su_s_l01Projection) (fun i => hasK_lk (sg_s_l01Projection K K) i) _ (by rw [show partsOf (hasK su_s_l01Projection) (bodyOf Try.f127) = [(true, c_s_l01Projection_L3)] from by kernel_rfl]; exact (lpL_loop (f := mkLoop lv_s_l01Projection_L3 (gs_l01Projection_l3 K K)) (by kernel_rfl) (ss_l01Projection_l3 K C hP O K) trivial))) (fun x y h => by rw [← e_s_l01Projection]; exact h)
noncomputable def as_s_l01Weight : Ty := (.pair (.st (.pair (.int .i64) (.pair (.int .i64) .unit))) .unit)
noncomputable def sp_s_l01Weight (F : ((Int × Int × Unit) × Unit) → Option Int) : FnSpec := ⟨as_s_l01Weight, [false], (.int .i64), F⟩
noncomputable def s_l01Weight_l3 {R : Type} (K : Nat) : Nat → (Int × Int × Unit) → Int → Int → (Int → Option R) → Option R
  | 0, _, _, _, _ => none
  | k + 1, v1, v3, v4, kx0 =>
    (s_l01Rows K (v1.1, ())).bind fun y1 =>
    (if (decide (v4 < y1)) = true then
    (s_l01At K (v1, v4, ())).bind fun y2 =>
    s_l01Weight_l3 K k v1 (IntKind.i64.wrap (v3 + y2)) (IntKind.i64.wrap (v4 + (1 : Int))) kx0
    else
    kx0 v3)
noncomputable def s_l01Weight (K : Nat) (x : ((Int × Int × Unit) × Unit)) : Option Int :=
    s_l01Weight_l3 K K x.1 (0 : Int) (0 : Int) (fun z3 =>
    some z3)
noncomputable def lv_s_l01Weight_L3 : Lv := [(1, (.bx (.v (.st (.pair (.int .i64) (.pair (.int .i64) .unit)))))), (3, (.v (.int .i64))), (4, (.v (.int .i64)))]
noncomputable def lv_s_l01Weight_X0 : Lv := [(3, (.v (.int .i64)))]
noncomputable def rv_s_l01Weight : Lv := [(2, (.v (.int .i64)))]
noncomputable def gs_l01Weight_l3 {R : Type} (K : Nat) (k : Nat) (x : den lv_s_l01Weight_L3.ty) (kx : Nat → St → Option R) (kr : St → Option R) : Option R := s_l01Weight_l3 K k x.1 x.2.1 x.2.2.1 (fun z0 => kx 0 (mkSt lv_s_l01Weight_X0 (z0, ())))
noncomputable def sg_s_l01Weight {R : Type} (K : Nat) (k : Nat) : List (Nat × SegS R) := []
noncomputable def su_s_l01Weight : List (Nat × Unit) := []
noncomputable def en_s_l01Weight {R : Type} (K : Nat) (k : Nat) : Env R := { L := lk [(3, mkLoop lv_s_l01Weight_L3 (gs_l01Weight_l3 K k))], X := lk [(0, lv_s_l01Weight_X0)], S := lk (sg_s_l01Weight K k), rv := rv_s_l01Weight }
noncomputable def cf_s_l01Weight (K : Nat) : Cfg := { ty := lk tys, fn := lk [(105, sp_s_l01At (s_l01At K)), (154, sp_s_l01Rows (s_l01Rows K))], fs := lk [], prot := 0, nt := Try.f185.ntmps }
noncomputable def c_s_l01Weight_L3 : Code := nthC (partsOf (hasK su_s_l01Weight) (bodyOf Try.f185)) 0
theorem es_l01Weight_l3 {R : Type} (K : Nat) (k : Nat) (x : den lv_s_l01Weight_L3.ty) (kx : Nat → St → Option R) (kr : St → Option R) : gs_l01Weight_l3 K (k + 1) x kx kr = evC (cf_s_l01Weight K) (en_s_l01Weight K k) c_s_l01Weight_L3 (mkSt lv_s_l01Weight_L3 x) (fun s => mkLoop lv_s_l01Weight_L3 (gs_l01Weight_l3 K k) s kx kr) kx kr := by kernel_rfl
theorem ss_l01Weight_l3 {R : Type} (K : Nat) (C : Cx) (hP : C.P = Try.prog) (O : CfgOk C (cf_s_l01Weight K)) (k : Nat) : LpS C (R := R) (mkLoop lv_s_l01Weight_L3 (gs_l01Weight_l3 K k)) c_s_l01Weight_L3 :=
  loop_sound O (by rw [hP]; kernel_rfl) (fun x kx kr => rfl) (es_l01Weight_l3 K) (fun k => lpOk_of (en := en_s_l01Weight K k) (S := hasK su_s_l01Weight) (fun i => hasK_lk (sg_s_l01Weight K k) i) _ (by rw [show partsOf (hasK su_s_l01Weight) c_s_l01Weight_L3 = [] from by kernel_rfl]; exact trivial)) k
theorem e_s_l01Weight (K : Nat) (x : den as_s_l01Weight) : s_l01Weight K x = evFn (cf_s_l01Weight K) as_s_l01Weight [false] (.int .i64) (en_s_l01Weight K K) Try.f185.results.toList (bodyOf Try.f185) x := by kernel_rfl
theorem ok_s_l01Weight (K : Nat) : FnOk Try.prog 185 (sp_s_l01Weight (s_l01Weight K)) :=
  fn_ok (cf := cf_s_l01Weight K) (en := en_s_l01Weight K K) (c := bodyOf Try.f185) Try.func185 (by kernel_rfl) (by kernel_rfl) tysOk (fns_ok (l := [(105, sp_s_l01At (s_l01At K)), (154, sp_s_l01Rows (s_l01Rows K))]) ⟨ok_s_l01At K, ⟨ok_s_l01Rows K, trivial⟩⟩) (shs_ok (l := []) trivial) (by kernel_rfl) rfl (Nat.le_of_ble_eq_true (by kernel_rfl)) (by kernel_rfl) (of_decide_eq_true (by kernel_rfl)) (by decide) (fun C hP O => lpOk_of (en := en_s_l01Weight K K) (S := hasK su_s_l01Weight) (fun i => hasK_lk (sg_s_l01Weight K K) i) _ (by rw [show partsOf (hasK su_s_l01Weight) (bodyOf Try.f185) = [(true, c_s_l01Weight_L3)] from by kernel_rfl]; exact (lpL_loop (f := mkLoop lv_s_l01Weight_L3 (gs_l01Weight_l3 K K)) (by kernel_rfl) (ss_l01Weight_l3 K C hP O K) trivial))) (fun x y h => by rw [← e_s_l01Weight]; exact h)
noncomputable def as_s_l01Known : Ty := .unit
noncomputable def sp_s_l01Known (F : Unit → Option (List ByteArray)) : FnSpec := ⟨as_s_l01Known, [], (.sl .str), F⟩
noncomputable def s_l01Known (K : Nat) (x : Unit) : Option (List ByteArray) :=
    let l1 := [(⟨#[48, 58, 48]⟩ : ByteArray), (⟨#[48, 58, 49]⟩ : ByteArray), (⟨#[49, 58, 48, 49]⟩ : ByteArray), (⟨#[49, 58, 49, 48]⟩ : ByteArray), (⟨#[50, 58, 48, 48, 48, 49]⟩ : ByteArray), (⟨#[50, 58, 48, 49, 49, 49]⟩ : ByteArray), (⟨#[50, 58, 48, 49, 49, 48]⟩ : ByteArray), (⟨#[50, 58, 49, 49, 49, 48]⟩ : ByteArray), (⟨#[50, 58, 49, 48, 48, 48]⟩ : ByteArray), (⟨#[50, 58, 49, 48, 48, 49]⟩ : ByteArray), (⟨#[50, 58, 49, 48, 49, 49]⟩ : ByteArray), (⟨#[51, 58, 48, 48, 48, 49, 48, 49, 49, 49]⟩ : ByteArray), (⟨#[51, 58, 48, 49, 49, 48, 49, 48, 48, 49]⟩ : ByteArray), (⟨#[51, 58, 48, 48, 48, 49, 49, 48, 49, 49]⟩ : ByteArray)]
    some l1
noncomputable def rv_s_l01Known : Lv := [(0, (.r .str))]
noncomputable def sg_s_l01Known {R : Type} (K : Nat) (k : Nat) : List (Nat × SegS R) := []
noncomputable def su_s_l01Known : List (Nat × Unit) := []
noncomputable def en_s_l01Known {R : Type} (K : Nat) (k : Nat) : Env R := { L := lk [], X := lk [], S := lk (sg_s_l01Known K k), rv := rv_s_l01Known }
noncomputable def cf_s_l01Known (K : Nat) : Cfg := { ty := lk tys, fn := lk [], fs := lk [], prot := 0, nt := Try.f187.ntmps }
theorem e_s_l01Known (K : Nat) (x : den as_s_l01Known) : s_l01Known K x = evFn (cf_s_l01Known K) as_s_l01Known [] (.sl .str) (en_s_l01Known K K) Try.f187.results.toList (bodyOf Try.f187) x := by kernel_rfl
theorem ok_s_l01Known (K : Nat) : FnOk Try.prog 187 (sp_s_l01Known (s_l01Known K)) :=
  fn_ok (cf := cf_s_l01Known K) (en := en_s_l01Known K K) (c := bodyOf Try.f187) Try.func187 (by kernel_rfl) (by kernel_rfl) tysOk (fns_ok (l := []) trivial) (shs_ok (l := []) trivial) (by kernel_rfl) rfl (Nat.le_of_ble_eq_true (by kernel_rfl)) (by kernel_rfl) (of_decide_eq_true (by kernel_rfl)) (by decide) (fun C hP O => lpOk_of (en := en_s_l01Known K K) (S := hasK su_s_l01Known) (fun i => hasK_lk (sg_s_l01Known K K) i) _ (by rw [show partsOf (hasK su_s_l01Known) (bodyOf Try.f187) = [] from by kernel_rfl]; exact trivial)) (fun x y h => by rw [← e_s_l01Known]; exact h)
noncomputable def as_s_l01In : Ty := (.pair (.int .i64) (.pair (.int .i64) (.pair (.int .i64) .unit)))
noncomputable def sp_s_l01In (F : (Int × Int × Int × Unit) → Option Bool) : FnSpec := ⟨as_s_l01In, [false, false, false], .bool, F⟩
noncomputable def s_l01In (K : Nat) (x : (Int × Int × Int × Unit)) : Option Bool :=
    (if (decide (x.1 ≥ x.2.1)) = true then
    some (decide (x.1 ≤ x.2.2.1))
    else
    some false)
noncomputable def rv_s_l01In : Lv := [(6, (.v .bool))]
noncomputable def sg_s_l01In {R : Type} (K : Nat) (k : Nat) : List (Nat × SegS R) := []
noncomputable def su_s_l01In : List (Nat × Unit) := []
noncomputable def en_s_l01In {R : Type} (K : Nat) (k : Nat) : Env R := { L := lk [], X := lk [], S := lk (sg_s_l01In K k), rv := rv_s_l01In }
noncomputable def cf_s_l01In (K : Nat) : Cfg := { ty := lk tys, fn := lk [], fs := lk [], prot := 0, nt := Try.f61.ntmps }
theorem e_s_l01In (K : Nat) (x : den as_s_l01In) : s_l01In K x = evFn (cf_s_l01In K) as_s_l01In [false, false, false] .bool (en_s_l01In K K) Try.f61.results.toList (bodyOf Try.f61) x := by kernel_rfl
theorem ok_s_l01In (K : Nat) : FnOk Try.prog 61 (sp_s_l01In (s_l01In K)) :=
  fn_ok (cf := cf_s_l01In K) (en := en_s_l01In K K) (c := bodyOf Try.f61) Try.func61 (by kernel_rfl) (by kernel_rfl) tysOk (fns_ok (l := []) trivial) (shs_ok (l := []) trivial) (by kernel_rfl) rfl (Nat.le_of_ble_eq_true (by kernel_rfl)) (by kernel_rfl) (of_decide_eq_true (by kernel_rfl)) (by decide) (fun C hP O => lpOk_of (en := en_s_l01In K K) (S := hasK su_s_l01In) (fun i => hasK_lk (sg_s_l01In K K) i) _ (by rw [show partsOf (hasK su_s_l01In) (bodyOf Try.f61) = [] from by kernel_rfl]; exact trivial)) (fun x y h => by rw [← e_s_l01In]; exact h)
noncomputable def as_s_l01Bits : Ty := (.pair (.sl (.int .i64)) .unit)
noncomputable def sp_s_l01Bits (F : ((List Int) × Unit) → Option Bool) : FnSpec := ⟨as_s_l01Bits, [false], .bool, F⟩
noncomputable def s_l01Bits_l2 {R : Type} (K : Nat) : Nat → (List Int) → Int → (Option R) → (Bool → Option R) → Option R
  | 0, _, _, _, _ => none
  | k + 1, v0, v3, kx0, kr =>
    (if (decide (v3 < (v0.length : Int))) = true then
    (if (bnds v3 (v0.length : Int)) = true then
    (s_l01In K ((v0.getD v3.toNat (0 : Int)), (0 : Int), (1 : Int), ())).bind fun y1 =>
    (if (!y1) = true then
    kr false
    else
    s_l01Bits_l2 K k v0 (IntKind.i64.wrap (v3 + (1 : Int))) kx0 kr)
    else
    none)
    else
    kx0)
noncomputable def s_l01Bits (K : Nat) (x : ((List Int) × Unit)) : Option Bool :=
    s_l01Bits_l2 K K x.1 (0 : Int) (some true) (fun z2 =>
    some z2)
noncomputable def lv_s_l01Bits_L2 : Lv := [(0, (.v (.sl (.int .i64)))), (3, (.v (.int .i64)))]
noncomputable def lv_s_l01Bits_X0 : Lv := []
noncomputable def rv_s_l01Bits : Lv := [(2, (.v .bool))]
noncomputable def gs_l01Bits_l2 {R : Type} (K : Nat) (k : Nat) (x : den lv_s_l01Bits_L2.ty) (kx : Nat → St → Option R) (kr : St → Option R) : Option R := s_l01Bits_l2 K k x.1 x.2.1 (kx 0 (mkSt lv_s_l01Bits_X0 ())) (fun z0 => kr (mkSt rv_s_l01Bits (z0, ())))
noncomputable def sg_s_l01Bits {R : Type} (K : Nat) (k : Nat) : List (Nat × SegS R) := []
noncomputable def su_s_l01Bits : List (Nat × Unit) := []
noncomputable def en_s_l01Bits {R : Type} (K : Nat) (k : Nat) : Env R := { L := lk [(2, mkLoop lv_s_l01Bits_L2 (gs_l01Bits_l2 K k))], X := lk [(0, lv_s_l01Bits_X0)], S := lk (sg_s_l01Bits K k), rv := rv_s_l01Bits }
noncomputable def cf_s_l01Bits (K : Nat) : Cfg := { ty := lk tys, fn := lk [(61, sp_s_l01In (s_l01In K))], fs := lk [], prot := 0, nt := Try.f236.ntmps }
noncomputable def c_s_l01Bits_L2 : Code := nthC (partsOf (hasK su_s_l01Bits) (bodyOf Try.f236)) 0
theorem es_l01Bits_l2 {R : Type} (K : Nat) (k : Nat) (x : den lv_s_l01Bits_L2.ty) (kx : Nat → St → Option R) (kr : St → Option R) : gs_l01Bits_l2 K (k + 1) x kx kr = evC (cf_s_l01Bits K) (en_s_l01Bits K k) c_s_l01Bits_L2 (mkSt lv_s_l01Bits_L2 x) (fun s => mkLoop lv_s_l01Bits_L2 (gs_l01Bits_l2 K k) s kx kr) kx kr := by kernel_rfl
theorem ss_l01Bits_l2 {R : Type} (K : Nat) (C : Cx) (hP : C.P = Try.prog) (O : CfgOk C (cf_s_l01Bits K)) (k : Nat) : LpS C (R := R) (mkLoop lv_s_l01Bits_L2 (gs_l01Bits_l2 K k)) c_s_l01Bits_L2 :=
  loop_sound O (by rw [hP]; kernel_rfl) (fun x kx kr => rfl) (es_l01Bits_l2 K) (fun k => lpOk_of (en := en_s_l01Bits K k) (S := hasK su_s_l01Bits) (fun i => hasK_lk (sg_s_l01Bits K k) i) _ (by rw [show partsOf (hasK su_s_l01Bits) c_s_l01Bits_L2 = [] from by kernel_rfl]; exact trivial)) k
theorem e_s_l01Bits (K : Nat) (x : den as_s_l01Bits) : s_l01Bits K x = evFn (cf_s_l01Bits K) as_s_l01Bits [false] .bool (en_s_l01Bits K K) Try.f236.results.toList (bodyOf Try.f236) x := by kernel_rfl
theorem ok_s_l01Bits (K : Nat) : FnOk Try.prog 236 (sp_s_l01Bits (s_l01Bits K)) :=
  fn_ok (cf := cf_s_l01Bits K) (en := en_s_l01Bits K K) (c := bodyOf Try.f236) Try.func236 (by kernel_rfl) (by kernel_rfl) tysOk (fns_ok (l := [(61, sp_s_l01In (s_l01In K))]) ⟨ok_s_l01In K, trivial⟩) (shs_ok (l := []) trivial) (by kernel_rfl) rfl (Nat.le_of_ble_eq_true (by kernel_rfl)) (by kernel_rfl) (of_decide_eq_true (by kernel_rfl)) (by decide) (fun C hP O => lpOk_of (en := en_s_l01Bits K K) (S := hasK su_s_l01Bits) (fun i => hasK_lk (sg_s_l01Bits K K) i) _ (by rw [show partsOf (hasK su_s_l01Bits) (bodyOf Try.f236) = [(true, c_s_l01Bits_L2)] from by kernel_rfl]; exact (lpL_loop (f := mkLoop lv_s_l01Bits_L2 (gs_l01Bits_l2 K K)) (by kernel_rfl) (ss_l01Bits_l2 K C hP O K) trivial))) (fun x y h => by rw [← e_s_l01Bits]; exact h)
noncomputable def as_s_l01Read : Ty := (.pair .str .unit)
noncomputable def sp_s_l01Read (F : (ByteArray × Unit) → Option ((Int × Int × Unit) × Bool × Unit)) : FnSpec := ⟨as_s_l01Read, [false], (.tup (.pair (.st (.pair (.int .i64) (.pair (.int .i64) .unit))) (.pair .bool .unit))), F⟩
noncomputable def s_l01Read_l7 {R : Type} (K : Nat) : Nat → ByteArray → (Int × Int × Unit) → Int → (List Int) → Int → ((Int × Int × Unit) → Int → (List Int) → Option R) → Option R
  | 0, _, _, _, _, _, _ => none
  | k + 1, v0, v2, v4, v5, v6, kx0 =>
    (if (decide (v6 < (v0.size : Int))) = true then
    (if (bnds v6 (v0.size : Int)) = true then
    let x6 := (IntKind.i64.wrap ((IntKind.i64.wrap (byteAt v0 v6)) - (48 : Int)))
    (if (decide (v5.length + ([x6]).length ≤ lim)) = true then
    let l7 := (v5 ++ [x6])
    s_l01Read_l7 K k v0 v2 v4 l7 (IntKind.i64.wrap (v6 + (1 : Int))) kx0
    else
    none)
    else
    none)
    else
    kx0 v2 v4 v5)
noncomputable def s_l01Read_j6 {R : Type} (K : Nat) (k : Nat) (v0 : ByteArray) (v2 : (Int × Int × Unit)) (v4 : Int) (v5 : (List Int)) (kn : Option R) (kr : ((Int × Int × Unit) → Bool → Option R)) : Option R :=
    s_l01Read_l7 K k v0 v2 v4 v5 (2 : Int) (fun z8 z9 z10 =>
    (s_l01Bits K (z10, ())).bind fun y11 =>
    (if (!y11) = true then
    kr ((0 : Int), (0 : Int), ()) false
    else
    (s_l01Of K (z9, z10, ())).bind fun y12 =>
    kr y12 true))
noncomputable def s_l01Read_j3 {R : Type} (K : Nat) (k : Nat) (v0 : ByteArray) (v2 : (Int × Int × Unit)) (kn : Option R) (kr : ((Int × Int × Unit) → Bool → Option R)) : Option R :=
    (if (bnds (0 : Int) (v0.size : Int)) = true then
    let x1 := (IntKind.i64.wrap ((IntKind.i64.wrap (byteAt v0 (0 : Int))) - (48 : Int)))
    let l2 := ([] : List Int)
    (s_l01In K (x1, (0 : Int), (4 : Int), ())).bind fun y3 =>
    (if (!y3) = true then
    kr ((0 : Int), (0 : Int), ()) false
    else
    (s_l01Rows K (x1, ())).bind fun y4 =>
    let x5 := (!decide ((v0.size : Int) = (IntKind.i64.wrap ((2 : Int) + y4))))
    (if x5 = true then
    kr ((0 : Int), (0 : Int), ()) false
    else
    s_l01Read_j6 K k v0 v2 x1 l2 none (fun z13 z14 =>
    kr z13 z14)))
    else
    none)
noncomputable def s_l01Read (K : Nat) (x : (ByteArray × Unit)) : Option ((Int × Int × Unit) × Bool × Unit) :=
    (if (decide ((x.1.size : Int) < (3 : Int))) = true then
    some (((0 : Int), (0 : Int), ()), false, ())
    else
    (if (bnds (1 : Int) (x.1.size : Int)) = true then
    (if (!decide ((byteAt x.1 (1 : Int)) = (58 : Int))) = true then
    some (((0 : Int), (0 : Int), ()), false, ())
    else
    s_l01Read_j3 K K x.1 ((0 : Int), (0 : Int), ()) none (fun z15 z16 =>
    some (z15, z16, ())))
    else
    none))
noncomputable def lv_s_l01Read_J3 : Lv := [(0, (.v .str)), (2, (.bx (.v (.st (.pair (.int .i64) (.pair (.int .i64) .unit))))))]
noncomputable def lv_s_l01Read_J6 : Lv := [(0, (.v .str)), (2, (.bx (.v (.st (.pair (.int .i64) (.pair (.int .i64) .unit)))))), (4, (.v (.int .i64))), (5, (.r (.int .i64)))]
noncomputable def lv_s_l01Read_L7 : Lv := [(0, (.v .str)), (2, (.bx (.v (.st (.pair (.int .i64) (.pair (.int .i64) .unit)))))), (4, (.v (.int .i64))), (5, (.r (.int .i64))), (6, (.v (.int .i64)))]
noncomputable def lv_s_l01Read_N3 : Lv := []
noncomputable def lv_s_l01Read_N6 : Lv := []
noncomputable def lv_s_l01Read_X0 : Lv := [(2, (.bx (.v (.st (.pair (.int .i64) (.pair (.int .i64) .unit)))))), (4, (.v (.int .i64))), (5, (.r (.int .i64)))]
noncomputable def rv_s_l01Read : Lv := [(2, (.bx (.v (.st (.pair (.int .i64) (.pair (.int .i64) .unit)))))), (3, (.v .bool))]
noncomputable def gs_l01Read_l7 {R : Type} (K : Nat) (k : Nat) (x : den lv_s_l01Read_L7.ty) (kx : Nat → St → Option R) (kr : St → Option R) : Option R := s_l01Read_l7 K k x.1 x.2.1 x.2.2.1 x.2.2.2.1 x.2.2.2.2.1 (fun z0 z1 z2 => kx 0 (mkSt lv_s_l01Read_X0 (z0, z1, z2, ())))
noncomputable def gs_l01Read_j6 {R : Type} (K : Nat) (k : Nat) (x : den lv_s_l01Read_J6.ty) (kn : den lv_s_l01Read_N6.ty → Option R) (kx : Nat → St → Option R) (kr : St → Option R) : Option R := s_l01Read_j6 K k x.1 x.2.1 x.2.2.1 x.2.2.2.1 (kn ()) (fun z0 z1 => kr (mkSt rv_s_l01Read (z0, z1, ())))
noncomputable def gs_l01Read_j3 {R : Type} (K : Nat) (k : Nat) (x : den lv_s_l01Read_J3.ty) (kn : den lv_s_l01Read_N3.ty → Option R) (kx : Nat → St → Option R) (kr : St → Option R) : Option R := s_l01Read_j3 K k x.1 x.2.1 (kn ()) (fun z0 z1 => kr (mkSt rv_s_l01Read (z0, z1, ())))
noncomputable def sg_s_l01Read {R : Type} (K : Nat) (k : Nat) : List (Nat × SegS R) := [(6, mkSeg lv_s_l01Read_J6 lv_s_l01Read_N6 (gs_l01Read_j6 K k)), (3, mkSeg lv_s_l01Read_J3 lv_s_l01Read_N3 (gs_l01Read_j3 K k))]
noncomputable def su_s_l01Read : List (Nat × Unit) := [(6, ()), (3, ())]
noncomputable def en_s_l01Read {R : Type} (K : Nat) (k : Nat) : Env R := { L := lk [(7, mkLoop lv_s_l01Read_L7 (gs_l01Read_l7 K k))], X := lk [(0, lv_s_l01Read_X0)], S := lk (sg_s_l01Read K k), rv := rv_s_l01Read }
noncomputable def cf_s_l01Read (K : Nat) : Cfg := { ty := lk tys, fn := lk [(61, sp_s_l01In (s_l01In K)), (154, sp_s_l01Rows (s_l01Rows K)), (186, sp_s_l01Of (s_l01Of K)), (236, sp_s_l01Bits (s_l01Bits K))], fs := lk [], prot := 0, nt := Try.f188.ntmps }
noncomputable def c_s_l01Read_J3 : Code := nthC (partsOf (hasK su_s_l01Read) (bodyOf Try.f188)) 0
noncomputable def c_s_l01Read_J6 : Code := nthC (partsOf (hasK su_s_l01Read) c_s_l01Read_J3) 0
noncomputable def c_s_l01Read_L7 : Code := nthC (partsOf (hasK su_s_l01Read) c_s_l01Read_J6) 0
theorem es_l01Read_l7 {R : Type} (K : Nat) (k : Nat) (x : den lv_s_l01Read_L7.ty) (kx : Nat → St → Option R) (kr : St → Option R) : gs_l01Read_l7 K (k + 1) x kx kr = evC (cf_s_l01Read K) (en_s_l01Read K k) c_s_l01Read_L7 (mkSt lv_s_l01Read_L7 x) (fun s => mkLoop lv_s_l01Read_L7 (gs_l01Read_l7 K k) s kx kr) kx kr := by kernel_rfl
theorem ss_l01Read_l7 {R : Type} (K : Nat) (C : Cx) (hP : C.P = Try.prog) (O : CfgOk C (cf_s_l01Read K)) (k : Nat) : LpS C (R := R) (mkLoop lv_s_l01Read_L7 (gs_l01Read_l7 K k)) c_s_l01Read_L7 :=
  loop_sound O (by rw [hP]; kernel_rfl) (fun x kx kr => rfl) (es_l01Read_l7 K) (fun k => lpOk_of (en := en_s_l01Read K k) (S := hasK su_s_l01Read) (fun i => hasK_lk (sg_s_l01Read K k) i) _ (by rw [show partsOf (hasK su_s_l01Read) c_s_l01Read_L7 = [] from by kernel_rfl]; exact trivial)) k
theorem es_l01Read_j6 {R : Type} (K : Nat) (k : Nat) (x : den lv_s_l01Read_J6.ty) (kn : den lv_s_l01Read_N6.ty → Option R) (kx : Nat → St → Option R) (kr : St → Option R) : gs_l01Read_j6 K k x kn kx kr = evC (cf_s_l01Read K) (en_s_l01Read K k) c_s_l01Read_J6 (mkSt lv_s_l01Read_J6 x) (cutK lv_s_l01Read_N6 kn) kx kr := by kernel_rfl
theorem ss_l01Read_j6 {R : Type} (K : Nat) (C : Cx) (hP : C.P = Try.prog) (O : CfgOk C (cf_s_l01Read K)) (k : Nat) : SgS C (R := R) (mkSeg lv_s_l01Read_J6 lv_s_l01Read_N6 (gs_l01Read_j6 K k)) c_s_l01Read_J6 :=
  seg_sound O (by rw [hP]; kernel_rfl) (es_l01Read_j6 K k) (lpOk_of (en := en_s_l01Read K k) (S := hasK su_s_l01Read) (fun i => hasK_lk (sg_s_l01Read K k) i) _ (by rw [show partsOf (hasK su_s_l01Read) c_s_l01Read_J6 = [(true, c_s_l01Read_L7)] from by kernel_rfl]; exact (lpL_loop (f := mkLoop lv_s_l01Read_L7 (gs_l01Read_l7 K k)) (by kernel_rfl) (ss_l01Read_l7 K C hP O k) trivial)))
theorem es_l01Read_j3 {R : Type} (K : Nat) (k : Nat) (x : den lv_s_l01Read_J3.ty) (kn : den lv_s_l01Read_N3.ty → Option R) (kx : Nat → St → Option R) (kr : St → Option R) : gs_l01Read_j3 K k x kn kx kr = evC (cf_s_l01Read K) (en_s_l01Read K k) c_s_l01Read_J3 (mkSt lv_s_l01Read_J3 x) (cutK lv_s_l01Read_N3 kn) kx kr := by kernel_rfl
theorem ss_l01Read_j3 {R : Type} (K : Nat) (C : Cx) (hP : C.P = Try.prog) (O : CfgOk C (cf_s_l01Read K)) (k : Nat) : SgS C (R := R) (mkSeg lv_s_l01Read_J3 lv_s_l01Read_N3 (gs_l01Read_j3 K k)) c_s_l01Read_J3 :=
  seg_sound O (by rw [hP]; kernel_rfl) (es_l01Read_j3 K k) (lpOk_of (en := en_s_l01Read K k) (S := hasK su_s_l01Read) (fun i => hasK_lk (sg_s_l01Read K k) i) _ (by rw [show partsOf (hasK su_s_l01Read) c_s_l01Read_J3 = [(false, c_s_l01Read_J6)] from by kernel_rfl]; exact (lpL_seg (f := mkSeg lv_s_l01Read_J6 lv_s_l01Read_N6 (gs_l01Read_j6 K k)) (by kernel_rfl) (ss_l01Read_j6 K C hP O k) trivial)))
theorem e_s_l01Read (K : Nat) (x : den as_s_l01Read) : s_l01Read K x = evFn (cf_s_l01Read K) as_s_l01Read [false] (.tup (.pair (.st (.pair (.int .i64) (.pair (.int .i64) .unit))) (.pair .bool .unit))) (en_s_l01Read K K) Try.f188.results.toList (bodyOf Try.f188) x := by kernel_rfl
theorem ok_s_l01Read (K : Nat) : FnOk Try.prog 188 (sp_s_l01Read (s_l01Read K)) :=
  fn_ok (cf := cf_s_l01Read K) (en := en_s_l01Read K K) (c := bodyOf Try.f188) Try.func188 (by kernel_rfl) (by kernel_rfl) tysOk (fns_ok (l := [(61, sp_s_l01In (s_l01In K)), (154, sp_s_l01Rows (s_l01Rows K)), (186, sp_s_l01Of (s_l01Of K)), (236, sp_s_l01Bits (s_l01Bits K))]) ⟨ok_s_l01In K, ⟨ok_s_l01Rows K, ⟨ok_s_l01Of K, ⟨ok_s_l01Bits K, trivial⟩⟩⟩⟩) (shs_ok (l := []) trivial) (by kernel_rfl) rfl (Nat.le_of_ble_eq_true (by kernel_rfl)) (by kernel_rfl) (of_decide_eq_true (by kernel_rfl)) (by decide) (fun C hP O => lpOk_of (en := en_s_l01Read K K) (S := hasK su_s_l01Read) (fun i => hasK_lk (sg_s_l01Read K K) i) _ (by rw [show partsOf (hasK su_s_l01Read) (bodyOf Try.f188) = [(false, c_s_l01Read_J3)] from by kernel_rfl]; exact (lpL_seg (f := mkSeg lv_s_l01Read_J3 lv_s_l01Read_N3 (gs_l01Read_j3 K K)) (by kernel_rfl) (ss_l01Read_j3 K C hP O K) trivial))) (fun x y h => by rw [← e_s_l01Read]; exact h)
noncomputable def as_s_l01Fix : Ty := (.pair (.st (.pair (.int .i64) (.pair (.int .i64) .unit))) (.pair (.int .i64) (.pair (.int .i64) .unit)))
noncomputable def sp_s_l01Fix (F : ((Int × Int × Unit) × Int × Int × Unit) → Option (Int × Int × Unit)) : FnSpec := ⟨as_s_l01Fix, [false, false, false], (.st (.pair (.int .i64) (.pair (.int .i64) .unit))), F⟩
noncomputable def s_l01Fix_l3 {R : Type} (K : Nat) : Nat → Int → Int → (Int × Int × Unit) → (Int × Int × Unit) → (List Int) → Int → ((Int × Int × Unit) → (Int × Int × Unit) → (List Int) → Option R) → Option R
  | 0, _, _, _, _, _, _, _ => none
  | k + 1, v1, v2, v3, v6, v7, v8, kx0 =>
    (s_l01Rows K (v3.1, ())).bind fun y2 =>
    (if (decide (v8 < y2)) = true then
    (if (decide ((0 : Int) ≤ (IntKind.u64.wrap v1))) = true then
    let x3 := (bitI .and .i64 (shrI .i64 v8 (IntKind.u64.wrap v1)) (1 : Int))
    (if (decide (x3 = v2)) = true then
    (s_l01At K (v3, v8, ())).bind fun y4 =>
    (if (decide (v7.length + ([y4]).length ≤ lim)) = true then
    let l5 := (v7 ++ [y4])
    s_l01Fix_l3 K k v1 v2 v3 v6 l5 (IntKind.i64.wrap (v8 + (1 : Int))) kx0
    else
    none)
    else
    s_l01Fix_l3 K k v1 v2 v3 v6 v7 (IntKind.i64.wrap (v8 + (1 : Int))) kx0)
    else
    none)
    else
    kx0 v3 v6 v7)
noncomputable def s_l01Fix (K : Nat) (x : ((Int × Int × Unit) × Int × Int × Unit)) : Option (Int × Int × Unit) :=
    let l1 := ([] : List Int)
    s_l01Fix_l3 K K x.2.1 x.2.2.1 x.1 ((0 : Int), (0 : Int), ()) l1 (0 : Int) (fun z6 z7 z8 =>
    (s_l01Of K ((IntKind.i64.wrap (z6.1 - (1 : Int))), z8, ())).bind fun y9 =>
    some y9)
noncomputable def lv_s_l01Fix_L3 : Lv := [(1, (.v (.int .i64))), (2, (.v (.int .i64))), (3, (.bx (.v (.st (.pair (.int .i64) (.pair (.int .i64) .unit)))))), (6, (.bx (.v (.st (.pair (.int .i64) (.pair (.int .i64) .unit)))))), (7, (.r (.int .i64))), (8, (.v (.int .i64)))]
noncomputable def lv_s_l01Fix_X0 : Lv := [(3, (.bx (.v (.st (.pair (.int .i64) (.pair (.int .i64) .unit)))))), (6, (.bx (.v (.st (.pair (.int .i64) (.pair (.int .i64) .unit)))))), (7, (.r (.int .i64)))]
noncomputable def rv_s_l01Fix : Lv := [(6, (.bx (.v (.st (.pair (.int .i64) (.pair (.int .i64) .unit))))))]
noncomputable def gs_l01Fix_l3 {R : Type} (K : Nat) (k : Nat) (x : den lv_s_l01Fix_L3.ty) (kx : Nat → St → Option R) (kr : St → Option R) : Option R := s_l01Fix_l3 K k x.1 x.2.1 x.2.2.1 x.2.2.2.1 x.2.2.2.2.1 x.2.2.2.2.2.1 (fun z0 z1 z2 => kx 0 (mkSt lv_s_l01Fix_X0 (z0, z1, z2, ())))
noncomputable def sg_s_l01Fix {R : Type} (K : Nat) (k : Nat) : List (Nat × SegS R) := []
noncomputable def su_s_l01Fix : List (Nat × Unit) := []
noncomputable def en_s_l01Fix {R : Type} (K : Nat) (k : Nat) : Env R := { L := lk [(3, mkLoop lv_s_l01Fix_L3 (gs_l01Fix_l3 K k))], X := lk [(0, lv_s_l01Fix_X0)], S := lk (sg_s_l01Fix K k), rv := rv_s_l01Fix }
noncomputable def cf_s_l01Fix (K : Nat) : Cfg := { ty := lk tys, fn := lk [(105, sp_s_l01At (s_l01At K)), (154, sp_s_l01Rows (s_l01Rows K)), (186, sp_s_l01Of (s_l01Of K))], fs := lk [], prot := 0, nt := Try.f189.ntmps }
noncomputable def c_s_l01Fix_L3 : Code := nthC (partsOf (hasK su_s_l01Fix) (bodyOf Try.f189)) 0
theorem es_l01Fix_l3 {R : Type} (K : Nat) (k : Nat) (x : den lv_s_l01Fix_L3.ty) (kx : Nat → St → Option R) (kr : St → Option R) : gs_l01Fix_l3 K (k + 1) x kx kr = evC (cf_s_l01Fix K) (en_s_l01Fix K k) c_s_l01Fix_L3 (mkSt lv_s_l01Fix_L3 x) (fun s => mkLoop lv_s_l01Fix_L3 (gs_l01Fix_l3 K k) s kx kr) kx kr := by kernel_rfl
theorem ss_l01Fix_l3 {R : Type} (K : Nat) (C : Cx) (hP : C.P = Try.prog) (O : CfgOk C (cf_s_l01Fix K)) (k : Nat) : LpS C (R := R) (mkLoop lv_s_l01Fix_L3 (gs_l01Fix_l3 K k)) c_s_l01Fix_L3 :=
  loop_sound O (by rw [hP]; kernel_rfl) (fun x kx kr => rfl) (es_l01Fix_l3 K) (fun k => lpOk_of (en := en_s_l01Fix K k) (S := hasK su_s_l01Fix) (fun i => hasK_lk (sg_s_l01Fix K k) i) _ (by rw [show partsOf (hasK su_s_l01Fix) c_s_l01Fix_L3 = [] from by kernel_rfl]; exact trivial)) k
theorem e_s_l01Fix (K : Nat) (x : den as_s_l01Fix) : s_l01Fix K x = evFn (cf_s_l01Fix K) as_s_l01Fix [false, false, false] (.st (.pair (.int .i64) (.pair (.int .i64) .unit))) (en_s_l01Fix K K) Try.f189.results.toList (bodyOf Try.f189) x := by kernel_rfl
theorem ok_s_l01Fix (K : Nat) : FnOk Try.prog 189 (sp_s_l01Fix (s_l01Fix K)) :=
  fn_ok (cf := cf_s_l01Fix K) (en := en_s_l01Fix K K) (c := bodyOf Try.f189) Try.func189 (by kernel_rfl) (by kernel_rfl) tysOk (fns_ok (l := [(105, sp_s_l01At (s_l01At K)), (154, sp_s_l01Rows (s_l01Rows K)), (186, sp_s_l01Of (s_l01Of K))]) ⟨ok_s_l01At K, ⟨ok_s_l01Rows K, ⟨ok_s_l01Of K, trivial⟩⟩⟩) (shs_ok (l := []) trivial) (by kernel_rfl) rfl (Nat.le_of_ble_eq_true (by kernel_rfl)) (by kernel_rfl) (of_decide_eq_true (by kernel_rfl)) (by decide) (fun C hP O => lpOk_of (en := en_s_l01Fix K K) (S := hasK su_s_l01Fix) (fun i => hasK_lk (sg_s_l01Fix K K) i) _ (by rw [show partsOf (hasK su_s_l01Fix) (bodyOf Try.f189) = [(true, c_s_l01Fix_L3)] from by kernel_rfl]; exact (lpL_loop (f := mkLoop lv_s_l01Fix_L3 (gs_l01Fix_l3 K K)) (by kernel_rfl) (ss_l01Fix_l3 K C hP O K) trivial))) (fun x y h => by rw [← e_s_l01Fix]; exact h)
noncomputable def as_s_l01Dual : Ty := (.pair (.st (.pair (.int .i64) (.pair (.int .i64) .unit))) .unit)
noncomputable def sp_s_l01Dual (F : ((Int × Int × Unit) × Unit) → Option (Int × Int × Unit)) : FnSpec := ⟨as_s_l01Dual, [false], (.st (.pair (.int .i64) (.pair (.int .i64) .unit))), F⟩
noncomputable def s_l01Dual_l3 {R : Type} (K : Nat) : Nat → (Int × Int × Unit) → (Int × Int × Unit) → (List Int) → Int → Int → ((Int × Int × Unit) → (Int × Int × Unit) → (List Int) → Option R) → Option R
  | 0, _, _, _, _, _, _ => none
  | k + 1, v1, v2, v3, v4, v5, kx0 =>
    (if (decide (v5 < v4)) = true then
    let x3 := (IntKind.i64.wrap ((IntKind.i64.wrap (v4 - (1 : Int))) - v5))
    (s_l01At K (v1, x3, ())).bind fun y4 =>
    let l5 := [(IntKind.i64.wrap ((1 : Int) - y4))]
    (if (decide (v3.length + l5.length ≤ lim)) = true then
    let l6 := (v3 ++ l5)
    s_l01Dual_l3 K k v1 v2 l6 v4 (IntKind.i64.wrap (v5 + (1 : Int))) kx0
    else
    none)
    else
    kx0 v1 v2 v3)
noncomputable def s_l01Dual (K : Nat) (x : ((Int × Int × Unit) × Unit)) : Option (Int × Int × Unit) :=
    let l1 := ([] : List Int)
    (s_l01Rows K (x.1.1, ())).bind fun y2 =>
    s_l01Dual_l3 K K x.1 ((0 : Int), (0 : Int), ()) l1 y2 (0 : Int) (fun z7 z8 z9 =>
    (s_l01Of K (z7.1, z9, ())).bind fun y10 =>
    some y10)
noncomputable def lv_s_l01Dual_L3 : Lv := [(1, (.bx (.v (.st (.pair (.int .i64) (.pair (.int .i64) .unit)))))), (2, (.bx (.v (.st (.pair (.int .i64) (.pair (.int .i64) .unit)))))), (3, (.r (.int .i64))), (4, (.v (.int .i64))), (5, (.v (.int .i64)))]
noncomputable def lv_s_l01Dual_X0 : Lv := [(1, (.bx (.v (.st (.pair (.int .i64) (.pair (.int .i64) .unit)))))), (2, (.bx (.v (.st (.pair (.int .i64) (.pair (.int .i64) .unit)))))), (3, (.r (.int .i64)))]
noncomputable def rv_s_l01Dual : Lv := [(2, (.bx (.v (.st (.pair (.int .i64) (.pair (.int .i64) .unit))))))]
noncomputable def gs_l01Dual_l3 {R : Type} (K : Nat) (k : Nat) (x : den lv_s_l01Dual_L3.ty) (kx : Nat → St → Option R) (kr : St → Option R) : Option R := s_l01Dual_l3 K k x.1 x.2.1 x.2.2.1 x.2.2.2.1 x.2.2.2.2.1 (fun z0 z1 z2 => kx 0 (mkSt lv_s_l01Dual_X0 (z0, z1, z2, ())))
noncomputable def sg_s_l01Dual {R : Type} (K : Nat) (k : Nat) : List (Nat × SegS R) := []
noncomputable def su_s_l01Dual : List (Nat × Unit) := []
noncomputable def en_s_l01Dual {R : Type} (K : Nat) (k : Nat) : Env R := { L := lk [(3, mkLoop lv_s_l01Dual_L3 (gs_l01Dual_l3 K k))], X := lk [(0, lv_s_l01Dual_X0)], S := lk (sg_s_l01Dual K k), rv := rv_s_l01Dual }
noncomputable def cf_s_l01Dual (K : Nat) : Cfg := { ty := lk tys, fn := lk [(105, sp_s_l01At (s_l01At K)), (154, sp_s_l01Rows (s_l01Rows K)), (186, sp_s_l01Of (s_l01Of K))], fs := lk [], prot := 0, nt := Try.f190.ntmps }
noncomputable def c_s_l01Dual_L3 : Code := nthC (partsOf (hasK su_s_l01Dual) (bodyOf Try.f190)) 0
theorem es_l01Dual_l3 {R : Type} (K : Nat) (k : Nat) (x : den lv_s_l01Dual_L3.ty) (kx : Nat → St → Option R) (kr : St → Option R) : gs_l01Dual_l3 K (k + 1) x kx kr = evC (cf_s_l01Dual K) (en_s_l01Dual K k) c_s_l01Dual_L3 (mkSt lv_s_l01Dual_L3 x) (fun s => mkLoop lv_s_l01Dual_L3 (gs_l01Dual_l3 K k) s kx kr) kx kr := by kernel_rfl
theorem ss_l01Dual_l3 {R : Type} (K : Nat) (C : Cx) (hP : C.P = Try.prog) (O : CfgOk C (cf_s_l01Dual K)) (k : Nat) : LpS C (R := R) (mkLoop lv_s_l01Dual_L3 (gs_l01Dual_l3 K k)) c_s_l01Dual_L3 :=
  loop_sound O (by rw [hP]; kernel_rfl) (fun x kx kr => rfl) (es_l01Dual_l3 K) (fun k => lpOk_of (en := en_s_l01Dual K k) (S := hasK su_s_l01Dual) (fun i => hasK_lk (sg_s_l01Dual K k) i) _ (by rw [show partsOf (hasK su_s_l01Dual) c_s_l01Dual_L3 = [] from by kernel_rfl]; exact trivial)) k
theorem e_s_l01Dual (K : Nat) (x : den as_s_l01Dual) : s_l01Dual K x = evFn (cf_s_l01Dual K) as_s_l01Dual [false] (.st (.pair (.int .i64) (.pair (.int .i64) .unit))) (en_s_l01Dual K K) Try.f190.results.toList (bodyOf Try.f190) x := by kernel_rfl
theorem ok_s_l01Dual (K : Nat) : FnOk Try.prog 190 (sp_s_l01Dual (s_l01Dual K)) :=
  fn_ok (cf := cf_s_l01Dual K) (en := en_s_l01Dual K K) (c := bodyOf Try.f190) Try.func190 (by kernel_rfl) (by kernel_rfl) tysOk (fns_ok (l := [(105, sp_s_l01At (s_l01At K)), (154, sp_s_l01Rows (s_l01Rows K)), (186, sp_s_l01Of (s_l01Of K))]) ⟨ok_s_l01At K, ⟨ok_s_l01Rows K, ⟨ok_s_l01Of K, trivial⟩⟩⟩) (shs_ok (l := []) trivial) (by kernel_rfl) rfl (Nat.le_of_ble_eq_true (by kernel_rfl)) (by kernel_rfl) (of_decide_eq_true (by kernel_rfl)) (by decide) (fun C hP O => lpOk_of (en := en_s_l01Dual K K) (S := hasK su_s_l01Dual) (fun i => hasK_lk (sg_s_l01Dual K K) i) _ (by rw [show partsOf (hasK su_s_l01Dual) (bodyOf Try.f190) = [(true, c_s_l01Dual_L3)] from by kernel_rfl]; exact (lpL_loop (f := mkLoop lv_s_l01Dual_L3 (gs_l01Dual_l3 K K)) (by kernel_rfl) (ss_l01Dual_l3 K C hP O K) trivial))) (fun x y h => by rw [← e_s_l01Dual]; exact h)
noncomputable def ps_s_l01DrawOf : Lv := [(0, (.bx (.v (.st (.pair (.sl (.int .u8)) (.pair (.int .i64) (.pair (.int .u64) .unit))))))), (1, (.v (.int .i64)))]
noncomputable def rl_s_l01DrawOf : Lv := [(0, (.v (.st (.pair (.int .i64) (.pair (.int .i64) .unit)))))]
noncomputable def sp_s_l01DrawOf (F : (((List Int) × Int × Int × Unit) × Int × Unit) → Option (((Int × Int × Unit) × Unit) × (((List Int) × Int × Int × Unit) × Unit))) : ShSpec := ⟨ps_s_l01DrawOf, rl_s_l01DrawOf, F⟩
noncomputable def s_l01DrawOf_j33 {R : Type} (K : Nat) (k : Nat) (v0 : ((List Int) × Int × Int × Unit)) (v4 : (Int × Int × Unit)) (v5 : (Int × Int × Unit)) (kn : Option R) (kr : (((List Int) × Int × Int × Unit) → (Int × Int × Unit) → Option R)) : Option R :=
    kr v0 v5
noncomputable def s_l01DrawOf_l11 {R : Type} (K : Nat) : Nat → ((List Int) × Int × Int × Unit) → Int → (Int × Int × Unit) → Int → (List Int) → Int → Int → (((List Int) × Int × Int × Unit) → Int → (Int × Int × Unit) → (List Int) → Option R) → Option R
  | 0, _, _, _, _, _, _, _, _ => none
  | k + 1, v0, v1, v4, v6, v7, v8, v9, kx1 =>
    (s_l01Rows K (v1, ())).bind fun y14 =>
    (if (decide (v9 < y14)) = true then
    let x15 := (((4 : Int), ((0 : Int), (0 : Int), ()).2.1, ()).1, (bitI .and .i64 v9 v6), ())
    (s_l01Weight K (x15, ())).bind fun y16 =>
    let l17 := [(Int.tmod (IntKind.i64.wrap (y16 + v8)) (2 : Int))]
    (if (decide (v7.length + l17.length ≤ lim)) = true then
    let l18 := (v7 ++ l17)
    s_l01DrawOf_l11 K k v0 v1 v4 v6 l18 v8 (IntKind.i64.wrap (v9 + (1 : Int))) kx1
    else
    none)
    else
    kx1 v0 v1 v4 v7)
noncomputable def s_l01DrawOf_j19 {R : Type} (K : Nat) (k : Nat) (v0 : ((List Int) × Int × Int × Unit)) (v1 : Int) (v4 : (Int × Int × Unit)) (v10 : (List Int)) (v11 : Int) (v12 : Int) (v13 : Int) (kn : ((List Int) × Int × Int × Unit) → Int → (Int × Int × Unit) → (List Int) → Int → Int → Int → Option R)  : Option R :=
    kn v0 v1 v4 v10 v11 v12 (IntKind.i64.wrap (v13 + (1 : Int)))
noncomputable def s_l01DrawOf_l18 {R : Type} (K : Nat) : Nat → ((List Int) × Int × Int × Unit) → Int → (Int × Int × Unit) → (List Int) → Int → Int → Int → (((List Int) × Int × Int × Unit) → Int → (Int × Int × Unit) → (List Int) → Option R) → Option R
  | 0, _, _, _, _, _, _, _, _ => none
  | k + 1, v0, v1, v4, v10, v11, v12, v13, kx3 =>
    (s_l01Rows K (v1, ())).bind fun y29 =>
    (if (decide (v13 < y29)) = true then
    (if (decide ((bitI .and .i64 v13 v11) = v11)) = true then
    let l30 := [(1 : Int)]
    (if (decide (v10.length + l30.length ≤ lim)) = true then
    let l31 := (v10 ++ l30)
    s_l01DrawOf_j19 K k v0 v1 v4 l31 v11 v12 v13 (fun z32 z33 z34 z35 z36 z37 z38 =>
    s_l01DrawOf_l18 K k z32 z33 z34 z35 z36 z37 z38 kx3)
    else
    none)
    else
    (if (decide ((bitI .and .i64 v13 v12) = v12)) = true then
    let l39 := [(1 : Int)]
    (if (decide (v10.length + l39.length ≤ lim)) = true then
    let l40 := (v10 ++ l39)
    s_l01DrawOf_j19 K k v0 v1 v4 l40 v11 v12 v13 (fun z41 z42 z43 z44 z45 z46 z47 =>
    s_l01DrawOf_l18 K k z41 z42 z43 z44 z45 z46 z47 kx3)
    else
    none)
    else
    let l48 := [(0 : Int)]
    (if (decide (v10.length + l48.length ≤ lim)) = true then
    let l49 := (v10 ++ l48)
    s_l01DrawOf_j19 K k v0 v1 v4 l49 v11 v12 v13 (fun z50 z51 z52 z53 z54 z55 z56 =>
    s_l01DrawOf_l18 K k z50 z51 z52 z53 z54 z55 z56 kx3)
    else
    none)))
    else
    kx3 v0 v1 v4 v10)
noncomputable def s_l01DrawOf (K : Nat) (x : (((List Int) × Int × Int × Unit) × Int × Unit)) : Option (((Int × Int × Unit) × Unit) × (((List Int) × Int × Int × Unit) × Unit)) :=
    (s_l01All K (x.2.1, ())).bind fun y1 =>
    (s_l01Next K (x.1, (IntKind.i64.wrap (y1 + (1 : Int))), ())).bind fun y2 =>
    (s_l01Next K (y2.2.1, (8 : Int), ())).bind fun y3 =>
    (if (decide (y3.1.1 = (0 : Int))) = true then
    (if (decide (x.2.1 > (0 : Int))) = true then
    (s_l01Next K (y3.2.1, x.2.1, ())).bind fun y4 =>
    (s_l01Projection K (x.2.1, y4.1.1, ())).bind fun y5 =>
    some ((y5, ()), (y4.2.1, ()))
    else
    s_l01DrawOf_j33 K K y3.2.1 ((0 : Int), (0 : Int), ()) ((x.2.1, ((0 : Int), (0 : Int), ()).2.1, ()).1, y2.1.1, ()) none (fun z6 z7 =>
    some ((z7, ()), (z6, ()))))
    else
    (if (decide (y3.1.1 = (1 : Int))) = true then
    (s_l01Next K (y3.2.1, (2 : Int), ())).bind fun y8 =>
    (s_l01Constant K (x.2.1, y8.1.1, ())).bind fun y9 =>
    some ((y9, ()), (y8.2.1, ()))
    else
    (if (decide (y3.1.1 = (2 : Int))) = true then
    (s_l01Rows K (x.2.1, ())).bind fun y10 =>
    (s_l01Next K (y3.2.1, y10, ())).bind fun y11 =>
    let l12 := ([] : List Int)
    (s_l01Next K (y11.2.1, (2 : Int), ())).bind fun y13 =>
    s_l01DrawOf_l11 K K y13.2.1 x.2.1 ((0 : Int), (0 : Int), ()) y11.1.1 l12 y13.1.1 (0 : Int) (fun z19 z20 z21 z22 =>
    (s_l01Of K (z20, z22, ())).bind fun y23 =>
    some ((y23, ()), (z19, ())))
    else
    (if (decide (y3.1.1 = (3 : Int))) = true then
    let l24 := ([] : List Int)
    (s_l01Rows K (x.2.1, ())).bind fun y25 =>
    (s_l01Next K (y3.2.1, y25, ())).bind fun y26 =>
    (s_l01Rows K (x.2.1, ())).bind fun y27 =>
    (s_l01Next K (y26.2.1, y27, ())).bind fun y28 =>
    s_l01DrawOf_l18 K K y28.2.1 x.2.1 ((0 : Int), (0 : Int), ()) l24 y26.1.1 y28.1.1 (0 : Int) (fun z57 z58 z59 z60 =>
    (s_l01Of K (z58, z60, ())).bind fun y61 =>
    some ((y61, ()), (z57, ())))
    else
    (if (decide (y3.1.1 = (4 : Int))) = true then
    (s_l01Known K ()).bind fun y62 =>
    (s_l01Next K (y3.2.1, (y62.length : Int), ())).bind fun y63 =>
    (if (bnds y63.1.1 (y62.length : Int)) = true then
    (s_l01Read K ((y62.getD y63.1.1.toNat ByteArray.empty), ())).bind fun y64 =>
    (if (decide (y64.1.1 = x.2.1)) = true then
    some ((y64.1, ()), (y63.2.1, ()))
    else
    s_l01DrawOf_j33 K K y63.2.1 ((0 : Int), (0 : Int), ()) ((x.2.1, ((0 : Int), (0 : Int), ()).2.1, ()).1, y2.1.1, ()) none (fun z65 z66 =>
    some ((z66, ()), (z65, ()))))
    else
    none)
    else
    (if (decide (y3.1.1 = (5 : Int))) = true then
    (if (decide (x.2.1 > (0 : Int))) = true then
    (s_l01Fix K (((x.2.1, ((0 : Int), (0 : Int), ()).2.1, ()).1, y2.1.1, ()), (IntKind.i64.wrap (x.2.1 - (1 : Int))), (0 : Int), ())).bind fun y67 =>
    (s_l01Dual K (y67, ())).bind fun y68 =>
    (s_l01Rows K ((IntKind.i64.wrap (x.2.1 - (1 : Int))), ())).bind fun y69 =>
    (if (decide ((0 : Int) ≤ (IntKind.u64.wrap y69))) = true then
    let x70 := (IntKind.i64.wrap (y67.2.1 + (shlI .i64 y68.2.1 (IntKind.u64.wrap y69))))
    some ((((x.2.1, ((0 : Int), (0 : Int), ()).2.1, ()).1, x70, ()), ()), (y3.2.1, ()))
    else
    none)
    else
    s_l01DrawOf_j33 K K y3.2.1 ((0 : Int), (0 : Int), ()) ((x.2.1, ((0 : Int), (0 : Int), ()).2.1, ()).1, y2.1.1, ()) none (fun z71 z72 =>
    some ((z72, ()), (z71, ()))))
    else
    s_l01DrawOf_j33 K K y3.2.1 ((0 : Int), (0 : Int), ()) ((x.2.1, ((0 : Int), (0 : Int), ()).2.1, ()).1, y2.1.1, ()) none (fun z73 z74 =>
    some ((z74, ()), (z73, ())))))))))
noncomputable def lv_s_l01DrawOf_J19 : Lv := [(0, (.bx (.v (.st (.pair (.sl (.int .u8)) (.pair (.int .i64) (.pair (.int .u64) .unit))))))), (1, (.v (.int .i64))), (4, (.bx (.v (.st (.pair (.int .i64) (.pair (.int .i64) .unit)))))), (10, (.r (.int .i64))), (11, (.v (.int .i64))), (12, (.v (.int .i64))), (13, (.v (.int .i64)))]
noncomputable def lv_s_l01DrawOf_J33 : Lv := [(0, (.bx (.v (.st (.pair (.sl (.int .u8)) (.pair (.int .i64) (.pair (.int .u64) .unit))))))), (4, (.bx (.v (.st (.pair (.int .i64) (.pair (.int .i64) .unit)))))), (5, (.bx (.v (.st (.pair (.int .i64) (.pair (.int .i64) .unit))))))]
noncomputable def lv_s_l01DrawOf_L11 : Lv := [(0, (.bx (.v (.st (.pair (.sl (.int .u8)) (.pair (.int .i64) (.pair (.int .u64) .unit))))))), (1, (.v (.int .i64))), (4, (.bx (.v (.st (.pair (.int .i64) (.pair (.int .i64) .unit)))))), (6, (.v (.int .i64))), (7, (.r (.int .i64))), (8, (.v (.int .i64))), (9, (.v (.int .i64)))]
noncomputable def lv_s_l01DrawOf_L18 : Lv := [(0, (.bx (.v (.st (.pair (.sl (.int .u8)) (.pair (.int .i64) (.pair (.int .u64) .unit))))))), (1, (.v (.int .i64))), (4, (.bx (.v (.st (.pair (.int .i64) (.pair (.int .i64) .unit)))))), (10, (.r (.int .i64))), (11, (.v (.int .i64))), (12, (.v (.int .i64))), (13, (.v (.int .i64)))]
noncomputable def lv_s_l01DrawOf_N19 : Lv := [(0, (.bx (.v (.st (.pair (.sl (.int .u8)) (.pair (.int .i64) (.pair (.int .u64) .unit))))))), (1, (.v (.int .i64))), (4, (.bx (.v (.st (.pair (.int .i64) (.pair (.int .i64) .unit)))))), (10, (.r (.int .i64))), (11, (.v (.int .i64))), (12, (.v (.int .i64))), (13, (.v (.int .i64)))]
noncomputable def lv_s_l01DrawOf_N33 : Lv := []
noncomputable def lv_s_l01DrawOf_X1 : Lv := [(0, (.bx (.v (.st (.pair (.sl (.int .u8)) (.pair (.int .i64) (.pair (.int .u64) .unit))))))), (1, (.v (.int .i64))), (4, (.bx (.v (.st (.pair (.int .i64) (.pair (.int .i64) .unit)))))), (7, (.r (.int .i64)))]
noncomputable def lv_s_l01DrawOf_X3 : Lv := [(0, (.bx (.v (.st (.pair (.sl (.int .u8)) (.pair (.int .i64) (.pair (.int .u64) .unit))))))), (1, (.v (.int .i64))), (4, (.bx (.v (.st (.pair (.int .i64) (.pair (.int .i64) .unit)))))), (10, (.r (.int .i64)))]
noncomputable def rv_s_l01DrawOf : Lv := [(0, (.bx (.v (.st (.pair (.sl (.int .u8)) (.pair (.int .i64) (.pair (.int .u64) .unit))))))), (4, (.bx (.v (.st (.pair (.int .i64) (.pair (.int .i64) .unit))))))]
noncomputable def gs_l01DrawOf_j33 {R : Type} (K : Nat) (k : Nat) (x : den lv_s_l01DrawOf_J33.ty) (kn : den lv_s_l01DrawOf_N33.ty → Option R) (kx : Nat → St → Option R) (kr : St → Option R) : Option R := s_l01DrawOf_j33 K k x.1 x.2.1 x.2.2.1 (kn ()) (fun z0 z1 => kr (mkSt rv_s_l01DrawOf (z0, z1, ())))
noncomputable def gs_l01DrawOf_l11 {R : Type} (K : Nat) (k : Nat) (x : den lv_s_l01DrawOf_L11.ty) (kx : Nat → St → Option R) (kr : St → Option R) : Option R := s_l01DrawOf_l11 K k x.1 x.2.1 x.2.2.1 x.2.2.2.1 x.2.2.2.2.1 x.2.2.2.2.2.1 x.2.2.2.2.2.2.1 (fun z0 z1 z2 z3 => kx 1 (mkSt lv_s_l01DrawOf_X1 (z0, z1, z2, z3, ())))
noncomputable def gs_l01DrawOf_j19 {R : Type} (K : Nat) (k : Nat) (x : den lv_s_l01DrawOf_J19.ty) (kn : den lv_s_l01DrawOf_N19.ty → Option R) (kx : Nat → St → Option R) (kr : St → Option R) : Option R := s_l01DrawOf_j19 K k x.1 x.2.1 x.2.2.1 x.2.2.2.1 x.2.2.2.2.1 x.2.2.2.2.2.1 x.2.2.2.2.2.2.1 (fun z0 z1 z2 z3 z4 z5 z6 => kn (z0, z1, z2, z3, z4, z5, z6, ()))
noncomputable def gs_l01DrawOf_l18 {R : Type} (K : Nat) (k : Nat) (x : den lv_s_l01DrawOf_L18.ty) (kx : Nat → St → Option R) (kr : St → Option R) : Option R := s_l01DrawOf_l18 K k x.1 x.2.1 x.2.2.1 x.2.2.2.1 x.2.2.2.2.1 x.2.2.2.2.2.1 x.2.2.2.2.2.2.1 (fun z0 z1 z2 z3 => kx 3 (mkSt lv_s_l01DrawOf_X3 (z0, z1, z2, z3, ())))
noncomputable def sg_s_l01DrawOf {R : Type} (K : Nat) (k : Nat) : List (Nat × SegS R) := [(33, mkSeg lv_s_l01DrawOf_J33 lv_s_l01DrawOf_N33 (gs_l01DrawOf_j33 K k)), (19, mkSeg lv_s_l01DrawOf_J19 lv_s_l01DrawOf_N19 (gs_l01DrawOf_j19 K k))]
noncomputable def su_s_l01DrawOf : List (Nat × Unit) := [(33, ()), (19, ())]
noncomputable def en_s_l01DrawOf {R : Type} (K : Nat) (k : Nat) : Env R := { L := lk [(11, mkLoop lv_s_l01DrawOf_L11 (gs_l01DrawOf_l11 K k)), (18, mkLoop lv_s_l01DrawOf_L18 (gs_l01DrawOf_l18 K k))], X := lk [(1, lv_s_l01DrawOf_X1), (3, lv_s_l01DrawOf_X3)], S := lk (sg_s_l01DrawOf K k), rv := rv_s_l01DrawOf }
noncomputable def cf_s_l01DrawOf (K : Nat) : Cfg := { ty := lk tys, fn := lk [(111, sp_s_l01All (s_l01All K)), (125, sp_s_l01Constant (s_l01Constant K)), (127, sp_s_l01Projection (s_l01Projection K)), (154, sp_s_l01Rows (s_l01Rows K)), (185, sp_s_l01Weight (s_l01Weight K)), (186, sp_s_l01Of (s_l01Of K)), (187, sp_s_l01Known (s_l01Known K)), (188, sp_s_l01Read (s_l01Read K)), (189, sp_s_l01Fix (s_l01Fix K)), (190, sp_s_l01Dual (s_l01Dual K))], fs := lk [(95, sp_s_l01Next (s_l01Next K))], prot := 1, nt := Try.f120.ntmps }
noncomputable def c_s_l01DrawOf_L11 : Code := nthC (partsOf (hasK su_s_l01DrawOf) (bodyOf Try.f120)) 0
noncomputable def c_s_l01DrawOf_L18 : Code := nthC (partsOf (hasK su_s_l01DrawOf) (bodyOf Try.f120)) 1
noncomputable def c_s_l01DrawOf_J19 : Code := nthC (partsOf (hasK su_s_l01DrawOf) c_s_l01DrawOf_L18) 0
noncomputable def c_s_l01DrawOf_J33 : Code := nthC (partsOf (hasK su_s_l01DrawOf) (bodyOf Try.f120)) 2
theorem es_l01DrawOf_l11 {R : Type} (K : Nat) (k : Nat) (x : den lv_s_l01DrawOf_L11.ty) (kx : Nat → St → Option R) (kr : St → Option R) : gs_l01DrawOf_l11 K (k + 1) x kx kr = evC (cf_s_l01DrawOf K) (en_s_l01DrawOf K k) c_s_l01DrawOf_L11 (mkSt lv_s_l01DrawOf_L11 x) (fun s => mkLoop lv_s_l01DrawOf_L11 (gs_l01DrawOf_l11 K k) s kx kr) kx kr := by kernel_rfl
theorem ss_l01DrawOf_l11 {R : Type} (K : Nat) (C : Cx) (hP : C.P = Try.prog) (O : CfgOk C (cf_s_l01DrawOf K)) (k : Nat) : LpS C (R := R) (mkLoop lv_s_l01DrawOf_L11 (gs_l01DrawOf_l11 K k)) c_s_l01DrawOf_L11 :=
  loop_sound O (by rw [hP]; kernel_rfl) (fun x kx kr => rfl) (es_l01DrawOf_l11 K) (fun k => lpOk_of (en := en_s_l01DrawOf K k) (S := hasK su_s_l01DrawOf) (fun i => hasK_lk (sg_s_l01DrawOf K k) i) _ (by rw [show partsOf (hasK su_s_l01DrawOf) c_s_l01DrawOf_L11 = [] from by kernel_rfl]; exact trivial)) k
theorem es_l01DrawOf_j19 {R : Type} (K : Nat) (k : Nat) (x : den lv_s_l01DrawOf_J19.ty) (kn : den lv_s_l01DrawOf_N19.ty → Option R) (kx : Nat → St → Option R) (kr : St → Option R) : gs_l01DrawOf_j19 K k x kn kx kr = evC (cf_s_l01DrawOf K) (en_s_l01DrawOf K k) c_s_l01DrawOf_J19 (mkSt lv_s_l01DrawOf_J19 x) (cutK lv_s_l01DrawOf_N19 kn) kx kr := by kernel_rfl
theorem ss_l01DrawOf_j19 {R : Type} (K : Nat) (C : Cx) (hP : C.P = Try.prog) (O : CfgOk C (cf_s_l01DrawOf K)) (k : Nat) : SgS C (R := R) (mkSeg lv_s_l01DrawOf_J19 lv_s_l01DrawOf_N19 (gs_l01DrawOf_j19 K k)) c_s_l01DrawOf_J19 :=
  seg_sound O (by rw [hP]; kernel_rfl) (es_l01DrawOf_j19 K k) (lpOk_of (en := en_s_l01DrawOf K k) (S := hasK su_s_l01DrawOf) (fun i => hasK_lk (sg_s_l01DrawOf K k) i) _ (by rw [show partsOf (hasK su_s_l01DrawOf) c_s_l01DrawOf_J19 = [] from by kernel_rfl]; exact trivial))
theorem es_l01DrawOf_l18 {R : Type} (K : Nat) (k : Nat) (x : den lv_s_l01DrawOf_L18.ty) (kx : Nat → St → Option R) (kr : St → Option R) : gs_l01DrawOf_l18 K (k + 1) x kx kr = evC (cf_s_l01DrawOf K) (en_s_l01DrawOf K k) c_s_l01DrawOf_L18 (mkSt lv_s_l01DrawOf_L18 x) (fun s => mkLoop lv_s_l01DrawOf_L18 (gs_l01DrawOf_l18 K k) s kx kr) kx kr := by kernel_rfl
theorem ss_l01DrawOf_l18 {R : Type} (K : Nat) (C : Cx) (hP : C.P = Try.prog) (O : CfgOk C (cf_s_l01DrawOf K)) (k : Nat) : LpS C (R := R) (mkLoop lv_s_l01DrawOf_L18 (gs_l01DrawOf_l18 K k)) c_s_l01DrawOf_L18 :=
  loop_sound O (by rw [hP]; kernel_rfl) (fun x kx kr => rfl) (es_l01DrawOf_l18 K) (fun k => lpOk_of (en := en_s_l01DrawOf K k) (S := hasK su_s_l01DrawOf) (fun i => hasK_lk (sg_s_l01DrawOf K k) i) _ (by rw [show partsOf (hasK su_s_l01DrawOf) c_s_l01DrawOf_L18 = [(false, c_s_l01DrawOf_J19)] from by kernel_rfl]; exact (lpL_seg (f := mkSeg lv_s_l01DrawOf_J19 lv_s_l01DrawOf_N19 (gs_l01DrawOf_j19 K k)) (by kernel_rfl) (ss_l01DrawOf_j19 K C hP O k) trivial))) k
theorem es_l01DrawOf_j33 {R : Type} (K : Nat) (k : Nat) (x : den lv_s_l01DrawOf_J33.ty) (kn : den lv_s_l01DrawOf_N33.ty → Option R) (kx : Nat → St → Option R) (kr : St → Option R) : gs_l01DrawOf_j33 K k x kn kx kr = evC (cf_s_l01DrawOf K) (en_s_l01DrawOf K k) c_s_l01DrawOf_J33 (mkSt lv_s_l01DrawOf_J33 x) (cutK lv_s_l01DrawOf_N33 kn) kx kr := by kernel_rfl
theorem ss_l01DrawOf_j33 {R : Type} (K : Nat) (C : Cx) (hP : C.P = Try.prog) (O : CfgOk C (cf_s_l01DrawOf K)) (k : Nat) : SgS C (R := R) (mkSeg lv_s_l01DrawOf_J33 lv_s_l01DrawOf_N33 (gs_l01DrawOf_j33 K k)) c_s_l01DrawOf_J33 :=
  seg_sound O (by rw [hP]; kernel_rfl) (es_l01DrawOf_j33 K k) (lpOk_of (en := en_s_l01DrawOf K k) (S := hasK su_s_l01DrawOf) (fun i => hasK_lk (sg_s_l01DrawOf K k) i) _ (by rw [show partsOf (hasK su_s_l01DrawOf) c_s_l01DrawOf_J33 = [] from by kernel_rfl]; exact trivial))
theorem e_s_l01DrawOf (K : Nat) (x : den ps_s_l01DrawOf.ty) : s_l01DrawOf K x = evFnS (cf_s_l01DrawOf K) ps_s_l01DrawOf rl_s_l01DrawOf (en_s_l01DrawOf K K) Try.f120.results.toList (bodyOf Try.f120) x := by kernel_rfl
theorem ok_s_l01DrawOf (K : Nat) : ShOk Try.prog 120 (sp_s_l01DrawOf (s_l01DrawOf K)) :=
  sh_ok (cf := cf_s_l01DrawOf K) (en := en_s_l01DrawOf K K) (c := bodyOf Try.f120) Try.func120 (by kernel_rfl) (by kernel_rfl) tysOk (fns_ok (l := [(111, sp_s_l01All (s_l01All K)), (125, sp_s_l01Constant (s_l01Constant K)), (127, sp_s_l01Projection (s_l01Projection K)), (154, sp_s_l01Rows (s_l01Rows K)), (185, sp_s_l01Weight (s_l01Weight K)), (186, sp_s_l01Of (s_l01Of K)), (187, sp_s_l01Known (s_l01Known K)), (188, sp_s_l01Read (s_l01Read K)), (189, sp_s_l01Fix (s_l01Fix K)), (190, sp_s_l01Dual (s_l01Dual K))]) ⟨ok_s_l01All K, ⟨ok_s_l01Constant K, ⟨ok_s_l01Projection K, ⟨ok_s_l01Rows K, ⟨ok_s_l01Weight K, ⟨ok_s_l01Of K, ⟨ok_s_l01Known K, ⟨ok_s_l01Read K, ⟨ok_s_l01Fix K, ⟨ok_s_l01Dual K, trivial⟩⟩⟩⟩⟩⟩⟩⟩⟩⟩) (shs_ok (l := [(95, sp_s_l01Next (s_l01Next K))]) ⟨ok_s_l01Next K, trivial⟩) (by kernel_rfl) rfl (Nat.le_of_ble_eq_true (by kernel_rfl)) (by kernel_rfl) (Nat.le_of_ble_eq_true (by kernel_rfl)) (by kernel_rfl) (fun C hP O => lpOk_of (en := en_s_l01DrawOf K K) (S := hasK su_s_l01DrawOf) (fun i => hasK_lk (sg_s_l01DrawOf K K) i) _ (by rw [show partsOf (hasK su_s_l01DrawOf) (bodyOf Try.f120) = [(true, c_s_l01DrawOf_L11), (true, c_s_l01DrawOf_L18), (false, c_s_l01DrawOf_J33)] from by kernel_rfl]; exact (lpL_loop (f := mkLoop lv_s_l01DrawOf_L11 (gs_l01DrawOf_l11 K K)) (by kernel_rfl) (ss_l01DrawOf_l11 K C hP O K) (lpL_loop (f := mkLoop lv_s_l01DrawOf_L18 (gs_l01DrawOf_l18 K K)) (by kernel_rfl) (ss_l01DrawOf_l18 K C hP O K) (lpL_seg (f := mkSeg lv_s_l01DrawOf_J33 lv_s_l01DrawOf_N33 (gs_l01DrawOf_j33 K K)) (by kernel_rfl) (ss_l01DrawOf_j33 K C hP O K) trivial))))) (fun x y h => by rw [← e_s_l01DrawOf]; exact h)
noncomputable def ps_s_l01Draw : Lv := [(0, (.bx (.v (.st (.pair (.sl (.int .u8)) (.pair (.int .i64) (.pair (.int .u64) .unit)))))))]
noncomputable def rl_s_l01Draw : Lv := [(0, (.v (.st (.pair (.int .i64) (.pair (.int .i64) .unit)))))]
noncomputable def sp_s_l01Draw (F : (((List Int) × Int × Int × Unit) × Unit) → Option (((Int × Int × Unit) × Unit) × (((List Int) × Int × Int × Unit) × Unit))) : ShSpec := ⟨ps_s_l01Draw, rl_s_l01Draw, F⟩
noncomputable def s_l01Draw (K : Nat) (x : (((List Int) × Int × Int × Unit) × Unit)) : Option (((Int × Int × Unit) × Unit) × (((List Int) × Int × Int × Unit) × Unit)) :=
    let l1 := [(0 : Int), (1 : Int), (1 : Int), (2 : Int), (2 : Int), (2 : Int), (3 : Int), (3 : Int), (3 : Int), (4 : Int), (4 : Int)]
    (s_l01Pick K (x.1, l1, ())).bind fun y2 =>
    (s_l01DrawOf K (y2.2.1, y2.1.1, ())).bind fun y3 =>
    some ((y3.1.1, ()), (y3.2.1, ()))
noncomputable def rv_s_l01Draw : Lv := [(0, (.bx (.v (.st (.pair (.sl (.int .u8)) (.pair (.int .i64) (.pair (.int .u64) .unit))))))), (2, (.bx (.v (.st (.pair (.int .i64) (.pair (.int .i64) .unit))))))]
noncomputable def sg_s_l01Draw {R : Type} (K : Nat) (k : Nat) : List (Nat × SegS R) := []
noncomputable def su_s_l01Draw : List (Nat × Unit) := []
noncomputable def en_s_l01Draw {R : Type} (K : Nat) (k : Nat) : Env R := { L := lk [], X := lk [], S := lk (sg_s_l01Draw K k), rv := rv_s_l01Draw }
noncomputable def cf_s_l01Draw (K : Nat) : Cfg := { ty := lk tys, fn := lk [], fs := lk [(108, sp_s_l01Pick (s_l01Pick K)), (120, sp_s_l01DrawOf (s_l01DrawOf K))], prot := 1, nt := Try.f178.ntmps }
theorem e_s_l01Draw (K : Nat) (x : den ps_s_l01Draw.ty) : s_l01Draw K x = evFnS (cf_s_l01Draw K) ps_s_l01Draw rl_s_l01Draw (en_s_l01Draw K K) Try.f178.results.toList (bodyOf Try.f178) x := by kernel_rfl
theorem ok_s_l01Draw (K : Nat) : ShOk Try.prog 178 (sp_s_l01Draw (s_l01Draw K)) :=
  sh_ok (cf := cf_s_l01Draw K) (en := en_s_l01Draw K K) (c := bodyOf Try.f178) Try.func178 (by kernel_rfl) (by kernel_rfl) tysOk (fns_ok (l := []) trivial) (shs_ok (l := [(108, sp_s_l01Pick (s_l01Pick K)), (120, sp_s_l01DrawOf (s_l01DrawOf K))]) ⟨ok_s_l01Pick K, ⟨ok_s_l01DrawOf K, trivial⟩⟩) (by kernel_rfl) rfl (Nat.le_of_ble_eq_true (by kernel_rfl)) (by kernel_rfl) (Nat.le_of_ble_eq_true (by kernel_rfl)) (by kernel_rfl) (fun C hP O => lpOk_of (en := en_s_l01Draw K K) (S := hasK su_s_l01Draw) (fun i => hasK_lk (sg_s_l01Draw K K) i) _ (by rw [show partsOf (hasK su_s_l01Draw) (bodyOf Try.f178) = [] from by kernel_rfl]; exact trivial)) (fun x y h => by rw [← e_s_l01Draw]; exact h)
noncomputable def ps_s_l01Spoil : Lv := [(0, (.bx (.v (.st (.pair (.sl (.int .u8)) (.pair (.int .i64) (.pair (.int .u64) .unit)))))))]
noncomputable def rl_s_l01Spoil : Lv := [(0, (.v (.st (.pair (.int .i64) (.pair (.int .i64) .unit)))))]
noncomputable def sp_s_l01Spoil (F : (((List Int) × Int × Int × Unit) × Unit) → Option (((Int × Int × Unit) × Unit) × (((List Int) × Int × Int × Unit) × Unit))) : ShSpec := ⟨ps_s_l01Spoil, rl_s_l01Spoil, F⟩
noncomputable def s_l01Spoil (K : Nat) (x : (((List Int) × Int × Int × Unit) × Unit)) : Option (((Int × Int × Unit) × Unit) × (((List Int) × Int × Int × Unit) × Unit)) :=
    (s_l01Draw K (x.1, ())).bind fun y1 =>
    (s_l01Bad K (y1.2.1, y1.1.1, ())).bind fun y2 =>
    some ((y2.1.1, ()), (y2.2.1, ()))
noncomputable def rv_s_l01Spoil : Lv := [(0, (.bx (.v (.st (.pair (.sl (.int .u8)) (.pair (.int .i64) (.pair (.int .u64) .unit))))))), (2, (.bx (.v (.st (.pair (.int .i64) (.pair (.int .i64) .unit))))))]
noncomputable def sg_s_l01Spoil {R : Type} (K : Nat) (k : Nat) : List (Nat × SegS R) := []
noncomputable def su_s_l01Spoil : List (Nat × Unit) := []
noncomputable def en_s_l01Spoil {R : Type} (K : Nat) (k : Nat) : Env R := { L := lk [], X := lk [], S := lk (sg_s_l01Spoil K k), rv := rv_s_l01Spoil }
noncomputable def cf_s_l01Spoil (K : Nat) : Cfg := { ty := lk tys, fn := lk [], fs := lk [(177, sp_s_l01Bad (s_l01Bad K)), (178, sp_s_l01Draw (s_l01Draw K))], prot := 1, nt := Try.f113.ntmps }
theorem e_s_l01Spoil (K : Nat) (x : den ps_s_l01Spoil.ty) : s_l01Spoil K x = evFnS (cf_s_l01Spoil K) ps_s_l01Spoil rl_s_l01Spoil (en_s_l01Spoil K K) Try.f113.results.toList (bodyOf Try.f113) x := by kernel_rfl
theorem ok_s_l01Spoil (K : Nat) : ShOk Try.prog 113 (sp_s_l01Spoil (s_l01Spoil K)) :=
  sh_ok (cf := cf_s_l01Spoil K) (en := en_s_l01Spoil K K) (c := bodyOf Try.f113) Try.func113 (by kernel_rfl) (by kernel_rfl) tysOk (fns_ok (l := []) trivial) (shs_ok (l := [(177, sp_s_l01Bad (s_l01Bad K)), (178, sp_s_l01Draw (s_l01Draw K))]) ⟨ok_s_l01Bad K, ⟨ok_s_l01Draw K, trivial⟩⟩) (by kernel_rfl) rfl (Nat.le_of_ble_eq_true (by kernel_rfl)) (by kernel_rfl) (Nat.le_of_ble_eq_true (by kernel_rfl)) (by kernel_rfl) (fun C hP O => lpOk_of (en := en_s_l01Spoil K K) (S := hasK su_s_l01Spoil) (fun i => hasK_lk (sg_s_l01Spoil K K) i) _ (by rw [show partsOf (hasK su_s_l01Spoil) (bodyOf Try.f113) = [] from by kernel_rfl]; exact trivial)) (fun x y h => by rw [← e_s_l01Spoil]; exact h)
noncomputable def ps_s_l02DrawIn : Lv := [(0, (.bx (.v (.st (.pair (.sl (.int .u8)) (.pair (.int .i64) (.pair (.int .u64) .unit)))))))]
noncomputable def rl_s_l02DrawIn : Lv := [(0, (.v (.st (.pair (.int .i64) (.pair (.int .i64) .unit)))))]
noncomputable def sp_s_l02DrawIn (F : (((List Int) × Int × Int × Unit) × Unit) → Option (((Int × Int × Unit) × Unit) × (((List Int) × Int × Int × Unit) × Unit))) : ShSpec := ⟨ps_s_l02DrawIn, rl_s_l02DrawIn, F⟩
noncomputable def s_l02DrawIn_l13 {R : Type} (K : Nat) : Nat → ((List Int) × Int × Int × Unit) → (Int × Int × Unit) → Int → Int → Int → Int → Int → Int → (((List Int) × Int × Int × Unit) → (Int × Int × Unit) → Int → Int → Int → Int → Int → Option R) → Option R
  | 0, _, _, _, _, _, _, _, _, _ => none
  | k + 1, v0, v2, v3, v5, v6, v7, v8, v9, kx3 =>
    (if (decide (v9 < v3)) = true then
    (if (decide ((0 : Int) ≤ (IntKind.u64.wrap v9))) = true then
    let x8 := (bitI .and .i64 (shrI .i64 v7 (IntKind.u64.wrap v9)) (1 : Int))
    (if (decide (x8 = (1 : Int))) = true then
    (if (decide ((0 : Int) ≤ (IntKind.u64.wrap (IntKind.i64.wrap (v9 + (1 : Int)))))) = true then
    let x9 := (shrI .i64 v6 (IntKind.u64.wrap (IntKind.i64.wrap (v9 + (1 : Int)))))
    s_l02DrawIn_l13 K k v0 v2 v3 v5 v6 v7 (IntKind.i64.wrap (v8 + x9)) (IntKind.i64.wrap (v9 + (1 : Int))) kx3
    else
    none)
    else
    s_l02DrawIn_l13 K k v0 v2 v3 v5 v6 v7 v8 (IntKind.i64.wrap (v9 + (1 : Int))) kx3)
    else
    none)
    else
    kx3 v0 v2 v3 v5 v6 v7 v8)
noncomputable def s_l02DrawIn_l9 {R : Type} (K : Nat) : Nat → ((List Int) × Int × Int × Unit) → (Int × Int × Unit) → Int → Int → Int → Int → (((List Int) × Int × Int × Unit) → (Int × Int × Unit) → Int → Int → Option R) → Option R
  | 0, _, _, _, _, _, _, _ => none
  | k + 1, v0, v2, v3, v5, v6, v7, kx1 =>
    (s_l01Rows K (v3, ())).bind fun y7 =>
    (if (decide (v7 < y7)) = true then
    s_l02DrawIn_l13 K k v0 v2 v3 v5 v6 v7 v6 (0 : Int) (fun z10 z11 z12 z13 z14 z15 z16 =>
    (if (decide ((0 : Int) ≤ (IntKind.u64.wrap z15))) = true then
    let x17 := (shlI .i64 (bitI .and .i64 z16 (1 : Int)) (IntKind.u64.wrap z15))
    s_l02DrawIn_l9 K k z10 z11 z12 (bitI .or .i64 z13 x17) z14 (IntKind.i64.wrap (z15 + (1 : Int))) kx1
    else
    none))
    else
    kx1 v0 v2 v3 v5)
noncomputable def s_l02DrawIn_l26 {R : Type} (K : Nat) : Nat → ((List Int) × Int × Int × Unit) → (Int × Int × Unit) → Int → Int → Int → Int → Int → Int → (((List Int) × Int × Int × Unit) → (Int × Int × Unit) → Int → Int → Int → Int → Int → Option R) → Option R
  | 0, _, _, _, _, _, _, _, _, _ => none
  | k + 1, v0, v2, v3, v10, v11, v12, v13, v14, kx7 =>
    (if (decide (v14 < v3)) = true then
    (if (decide ((0 : Int) ≤ (IntKind.u64.wrap v14))) = true then
    let x24 := (bitI .and .i64 (shrI .i64 v12 (IntKind.u64.wrap v14)) (1 : Int))
    s_l02DrawIn_l26 K k v0 v2 v3 v10 v11 v12 (IntKind.i64.wrap (v13 + x24)) (IntKind.i64.wrap (v14 + (1 : Int))) kx7
    else
    none)
    else
    kx7 v0 v2 v3 v10 v11 v12 v13)
noncomputable def s_l02DrawIn_l22 {R : Type} (K : Nat) : Nat → ((List Int) × Int × Int × Unit) → (Int × Int × Unit) → Int → Int → Int → Int → (((List Int) × Int × Int × Unit) → (Int × Int × Unit) → Int → Int → Option R) → Option R
  | 0, _, _, _, _, _, _, _ => none
  | k + 1, v0, v2, v3, v10, v11, v12, kx5 =>
    (s_l01Rows K (v3, ())).bind fun y23 =>
    (if (decide (v12 < y23)) = true then
    s_l02DrawIn_l26 K k v0 v2 v3 v10 v11 v12 (0 : Int) (0 : Int) (fun z25 z26 z27 z28 z29 z30 z31 =>
    (if (decide (z31 ≥ z29)) = true then
    (if (decide ((0 : Int) ≤ (IntKind.u64.wrap z30))) = true then
    let x32 := (bitI .or .i64 z28 (shlI .i64 (1 : Int) (IntKind.u64.wrap z30)))
    s_l02DrawIn_l22 K k z25 z26 z27 x32 z29 (IntKind.i64.wrap (z30 + (1 : Int))) kx5
    else
    none)
    else
    s_l02DrawIn_l22 K k z25 z26 z27 z28 z29 (IntKind.i64.wrap (z30 + (1 : Int))) kx5))
    else
    kx5 v0 v2 v3 v10)
noncomputable def s_l02DrawIn_j36 {R : Type} (K : Nat) (k : Nat) (v0 : ((List Int) × Int × Int × Unit)) (v2 : (Int × Int × Unit)) (v3 : Int) (v4 : (Int × Int × Unit)) (v15 : Int) (v16 : Int) (kn : ((List Int) × Int × Int × Unit) → (Int × Int × Unit) → Int → (Int × Int × Unit) → Int → Int → Option R)  : Option R :=
    kn v0 v2 v3 v4 v15 (IntKind.i64.wrap (v16 + (1 : Int)))
noncomputable def s_l02DrawIn_l35 {R : Type} (K : Nat) : Nat → ((List Int) × Int × Int × Unit) → (Int × Int × Unit) → Int → (Int × Int × Unit) → Int → Int → (((List Int) × Int × Int × Unit) → (Int × Int × Unit) → Int → Int → Option R) → Option R
  | 0, _, _, _, _, _, _, _ => none
  | k + 1, v0, v2, v3, v4, v15, v16, kx9 =>
    (s_l01Rows K (v3, ())).bind fun y37 =>
    (if (decide (v16 < y37)) = true then
    (s_l01Rows K (v3, ())).bind fun y38 =>
    let x39 := (IntKind.i64.wrap ((IntKind.i64.wrap (y38 - (1 : Int))) - v16))
    (if (decide (v16 < x39)) = true then
    (s_l01At K (v4, v16, ())).bind fun y40 =>
    (if (decide (y40 = (1 : Int))) = true then
    (if (decide ((0 : Int) ≤ (IntKind.u64.wrap v16))) = true then
    let x41 := (bitI .or .i64 v15 (shlI .i64 (1 : Int) (IntKind.u64.wrap v16)))
    s_l02DrawIn_j36 K k v0 v2 v3 v4 x41 v16 (fun z42 z43 z44 z45 z46 z47 =>
    s_l02DrawIn_l35 K k z42 z43 z44 z45 z46 z47 kx9)
    else
    none)
    else
    (if (decide (v16 > x39)) = true then
    (s_l01At K (v4, x39, ())).bind fun y48 =>
    (if (decide (y48 = (0 : Int))) = true then
    (if (decide ((0 : Int) ≤ (IntKind.u64.wrap v16))) = true then
    let x49 := (bitI .or .i64 v15 (shlI .i64 (1 : Int) (IntKind.u64.wrap v16)))
    s_l02DrawIn_j36 K k v0 v2 v3 v4 x49 v16 (fun z50 z51 z52 z53 z54 z55 =>
    s_l02DrawIn_l35 K k z50 z51 z52 z53 z54 z55 kx9)
    else
    none)
    else
    s_l02DrawIn_j36 K k v0 v2 v3 v4 v15 v16 (fun z56 z57 z58 z59 z60 z61 =>
    s_l02DrawIn_l35 K k z56 z57 z58 z59 z60 z61 kx9))
    else
    s_l02DrawIn_j36 K k v0 v2 v3 v4 v15 v16 (fun z62 z63 z64 z65 z66 z67 =>
    s_l02DrawIn_l35 K k z62 z63 z64 z65 z66 z67 kx9)))
    else
    (if (decide (v16 > x39)) = true then
    (s_l01At K (v4, x39, ())).bind fun y68 =>
    (if (decide (y68 = (0 : Int))) = true then
    (if (decide ((0 : Int) ≤ (IntKind.u64.wrap v16))) = true then
    let x69 := (bitI .or .i64 v15 (shlI .i64 (1 : Int) (IntKind.u64.wrap v16)))
    s_l02DrawIn_j36 K k v0 v2 v3 v4 x69 v16 (fun z70 z71 z72 z73 z74 z75 =>
    s_l02DrawIn_l35 K k z70 z71 z72 z73 z74 z75 kx9)
    else
    none)
    else
    s_l02DrawIn_j36 K k v0 v2 v3 v4 v15 v16 (fun z76 z77 z78 z79 z80 z81 =>
    s_l02DrawIn_l35 K k z76 z77 z78 z79 z80 z81 kx9))
    else
    s_l02DrawIn_j36 K k v0 v2 v3 v4 v15 v16 (fun z82 z83 z84 z85 z86 z87 =>
    s_l02DrawIn_l35 K k z82 z83 z84 z85 z86 z87 kx9)))
    else
    kx9 v0 v2 v3 v15)
noncomputable def s_l02DrawIn (K : Nat) (x : (((List Int) × Int × Int × Unit) × Unit)) : Option (((Int × Int × Unit) × Unit) × (((List Int) × Int × Int × Unit) × Unit)) :=
    let l1 := [(0 : Int), (1 : Int), (2 : Int), (2 : Int), (3 : Int), (3 : Int), (4 : Int)]
    (s_l01Pick K (x.1, l1, ())).bind fun y2 =>
    (s_l01DrawOf K (y2.2.1, y2.1.1, ())).bind fun y3 =>
    (s_l01Next K (y3.2.1, (6 : Int), ())).bind fun y4 =>
    (if (decide (y4.1.1 = (0 : Int))) = true then
    (s_l01Spoil K (y4.2.1, ())).bind fun y5 =>
    some ((y5.1.1, ()), (y5.2.1, ()))
    else
    (if (decide (y4.1.1 = (1 : Int))) = true then
    (s_l01Next K (y4.2.1, (32 : Int), ())).bind fun y6 =>
    s_l02DrawIn_l9 K K y6.2.1 ((0 : Int), (0 : Int), ()) y2.1.1 (0 : Int) y6.1.1 (0 : Int) (fun z18 z19 z20 z21 =>
    some ((((z20, ((0 : Int), (0 : Int), ()).2.1, ()).1, z21, ()), ()), (z18, ())))
    else
    (if (decide (y4.1.1 = (2 : Int))) = true then
    (s_l01Next K (y4.2.1, (IntKind.i64.wrap (y2.1.1 + (2 : Int))), ())).bind fun y22 =>
    s_l02DrawIn_l22 K K y22.2.1 ((0 : Int), (0 : Int), ()) y2.1.1 (0 : Int) y22.1.1 (0 : Int) (fun z33 z34 z35 z36 =>
    some ((((z35, ((0 : Int), (0 : Int), ()).2.1, ()).1, z36, ()), ()), (z33, ())))
    else
    (if (decide (y4.1.1 = (3 : Int))) = true then
    s_l02DrawIn_l35 K K y4.2.1 ((0 : Int), (0 : Int), ()) y2.1.1 y3.1.1 (0 : Int) (0 : Int) (fun z88 z89 z90 z91 =>
    some ((((z90, ((0 : Int), (0 : Int), ()).2.1, ()).1, z91, ()), ()), (z88, ())))
    else
    some ((y3.1.1, ()), (y4.2.1, ()))))))
noncomputable def lv_s_l02DrawIn_J36 : Lv := [(0, (.bx (.v (.st (.pair (.sl (.int .u8)) (.pair (.int .i64) (.pair (.int .u64) .unit))))))), (2, (.bx (.v (.st (.pair (.int .i64) (.pair (.int .i64) .unit)))))), (3, (.v (.int .i64))), (4, (.bx (.v (.st (.pair (.int .i64) (.pair (.int .i64) .unit)))))), (15, (.v (.int .i64))), (16, (.v (.int .i64)))]
noncomputable def lv_s_l02DrawIn_L9 : Lv := [(0, (.bx (.v (.st (.pair (.sl (.int .u8)) (.pair (.int .i64) (.pair (.int .u64) .unit))))))), (2, (.bx (.v (.st (.pair (.int .i64) (.pair (.int .i64) .unit)))))), (3, (.v (.int .i64))), (5, (.v (.int .i64))), (6, (.v (.int .i64))), (7, (.v (.int .i64)))]
noncomputable def lv_s_l02DrawIn_L13 : Lv := [(0, (.bx (.v (.st (.pair (.sl (.int .u8)) (.pair (.int .i64) (.pair (.int .u64) .unit))))))), (2, (.bx (.v (.st (.pair (.int .i64) (.pair (.int .i64) .unit)))))), (3, (.v (.int .i64))), (5, (.v (.int .i64))), (6, (.v (.int .i64))), (7, (.v (.int .i64))), (8, (.v (.int .i64))), (9, (.v (.int .i64)))]
noncomputable def lv_s_l02DrawIn_L22 : Lv := [(0, (.bx (.v (.st (.pair (.sl (.int .u8)) (.pair (.int .i64) (.pair (.int .u64) .unit))))))), (2, (.bx (.v (.st (.pair (.int .i64) (.pair (.int .i64) .unit)))))), (3, (.v (.int .i64))), (10, (.v (.int .i64))), (11, (.v (.int .i64))), (12, (.v (.int .i64)))]
noncomputable def lv_s_l02DrawIn_L26 : Lv := [(0, (.bx (.v (.st (.pair (.sl (.int .u8)) (.pair (.int .i64) (.pair (.int .u64) .unit))))))), (2, (.bx (.v (.st (.pair (.int .i64) (.pair (.int .i64) .unit)))))), (3, (.v (.int .i64))), (10, (.v (.int .i64))), (11, (.v (.int .i64))), (12, (.v (.int .i64))), (13, (.v (.int .i64))), (14, (.v (.int .i64)))]
noncomputable def lv_s_l02DrawIn_L35 : Lv := [(0, (.bx (.v (.st (.pair (.sl (.int .u8)) (.pair (.int .i64) (.pair (.int .u64) .unit))))))), (2, (.bx (.v (.st (.pair (.int .i64) (.pair (.int .i64) .unit)))))), (3, (.v (.int .i64))), (4, (.bx (.v (.st (.pair (.int .i64) (.pair (.int .i64) .unit)))))), (15, (.v (.int .i64))), (16, (.v (.int .i64)))]
noncomputable def lv_s_l02DrawIn_N36 : Lv := [(0, (.bx (.v (.st (.pair (.sl (.int .u8)) (.pair (.int .i64) (.pair (.int .u64) .unit))))))), (2, (.bx (.v (.st (.pair (.int .i64) (.pair (.int .i64) .unit)))))), (3, (.v (.int .i64))), (4, (.bx (.v (.st (.pair (.int .i64) (.pair (.int .i64) .unit)))))), (15, (.v (.int .i64))), (16, (.v (.int .i64)))]
noncomputable def lv_s_l02DrawIn_X1 : Lv := [(0, (.bx (.v (.st (.pair (.sl (.int .u8)) (.pair (.int .i64) (.pair (.int .u64) .unit))))))), (2, (.bx (.v (.st (.pair (.int .i64) (.pair (.int .i64) .unit)))))), (3, (.v (.int .i64))), (5, (.v (.int .i64)))]
noncomputable def lv_s_l02DrawIn_X3 : Lv := [(0, (.bx (.v (.st (.pair (.sl (.int .u8)) (.pair (.int .i64) (.pair (.int .u64) .unit))))))), (2, (.bx (.v (.st (.pair (.int .i64) (.pair (.int .i64) .unit)))))), (3, (.v (.int .i64))), (5, (.v (.int .i64))), (6, (.v (.int .i64))), (7, (.v (.int .i64))), (8, (.v (.int .i64)))]
noncomputable def lv_s_l02DrawIn_X5 : Lv := [(0, (.bx (.v (.st (.pair (.sl (.int .u8)) (.pair (.int .i64) (.pair (.int .u64) .unit))))))), (2, (.bx (.v (.st (.pair (.int .i64) (.pair (.int .i64) .unit)))))), (3, (.v (.int .i64))), (10, (.v (.int .i64)))]
noncomputable def lv_s_l02DrawIn_X7 : Lv := [(0, (.bx (.v (.st (.pair (.sl (.int .u8)) (.pair (.int .i64) (.pair (.int .u64) .unit))))))), (2, (.bx (.v (.st (.pair (.int .i64) (.pair (.int .i64) .unit)))))), (3, (.v (.int .i64))), (10, (.v (.int .i64))), (11, (.v (.int .i64))), (12, (.v (.int .i64))), (13, (.v (.int .i64)))]
noncomputable def lv_s_l02DrawIn_X9 : Lv := [(0, (.bx (.v (.st (.pair (.sl (.int .u8)) (.pair (.int .i64) (.pair (.int .u64) .unit))))))), (2, (.bx (.v (.st (.pair (.int .i64) (.pair (.int .i64) .unit)))))), (3, (.v (.int .i64))), (15, (.v (.int .i64)))]
noncomputable def rv_s_l02DrawIn : Lv := [(0, (.bx (.v (.st (.pair (.sl (.int .u8)) (.pair (.int .i64) (.pair (.int .u64) .unit))))))), (2, (.bx (.v (.st (.pair (.int .i64) (.pair (.int .i64) .unit))))))]
noncomputable def gs_l02DrawIn_l13 {R : Type} (K : Nat) (k : Nat) (x : den lv_s_l02DrawIn_L13.ty) (kx : Nat → St → Option R) (kr : St → Option R) : Option R := s_l02DrawIn_l13 K k x.1 x.2.1 x.2.2.1 x.2.2.2.1 x.2.2.2.2.1 x.2.2.2.2.2.1 x.2.2.2.2.2.2.1 x.2.2.2.2.2.2.2.1 (fun z0 z1 z2 z3 z4 z5 z6 => kx 3 (mkSt lv_s_l02DrawIn_X3 (z0, z1, z2, z3, z4, z5, z6, ())))
noncomputable def gs_l02DrawIn_l9 {R : Type} (K : Nat) (k : Nat) (x : den lv_s_l02DrawIn_L9.ty) (kx : Nat → St → Option R) (kr : St → Option R) : Option R := s_l02DrawIn_l9 K k x.1 x.2.1 x.2.2.1 x.2.2.2.1 x.2.2.2.2.1 x.2.2.2.2.2.1 (fun z0 z1 z2 z3 => kx 1 (mkSt lv_s_l02DrawIn_X1 (z0, z1, z2, z3, ())))
noncomputable def gs_l02DrawIn_l26 {R : Type} (K : Nat) (k : Nat) (x : den lv_s_l02DrawIn_L26.ty) (kx : Nat → St → Option R) (kr : St → Option R) : Option R := s_l02DrawIn_l26 K k x.1 x.2.1 x.2.2.1 x.2.2.2.1 x.2.2.2.2.1 x.2.2.2.2.2.1 x.2.2.2.2.2.2.1 x.2.2.2.2.2.2.2.1 (fun z0 z1 z2 z3 z4 z5 z6 => kx 7 (mkSt lv_s_l02DrawIn_X7 (z0, z1, z2, z3, z4, z5, z6, ())))
noncomputable def gs_l02DrawIn_l22 {R : Type} (K : Nat) (k : Nat) (x : den lv_s_l02DrawIn_L22.ty) (kx : Nat → St → Option R) (kr : St → Option R) : Option R := s_l02DrawIn_l22 K k x.1 x.2.1 x.2.2.1 x.2.2.2.1 x.2.2.2.2.1 x.2.2.2.2.2.1 (fun z0 z1 z2 z3 => kx 5 (mkSt lv_s_l02DrawIn_X5 (z0, z1, z2, z3, ())))
noncomputable def gs_l02DrawIn_j36 {R : Type} (K : Nat) (k : Nat) (x : den lv_s_l02DrawIn_J36.ty) (kn : den lv_s_l02DrawIn_N36.ty → Option R) (kx : Nat → St → Option R) (kr : St → Option R) : Option R := s_l02DrawIn_j36 K k x.1 x.2.1 x.2.2.1 x.2.2.2.1 x.2.2.2.2.1 x.2.2.2.2.2.1 (fun z0 z1 z2 z3 z4 z5 => kn (z0, z1, z2, z3, z4, z5, ()))
noncomputable def gs_l02DrawIn_l35 {R : Type} (K : Nat) (k : Nat) (x : den lv_s_l02DrawIn_L35.ty) (kx : Nat → St → Option R) (kr : St → Option R) : Option R := s_l02DrawIn_l35 K k x.1 x.2.1 x.2.2.1 x.2.2.2.1 x.2.2.2.2.1 x.2.2.2.2.2.1 (fun z0 z1 z2 z3 => kx 9 (mkSt lv_s_l02DrawIn_X9 (z0, z1, z2, z3, ())))
noncomputable def sg_s_l02DrawIn {R : Type} (K : Nat) (k : Nat) : List (Nat × SegS R) := [(36, mkSeg lv_s_l02DrawIn_J36 lv_s_l02DrawIn_N36 (gs_l02DrawIn_j36 K k))]
noncomputable def su_s_l02DrawIn : List (Nat × Unit) := [(36, ())]
noncomputable def en_s_l02DrawIn {R : Type} (K : Nat) (k : Nat) : Env R := { L := lk [(13, mkLoop lv_s_l02DrawIn_L13 (gs_l02DrawIn_l13 K k)), (9, mkLoop lv_s_l02DrawIn_L9 (gs_l02DrawIn_l9 K k)), (26, mkLoop lv_s_l02DrawIn_L26 (gs_l02DrawIn_l26 K k)), (22, mkLoop lv_s_l02DrawIn_L22 (gs_l02DrawIn_l22 K k)), (35, mkLoop lv_s_l02DrawIn_L35 (gs_l02DrawIn_l35 K k))], X := lk [(1, lv_s_l02DrawIn_X1), (3, lv_s_l02DrawIn_X3), (5, lv_s_l02DrawIn_X5), (7, lv_s_l02DrawIn_X7), (9, lv_s_l02DrawIn_X9)], S := lk (sg_s_l02DrawIn K k), rv := rv_s_l02DrawIn }
noncomputable def cf_s_l02DrawIn (K : Nat) : Cfg := { ty := lk tys, fn := lk [(105, sp_s_l01At (s_l01At K)), (154, sp_s_l01Rows (s_l01Rows K))], fs := lk [(95, sp_s_l01Next (s_l01Next K)), (108, sp_s_l01Pick (s_l01Pick K)), (113, sp_s_l01Spoil (s_l01Spoil K)), (120, sp_s_l01DrawOf (s_l01DrawOf K))], prot := 1, nt := Try.f169.ntmps }
noncomputable def c_s_l02DrawIn_L9 : Code := nthC (partsOf (hasK su_s_l02DrawIn) (bodyOf Try.f169)) 0
noncomputable def c_s_l02DrawIn_L13 : Code := nthC (partsOf (hasK su_s_l02DrawIn) c_s_l02DrawIn_L9) 0
noncomputable def c_s_l02DrawIn_L22 : Code := nthC (partsOf (hasK su_s_l02DrawIn) (bodyOf Try.f169)) 1
noncomputable def c_s_l02DrawIn_L26 : Code := nthC (partsOf (hasK su_s_l02DrawIn) c_s_l02DrawIn_L22) 0
noncomputable def c_s_l02DrawIn_L35 : Code := nthC (partsOf (hasK su_s_l02DrawIn) (bodyOf Try.f169)) 2
noncomputable def c_s_l02DrawIn_J36 : Code := nthC (partsOf (hasK su_s_l02DrawIn) c_s_l02DrawIn_L35) 0
theorem es_l02DrawIn_l13 {R : Type} (K : Nat) (k : Nat) (x : den lv_s_l02DrawIn_L13.ty) (kx : Nat → St → Option R) (kr : St → Option R) : gs_l02DrawIn_l13 K (k + 1) x kx kr = evC (cf_s_l02DrawIn K) (en_s_l02DrawIn K k) c_s_l02DrawIn_L13 (mkSt lv_s_l02DrawIn_L13 x) (fun s => mkLoop lv_s_l02DrawIn_L13 (gs_l02DrawIn_l13 K k) s kx kr) kx kr := by kernel_rfl
theorem ss_l02DrawIn_l13 {R : Type} (K : Nat) (C : Cx) (hP : C.P = Try.prog) (O : CfgOk C (cf_s_l02DrawIn K)) (k : Nat) : LpS C (R := R) (mkLoop lv_s_l02DrawIn_L13 (gs_l02DrawIn_l13 K k)) c_s_l02DrawIn_L13 :=
  loop_sound O (by rw [hP]; kernel_rfl) (fun x kx kr => rfl) (es_l02DrawIn_l13 K) (fun k => lpOk_of (en := en_s_l02DrawIn K k) (S := hasK su_s_l02DrawIn) (fun i => hasK_lk (sg_s_l02DrawIn K k) i) _ (by rw [show partsOf (hasK su_s_l02DrawIn) c_s_l02DrawIn_L13 = [] from by kernel_rfl]; exact trivial)) k
theorem es_l02DrawIn_l9 {R : Type} (K : Nat) (k : Nat) (x : den lv_s_l02DrawIn_L9.ty) (kx : Nat → St → Option R) (kr : St → Option R) : gs_l02DrawIn_l9 K (k + 1) x kx kr = evC (cf_s_l02DrawIn K) (en_s_l02DrawIn K k) c_s_l02DrawIn_L9 (mkSt lv_s_l02DrawIn_L9 x) (fun s => mkLoop lv_s_l02DrawIn_L9 (gs_l02DrawIn_l9 K k) s kx kr) kx kr := by kernel_rfl
theorem ss_l02DrawIn_l9 {R : Type} (K : Nat) (C : Cx) (hP : C.P = Try.prog) (O : CfgOk C (cf_s_l02DrawIn K)) (k : Nat) : LpS C (R := R) (mkLoop lv_s_l02DrawIn_L9 (gs_l02DrawIn_l9 K k)) c_s_l02DrawIn_L9 :=
  loop_sound O (by rw [hP]; kernel_rfl) (fun x kx kr => rfl) (es_l02DrawIn_l9 K) (fun k => lpOk_of (en := en_s_l02DrawIn K k) (S := hasK su_s_l02DrawIn) (fun i => hasK_lk (sg_s_l02DrawIn K k) i) _ (by rw [show partsOf (hasK su_s_l02DrawIn) c_s_l02DrawIn_L9 = [(true, c_s_l02DrawIn_L13)] from by kernel_rfl]; exact (lpL_loop (f := mkLoop lv_s_l02DrawIn_L13 (gs_l02DrawIn_l13 K k)) (by kernel_rfl) (ss_l02DrawIn_l13 K C hP O k) trivial))) k
theorem es_l02DrawIn_l26 {R : Type} (K : Nat) (k : Nat) (x : den lv_s_l02DrawIn_L26.ty) (kx : Nat → St → Option R) (kr : St → Option R) : gs_l02DrawIn_l26 K (k + 1) x kx kr = evC (cf_s_l02DrawIn K) (en_s_l02DrawIn K k) c_s_l02DrawIn_L26 (mkSt lv_s_l02DrawIn_L26 x) (fun s => mkLoop lv_s_l02DrawIn_L26 (gs_l02DrawIn_l26 K k) s kx kr) kx kr := by kernel_rfl
theorem ss_l02DrawIn_l26 {R : Type} (K : Nat) (C : Cx) (hP : C.P = Try.prog) (O : CfgOk C (cf_s_l02DrawIn K)) (k : Nat) : LpS C (R := R) (mkLoop lv_s_l02DrawIn_L26 (gs_l02DrawIn_l26 K k)) c_s_l02DrawIn_L26 :=
  loop_sound O (by rw [hP]; kernel_rfl) (fun x kx kr => rfl) (es_l02DrawIn_l26 K) (fun k => lpOk_of (en := en_s_l02DrawIn K k) (S := hasK su_s_l02DrawIn) (fun i => hasK_lk (sg_s_l02DrawIn K k) i) _ (by rw [show partsOf (hasK su_s_l02DrawIn) c_s_l02DrawIn_L26 = [] from by kernel_rfl]; exact trivial)) k
theorem es_l02DrawIn_l22 {R : Type} (K : Nat) (k : Nat) (x : den lv_s_l02DrawIn_L22.ty) (kx : Nat → St → Option R) (kr : St → Option R) : gs_l02DrawIn_l22 K (k + 1) x kx kr = evC (cf_s_l02DrawIn K) (en_s_l02DrawIn K k) c_s_l02DrawIn_L22 (mkSt lv_s_l02DrawIn_L22 x) (fun s => mkLoop lv_s_l02DrawIn_L22 (gs_l02DrawIn_l22 K k) s kx kr) kx kr := by kernel_rfl
theorem ss_l02DrawIn_l22 {R : Type} (K : Nat) (C : Cx) (hP : C.P = Try.prog) (O : CfgOk C (cf_s_l02DrawIn K)) (k : Nat) : LpS C (R := R) (mkLoop lv_s_l02DrawIn_L22 (gs_l02DrawIn_l22 K k)) c_s_l02DrawIn_L22 :=
  loop_sound O (by rw [hP]; kernel_rfl) (fun x kx kr => rfl) (es_l02DrawIn_l22 K) (fun k => lpOk_of (en := en_s_l02DrawIn K k) (S := hasK su_s_l02DrawIn) (fun i => hasK_lk (sg_s_l02DrawIn K k) i) _ (by rw [show partsOf (hasK su_s_l02DrawIn) c_s_l02DrawIn_L22 = [(true, c_s_l02DrawIn_L26)] from by kernel_rfl]; exact (lpL_loop (f := mkLoop lv_s_l02DrawIn_L26 (gs_l02DrawIn_l26 K k)) (by kernel_rfl) (ss_l02DrawIn_l26 K C hP O k) trivial))) k
theorem es_l02DrawIn_j36 {R : Type} (K : Nat) (k : Nat) (x : den lv_s_l02DrawIn_J36.ty) (kn : den lv_s_l02DrawIn_N36.ty → Option R) (kx : Nat → St → Option R) (kr : St → Option R) : gs_l02DrawIn_j36 K k x kn kx kr = evC (cf_s_l02DrawIn K) (en_s_l02DrawIn K k) c_s_l02DrawIn_J36 (mkSt lv_s_l02DrawIn_J36 x) (cutK lv_s_l02DrawIn_N36 kn) kx kr := by kernel_rfl
theorem ss_l02DrawIn_j36 {R : Type} (K : Nat) (C : Cx) (hP : C.P = Try.prog) (O : CfgOk C (cf_s_l02DrawIn K)) (k : Nat) : SgS C (R := R) (mkSeg lv_s_l02DrawIn_J36 lv_s_l02DrawIn_N36 (gs_l02DrawIn_j36 K k)) c_s_l02DrawIn_J36 :=
  seg_sound O (by rw [hP]; kernel_rfl) (es_l02DrawIn_j36 K k) (lpOk_of (en := en_s_l02DrawIn K k) (S := hasK su_s_l02DrawIn) (fun i => hasK_lk (sg_s_l02DrawIn K k) i) _ (by rw [show partsOf (hasK su_s_l02DrawIn) c_s_l02DrawIn_J36 = [] from by kernel_rfl]; exact trivial))
theorem es_l02DrawIn_l35 {R : Type} (K : Nat) (k : Nat) (x : den lv_s_l02DrawIn_L35.ty) (kx : Nat → St → Option R) (kr : St → Option R) : gs_l02DrawIn_l35 K (k + 1) x kx kr = evC (cf_s_l02DrawIn K) (en_s_l02DrawIn K k) c_s_l02DrawIn_L35 (mkSt lv_s_l02DrawIn_L35 x) (fun s => mkLoop lv_s_l02DrawIn_L35 (gs_l02DrawIn_l35 K k) s kx kr) kx kr := by kernel_rfl
theorem ss_l02DrawIn_l35 {R : Type} (K : Nat) (C : Cx) (hP : C.P = Try.prog) (O : CfgOk C (cf_s_l02DrawIn K)) (k : Nat) : LpS C (R := R) (mkLoop lv_s_l02DrawIn_L35 (gs_l02DrawIn_l35 K k)) c_s_l02DrawIn_L35 :=
  loop_sound O (by rw [hP]; kernel_rfl) (fun x kx kr => rfl) (es_l02DrawIn_l35 K) (fun k => lpOk_of (en := en_s_l02DrawIn K k) (S := hasK su_s_l02DrawIn) (fun i => hasK_lk (sg_s_l02DrawIn K k) i) _ (by rw [show partsOf (hasK su_s_l02DrawIn) c_s_l02DrawIn_L35 = [(false, c_s_l02DrawIn_J36)] from by kernel_rfl]; exact (lpL_seg (f := mkSeg lv_s_l02DrawIn_J36 lv_s_l02DrawIn_N36 (gs_l02DrawIn_j36 K k)) (by kernel_rfl) (ss_l02DrawIn_j36 K C hP O k) trivial))) k
theorem e_s_l02DrawIn (K : Nat) (x : den ps_s_l02DrawIn.ty) : s_l02DrawIn K x = evFnS (cf_s_l02DrawIn K) ps_s_l02DrawIn rl_s_l02DrawIn (en_s_l02DrawIn K K) Try.f169.results.toList (bodyOf Try.f169) x := by kernel_rfl
theorem ok_s_l02DrawIn (K : Nat) : ShOk Try.prog 169 (sp_s_l02DrawIn (s_l02DrawIn K)) :=
  sh_ok (cf := cf_s_l02DrawIn K) (en := en_s_l02DrawIn K K) (c := bodyOf Try.f169) Try.func169 (by kernel_rfl) (by kernel_rfl) tysOk (fns_ok (l := [(105, sp_s_l01At (s_l01At K)), (154, sp_s_l01Rows (s_l01Rows K))]) ⟨ok_s_l01At K, ⟨ok_s_l01Rows K, trivial⟩⟩) (shs_ok (l := [(95, sp_s_l01Next (s_l01Next K)), (108, sp_s_l01Pick (s_l01Pick K)), (113, sp_s_l01Spoil (s_l01Spoil K)), (120, sp_s_l01DrawOf (s_l01DrawOf K))]) ⟨ok_s_l01Next K, ⟨ok_s_l01Pick K, ⟨ok_s_l01Spoil K, ⟨ok_s_l01DrawOf K, trivial⟩⟩⟩⟩) (by kernel_rfl) rfl (Nat.le_of_ble_eq_true (by kernel_rfl)) (by kernel_rfl) (Nat.le_of_ble_eq_true (by kernel_rfl)) (by kernel_rfl) (fun C hP O => lpOk_of (en := en_s_l02DrawIn K K) (S := hasK su_s_l02DrawIn) (fun i => hasK_lk (sg_s_l02DrawIn K K) i) _ (by rw [show partsOf (hasK su_s_l02DrawIn) (bodyOf Try.f169) = [(true, c_s_l02DrawIn_L9), (true, c_s_l02DrawIn_L22), (true, c_s_l02DrawIn_L35)] from by kernel_rfl]; exact (lpL_loop (f := mkLoop lv_s_l02DrawIn_L9 (gs_l02DrawIn_l9 K K)) (by kernel_rfl) (ss_l02DrawIn_l9 K C hP O K) (lpL_loop (f := mkLoop lv_s_l02DrawIn_L22 (gs_l02DrawIn_l22 K K)) (by kernel_rfl) (ss_l02DrawIn_l22 K C hP O K) (lpL_loop (f := mkLoop lv_s_l02DrawIn_L35 (gs_l02DrawIn_l35 K K)) (by kernel_rfl) (ss_l02DrawIn_l35 K C hP O K) trivial))))) (fun x y h => by rw [← e_s_l02DrawIn]; exact h)
noncomputable def ps_s_l10Draw : Lv := [(0, (.bx (.v (.st (.pair (.sl (.int .u8)) (.pair (.int .i64) (.pair (.int .u64) .unit)))))))]
noncomputable def rl_s_l10Draw : Lv := [(0, (.v (.st (.pair (.int .i64) (.pair (.int .i64) .unit)))))]
noncomputable def sp_s_l10Draw (F : (((List Int) × Int × Int × Unit) × Unit) → Option (((Int × Int × Unit) × Unit) × (((List Int) × Int × Int × Unit) × Unit))) : ShSpec := ⟨ps_s_l10Draw, rl_s_l10Draw, F⟩
noncomputable def s_l10Draw_l8 {R : Type} (K : Nat) : Nat → ((List Int) × Int × Int × Unit) → (Int × Int × Unit) → Int → Int → Int → Int → (((List Int) × Int × Int × Unit) → (Int × Int × Unit) → Int → Int → Option R) → Option R
  | 0, _, _, _, _, _, _, _ => none
  | k + 1, v0, v2, v3, v4, v5, v6, kx1 =>
    (s_l01Rows K (v3, ())).bind fun y13 =>
    (if (decide (v6 < y13)) = true then
    (s_l10Weight K (v6, ())).bind fun y14 =>
    (if (decide ((0 : Int) ≤ (IntKind.u64.wrap y14))) = true then
    let x15 := (bitI .and .i64 (shrI .i64 v4 (IntKind.u64.wrap y14)) (1 : Int))
    (if (decide ((0 : Int) ≤ (IntKind.u64.wrap v6))) = true then
    s_l10Draw_l8 K k v0 v2 v3 v4 (bitI .or .i64 v5 (shlI .i64 x15 (IntKind.u64.wrap v6))) (IntKind.i64.wrap (v6 + (1 : Int))) kx1
    else
    none)
    else
    none)
    else
    kx1 v0 v2 v3 v5)
noncomputable def s_l10Draw (K : Nat) (x : (((List Int) × Int × Int × Unit) × Unit)) : Option (((Int × Int × Unit) × Unit) × (((List Int) × Int × Int × Unit) × Unit)) :=
    (s_l01Next K (x.1, (4 : Int), ())).bind fun y1 =>
    (if (decide (y1.1.1 = (0 : Int))) = true then
    let x2 := (((3 : Int), ((0 : Int), (0 : Int), ()).2.1, ()).1, (232 : Int), ())
    let x3 := (((3 : Int), ((0 : Int), (0 : Int), ()).2.1, ()).1, (150 : Int), ())
    let x4 := (((3 : Int), ((0 : Int), (0 : Int), ()).2.1, ()).1, (178 : Int), ())
    let x5 := (((2 : Int), ((0 : Int), (0 : Int), ()).2.1, ()).1, (8 : Int), ())
    let x6 := (((2 : Int), ((0 : Int), (0 : Int), ()).2.1, ()).1, (14 : Int), ())
    let x7 := (((3 : Int), ((0 : Int), (0 : Int), ()).2.1, ()).1, (128 : Int), ())
    let l8 := [x2, x3, x4, x5, x6, x7]
    (s_l01Next K (y1.2.1, (6 : Int), ())).bind fun y9 =>
    (if (bnds y9.1.1 (l8.length : Int)) = true then
    some (((l8.getD y9.1.1.toNat ((0 : Int), (0 : Int), ())), ()), (y9.2.1, ()))
    else
    none)
    else
    (if (decide (y1.1.1 = (1 : Int))) = true then
    let l10 := [(1 : Int), (2 : Int), (3 : Int), (4 : Int)]
    (s_l01Pick K (y1.2.1, l10, ())).bind fun y11 =>
    (s_l01Next K (y11.2.1, (32 : Int), ())).bind fun y12 =>
    s_l10Draw_l8 K K y12.2.1 ((0 : Int), (0 : Int), ()) y11.1.1 y12.1.1 (0 : Int) (0 : Int) (fun z16 z17 z18 z19 =>
    some ((((z18, ((0 : Int), (0 : Int), ()).2.1, ()).1, z19, ()), ()), (z16, ())))
    else
    (s_l02DrawIn K (y1.2.1, ())).bind fun y20 =>
    some ((y20.1.1, ()), (y20.2.1, ()))))
noncomputable def lv_s_l10Draw_L8 : Lv := [(0, (.bx (.v (.st (.pair (.sl (.int .u8)) (.pair (.int .i64) (.pair (.int .u64) .unit))))))), (2, (.bx (.v (.st (.pair (.int .i64) (.pair (.int .i64) .unit)))))), (3, (.v (.int .i64))), (4, (.v (.int .i64))), (5, (.v (.int .i64))), (6, (.v (.int .i64)))]
noncomputable def lv_s_l10Draw_X1 : Lv := [(0, (.bx (.v (.st (.pair (.sl (.int .u8)) (.pair (.int .i64) (.pair (.int .u64) .unit))))))), (2, (.bx (.v (.st (.pair (.int .i64) (.pair (.int .i64) .unit)))))), (3, (.v (.int .i64))), (5, (.v (.int .i64)))]
noncomputable def rv_s_l10Draw : Lv := [(0, (.bx (.v (.st (.pair (.sl (.int .u8)) (.pair (.int .i64) (.pair (.int .u64) .unit))))))), (2, (.bx (.v (.st (.pair (.int .i64) (.pair (.int .i64) .unit))))))]
noncomputable def gs_l10Draw_l8 {R : Type} (K : Nat) (k : Nat) (x : den lv_s_l10Draw_L8.ty) (kx : Nat → St → Option R) (kr : St → Option R) : Option R := s_l10Draw_l8 K k x.1 x.2.1 x.2.2.1 x.2.2.2.1 x.2.2.2.2.1 x.2.2.2.2.2.1 (fun z0 z1 z2 z3 => kx 1 (mkSt lv_s_l10Draw_X1 (z0, z1, z2, z3, ())))
noncomputable def sg_s_l10Draw {R : Type} (K : Nat) (k : Nat) : List (Nat × SegS R) := []
noncomputable def su_s_l10Draw : List (Nat × Unit) := []
noncomputable def en_s_l10Draw {R : Type} (K : Nat) (k : Nat) : Env R := { L := lk [(8, mkLoop lv_s_l10Draw_L8 (gs_l10Draw_l8 K k))], X := lk [(1, lv_s_l10Draw_X1)], S := lk (sg_s_l10Draw K k), rv := rv_s_l10Draw }
noncomputable def cf_s_l10Draw (K : Nat) : Cfg := { ty := lk tys, fn := lk [(154, sp_s_l01Rows (s_l01Rows K)), (168, sp_s_l10Weight (s_l10Weight K))], fs := lk [(95, sp_s_l01Next (s_l01Next K)), (108, sp_s_l01Pick (s_l01Pick K)), (169, sp_s_l02DrawIn (s_l02DrawIn K))], prot := 1, nt := Try.f94.ntmps }
noncomputable def c_s_l10Draw_L8 : Code := nthC (partsOf (hasK su_s_l10Draw) (bodyOf Try.f94)) 0
theorem es_l10Draw_l8 {R : Type} (K : Nat) (k : Nat) (x : den lv_s_l10Draw_L8.ty) (kx : Nat → St → Option R) (kr : St → Option R) : gs_l10Draw_l8 K (k + 1) x kx kr = evC (cf_s_l10Draw K) (en_s_l10Draw K k) c_s_l10Draw_L8 (mkSt lv_s_l10Draw_L8 x) (fun s => mkLoop lv_s_l10Draw_L8 (gs_l10Draw_l8 K k) s kx kr) kx kr := by kernel_rfl
theorem ss_l10Draw_l8 {R : Type} (K : Nat) (C : Cx) (hP : C.P = Try.prog) (O : CfgOk C (cf_s_l10Draw K)) (k : Nat) : LpS C (R := R) (mkLoop lv_s_l10Draw_L8 (gs_l10Draw_l8 K k)) c_s_l10Draw_L8 :=
  loop_sound O (by rw [hP]; kernel_rfl) (fun x kx kr => rfl) (es_l10Draw_l8 K) (fun k => lpOk_of (en := en_s_l10Draw K k) (S := hasK su_s_l10Draw) (fun i => hasK_lk (sg_s_l10Draw K k) i) _ (by rw [show partsOf (hasK su_s_l10Draw) c_s_l10Draw_L8 = [] from by kernel_rfl]; exact trivial)) k
theorem e_s_l10Draw (K : Nat) (x : den ps_s_l10Draw.ty) : s_l10Draw K x = evFnS (cf_s_l10Draw K) ps_s_l10Draw rl_s_l10Draw (en_s_l10Draw K K) Try.f94.results.toList (bodyOf Try.f94) x := by kernel_rfl
theorem ok_s_l10Draw (K : Nat) : ShOk Try.prog 94 (sp_s_l10Draw (s_l10Draw K)) :=
  sh_ok (cf := cf_s_l10Draw K) (en := en_s_l10Draw K K) (c := bodyOf Try.f94) Try.func94 (by kernel_rfl) (by kernel_rfl) tysOk (fns_ok (l := [(154, sp_s_l01Rows (s_l01Rows K)), (168, sp_s_l10Weight (s_l10Weight K))]) ⟨ok_s_l01Rows K, ⟨ok_s_l10Weight K, trivial⟩⟩) (shs_ok (l := [(95, sp_s_l01Next (s_l01Next K)), (108, sp_s_l01Pick (s_l01Pick K)), (169, sp_s_l02DrawIn (s_l02DrawIn K))]) ⟨ok_s_l01Next K, ⟨ok_s_l01Pick K, ⟨ok_s_l02DrawIn K, trivial⟩⟩⟩) (by kernel_rfl) rfl (Nat.le_of_ble_eq_true (by kernel_rfl)) (by kernel_rfl) (Nat.le_of_ble_eq_true (by kernel_rfl)) (by kernel_rfl) (fun C hP O => lpOk_of (en := en_s_l10Draw K K) (S := hasK su_s_l10Draw) (fun i => hasK_lk (sg_s_l10Draw K K) i) _ (by rw [show partsOf (hasK su_s_l10Draw) (bodyOf Try.f94) = [(true, c_s_l10Draw_L8)] from by kernel_rfl]; exact (lpL_loop (f := mkLoop lv_s_l10Draw_L8 (gs_l10Draw_l8 K K)) (by kernel_rfl) (ss_l10Draw_l8 K C hP O K) trivial))) (fun x y h => by rw [← e_s_l10Draw]; exact h)
noncomputable def as_s_DrawIsIdempotent : Ty := (.pair (.sl (.int .u8)) .unit)
noncomputable def sp_s_DrawIsIdempotent (F : ((List Int) × Unit) → Option (Int × Int × Unit)) : FnSpec := ⟨as_s_DrawIsIdempotent, [false], (.st (.pair (.int .i64) (.pair (.int .i64) .unit))), F⟩
noncomputable def s_DrawIsIdempotent (K : Nat) (x : ((List Int) × Unit)) : Option (Int × Int × Unit) :=
    (s_l01From K (x.1, ())).bind fun y1 =>
    (s_l10Draw K (y1.1.1, ())).bind fun y2 =>
    some y2.1.1
noncomputable def rv_s_DrawIsIdempotent : Lv := [(2, (.bx (.v (.st (.pair (.int .i64) (.pair (.int .i64) .unit))))))]
noncomputable def sg_s_DrawIsIdempotent {R : Type} (K : Nat) (k : Nat) : List (Nat × SegS R) := []
noncomputable def su_s_DrawIsIdempotent : List (Nat × Unit) := []
noncomputable def en_s_DrawIsIdempotent {R : Type} (K : Nat) (k : Nat) : Env R := { L := lk [], X := lk [], S := lk (sg_s_DrawIsIdempotent K k), rv := rv_s_DrawIsIdempotent }
noncomputable def cf_s_DrawIsIdempotent (K : Nat) : Cfg := { ty := lk tys, fn := lk [], fs := lk [(93, sp_s_l01From (s_l01From K)), (94, sp_s_l10Draw (s_l10Draw K))], prot := 0, nt := Try.f35.ntmps }
theorem e_s_DrawIsIdempotent (K : Nat) (x : den as_s_DrawIsIdempotent) : s_DrawIsIdempotent K x = evFn (cf_s_DrawIsIdempotent K) as_s_DrawIsIdempotent [false] (.st (.pair (.int .i64) (.pair (.int .i64) .unit))) (en_s_DrawIsIdempotent K K) Try.f35.results.toList (bodyOf Try.f35) x := by kernel_rfl
theorem ok_s_DrawIsIdempotent (K : Nat) : FnOk Try.prog 35 (sp_s_DrawIsIdempotent (s_DrawIsIdempotent K)) :=
  fn_ok (cf := cf_s_DrawIsIdempotent K) (en := en_s_DrawIsIdempotent K K) (c := bodyOf Try.f35) Try.func35 (by kernel_rfl) (by kernel_rfl) tysOk (fns_ok (l := []) trivial) (shs_ok (l := [(93, sp_s_l01From (s_l01From K)), (94, sp_s_l10Draw (s_l10Draw K))]) ⟨ok_s_l01From K, ⟨ok_s_l10Draw K, trivial⟩⟩) (by kernel_rfl) rfl (Nat.le_of_ble_eq_true (by kernel_rfl)) (by kernel_rfl) (of_decide_eq_true (by kernel_rfl)) (by decide) (fun C hP O => lpOk_of (en := en_s_DrawIsIdempotent K K) (S := hasK su_s_DrawIsIdempotent) (fun i => hasK_lk (sg_s_DrawIsIdempotent K K) i) _ (by rw [show partsOf (hasK su_s_DrawIsIdempotent) (bodyOf Try.f35) = [] from by kernel_rfl]; exact trivial)) (fun x y h => by rw [← e_s_DrawIsIdempotent]; exact h)
noncomputable def as_s_DrawIsOfKind : Ty := (.pair (.sl (.int .u8)) .unit)
noncomputable def sp_s_DrawIsOfKind (F : ((List Int) × Unit) → Option ((Int × Int × Unit) × Int × Unit)) : FnSpec := ⟨as_s_DrawIsOfKind, [false], (.tup (.pair (.st (.pair (.int .i64) (.pair (.int .i64) .unit))) (.pair (.int .i64) .unit))), F⟩
noncomputable def s_DrawIsOfKind (K : Nat) (x : ((List Int) × Unit)) : Option ((Int × Int × Unit) × Int × Unit) :=
    (s_l01From K (x.1, ())).bind fun y1 =>
    (s_l10Draw K (y1.1.1, ())).bind fun y2 =>
    (s_l01Next K (y2.2.1, (4 : Int), ())).bind fun y3 =>
    (s_l01Next K (y3.2.1, (24 : Int), ())).bind fun y4 =>
    let x5 := (IntKind.i64.wrap (y3.1.1 + (IntKind.i64.wrap (Int.tdiv y4.1.1 (23 : Int)))))
    some (y2.1.1, x5, ())
noncomputable def rv_s_DrawIsOfKind : Lv := [(2, (.bx (.v (.st (.pair (.int .i64) (.pair (.int .i64) .unit)))))), (3, (.v (.int .i64)))]
noncomputable def sg_s_DrawIsOfKind {R : Type} (K : Nat) (k : Nat) : List (Nat × SegS R) := []
noncomputable def su_s_DrawIsOfKind : List (Nat × Unit) := []
noncomputable def en_s_DrawIsOfKind {R : Type} (K : Nat) (k : Nat) : Env R := { L := lk [], X := lk [], S := lk (sg_s_DrawIsOfKind K k), rv := rv_s_DrawIsOfKind }
noncomputable def cf_s_DrawIsOfKind (K : Nat) : Cfg := { ty := lk tys, fn := lk [], fs := lk [(93, sp_s_l01From (s_l01From K)), (94, sp_s_l10Draw (s_l10Draw K)), (95, sp_s_l01Next (s_l01Next K))], prot := 0, nt := Try.f32.ntmps }
theorem e_s_DrawIsOfKind (K : Nat) (x : den as_s_DrawIsOfKind) : s_DrawIsOfKind K x = evFn (cf_s_DrawIsOfKind K) as_s_DrawIsOfKind [false] (.tup (.pair (.st (.pair (.int .i64) (.pair (.int .i64) .unit))) (.pair (.int .i64) .unit))) (en_s_DrawIsOfKind K K) Try.f32.results.toList (bodyOf Try.f32) x := by kernel_rfl
theorem ok_s_DrawIsOfKind (K : Nat) : FnOk Try.prog 32 (sp_s_DrawIsOfKind (s_DrawIsOfKind K)) :=
  fn_ok (cf := cf_s_DrawIsOfKind K) (en := en_s_DrawIsOfKind K K) (c := bodyOf Try.f32) Try.func32 (by kernel_rfl) (by kernel_rfl) tysOk (fns_ok (l := []) trivial) (shs_ok (l := [(93, sp_s_l01From (s_l01From K)), (94, sp_s_l10Draw (s_l10Draw K)), (95, sp_s_l01Next (s_l01Next K))]) ⟨ok_s_l01From K, ⟨ok_s_l10Draw K, ⟨ok_s_l01Next K, trivial⟩⟩⟩) (by kernel_rfl) rfl (Nat.le_of_ble_eq_true (by kernel_rfl)) (by kernel_rfl) (of_decide_eq_true (by kernel_rfl)) (by decide) (fun C hP O => lpOk_of (en := en_s_DrawIsOfKind K K) (S := hasK su_s_DrawIsOfKind) (fun i => hasK_lk (sg_s_DrawIsOfKind K K) i) _ (by rw [show partsOf (hasK su_s_DrawIsOfKind) (bodyOf Try.f32) = [] from by kernel_rfl]; exact trivial)) (fun x y h => by rw [← e_s_DrawIsOfKind]; exact h)
noncomputable def as_s_DrawKindCounts : Ty := (.pair (.sl (.int .u8)) .unit)
noncomputable def sp_s_DrawKindCounts (F : ((List Int) × Unit) → Option Int) : FnSpec := ⟨as_s_DrawKindCounts, [false], (.int .i64), F⟩
noncomputable def s_DrawKindCounts (K : Nat) (x : ((List Int) × Unit)) : Option Int :=
    (s_l01From K (x.1, ())).bind fun y1 =>
    (s_l01Next K (y1.1.1, (6 : Int), ())).bind fun y2 =>
    let l3 := [(0 : Int), (1 : Int), (2 : Int), (3 : Int), y2.1.1]
    (s_l01Pick K (y2.2.1, l3, ())).bind fun y4 =>
    some y4.1.1
noncomputable def rv_s_DrawKindCounts : Lv := [(2, (.v (.int .i64)))]
noncomputable def sg_s_DrawKindCounts {R : Type} (K : Nat) (k : Nat) : List (Nat × SegS R) := []
noncomputable def su_s_DrawKindCounts : List (Nat × Unit) := []
noncomputable def en_s_DrawKindCounts {R : Type} (K : Nat) (k : Nat) : Env R := { L := lk [], X := lk [], S := lk (sg_s_DrawKindCounts K k), rv := rv_s_DrawKindCounts }
noncomputable def cf_s_DrawKindCounts (K : Nat) : Cfg := { ty := lk tys, fn := lk [], fs := lk [(93, sp_s_l01From (s_l01From K)), (95, sp_s_l01Next (s_l01Next K)), (108, sp_s_l01Pick (s_l01Pick K))], prot := 0, nt := Try.f44.ntmps }
theorem e_s_DrawKindCounts (K : Nat) (x : den as_s_DrawKindCounts) : s_DrawKindCounts K x = evFn (cf_s_DrawKindCounts K) as_s_DrawKindCounts [false] (.int .i64) (en_s_DrawKindCounts K K) Try.f44.results.toList (bodyOf Try.f44) x := by kernel_rfl
theorem ok_s_DrawKindCounts (K : Nat) : FnOk Try.prog 44 (sp_s_DrawKindCounts (s_DrawKindCounts K)) :=
  fn_ok (cf := cf_s_DrawKindCounts K) (en := en_s_DrawKindCounts K K) (c := bodyOf Try.f44) Try.func44 (by kernel_rfl) (by kernel_rfl) tysOk (fns_ok (l := []) trivial) (shs_ok (l := [(93, sp_s_l01From (s_l01From K)), (95, sp_s_l01Next (s_l01Next K)), (108, sp_s_l01Pick (s_l01Pick K))]) ⟨ok_s_l01From K, ⟨ok_s_l01Next K, ⟨ok_s_l01Pick K, trivial⟩⟩⟩) (by kernel_rfl) rfl (Nat.le_of_ble_eq_true (by kernel_rfl)) (by kernel_rfl) (of_decide_eq_true (by kernel_rfl)) (by decide) (fun C hP O => lpOk_of (en := en_s_DrawKindCounts K K) (S := hasK su_s_DrawKindCounts) (fun i => hasK_lk (sg_s_DrawKindCounts K K) i) _ (by rw [show partsOf (hasK su_s_DrawKindCounts) (bodyOf Try.f44) = [] from by kernel_rfl]; exact trivial)) (fun x y h => by rw [← e_s_DrawKindCounts]; exact h)
noncomputable def as_s_l01Is : Ty := (.pair (.st (.pair (.int .i64) (.pair (.int .i64) .unit))) .unit)
noncomputable def sp_s_l01Is (F : ((Int × Int × Unit) × Unit) → Option Bool) : FnSpec := ⟨as_s_l01Is, [false], .bool, F⟩
noncomputable def s_l01Is (K : Nat) (x : ((Int × Int × Unit) × Unit)) : Option Bool :=
    (s_l01In K (x.1.1, (0 : Int), (4 : Int), ())).bind fun y1 =>
    (if y1 = true then
    (s_l01All K (x.1.1, ())).bind fun y2 =>
    (s_l01In K (x.1.2.1, (0 : Int), y2, ())).bind fun y3 =>
    some y3
    else
    some false)
noncomputable def rv_s_l01Is : Lv := [(2, (.v .bool))]
noncomputable def sg_s_l01Is {R : Type} (K : Nat) (k : Nat) : List (Nat × SegS R) := []
noncomputable def su_s_l01Is : List (Nat × Unit) := []
noncomputable def en_s_l01Is {R : Type} (K : Nat) (k : Nat) : Env R := { L := lk [], X := lk [], S := lk (sg_s_l01Is K k), rv := rv_s_l01Is }
noncomputable def cf_s_l01Is (K : Nat) : Cfg := { ty := lk tys, fn := lk [(61, sp_s_l01In (s_l01In K)), (111, sp_s_l01All (s_l01All K))], fs := lk [], prot := 0, nt := Try.f98.ntmps }
theorem e_s_l01Is (K : Nat) (x : den as_s_l01Is) : s_l01Is K x = evFn (cf_s_l01Is K) as_s_l01Is [false] .bool (en_s_l01Is K K) Try.f98.results.toList (bodyOf Try.f98) x := by kernel_rfl
theorem ok_s_l01Is (K : Nat) : FnOk Try.prog 98 (sp_s_l01Is (s_l01Is K)) :=
  fn_ok (cf := cf_s_l01Is K) (en := en_s_l01Is K K) (c := bodyOf Try.f98) Try.func98 (by kernel_rfl) (by kernel_rfl) tysOk (fns_ok (l := [(61, sp_s_l01In (s_l01In K)), (111, sp_s_l01All (s_l01All K))]) ⟨ok_s_l01In K, ⟨ok_s_l01All K, trivial⟩⟩) (shs_ok (l := []) trivial) (by kernel_rfl) rfl (Nat.le_of_ble_eq_true (by kernel_rfl)) (by kernel_rfl) (of_decide_eq_true (by kernel_rfl)) (by decide) (fun C hP O => lpOk_of (en := en_s_l01Is K K) (S := hasK su_s_l01Is) (fun i => hasK_lk (sg_s_l01Is K K) i) _ (by rw [show partsOf (hasK su_s_l01Is) (bodyOf Try.f98) = [] from by kernel_rfl]; exact trivial)) (fun x y h => by rw [← e_s_l01Is]; exact h)
noncomputable def as_s_l10Near : Ty := (.pair (.st (.pair (.int .i64) (.pair (.int .i64) .unit))) .unit)
noncomputable def sp_s_l10Near (F : ((Int × Int × Unit) × Unit) → Option Bool) : FnSpec := ⟨as_s_l10Near, [false], .bool, F⟩
noncomputable def s_l10Near_l4 {R : Type} (K : Nat) : Nat → (Int × Int × Unit) → Int → (Option R) → (Bool → Option R) → Option R
  | 0, _, _, _, _ => none
  | k + 1, v1, v3, kx0, kr =>
    (s_l01Rows K (v1.1, ())).bind fun y1 =>
    (if (decide (v3 < y1)) = true then
    (s_l10Weight K (v3, ())).bind fun y2 =>
    (if (decide (y2 ≤ (1 : Int))) = true then
    (s_l01At K (v1, v3, ())).bind fun y3 =>
    (if (decide (y3 = (1 : Int))) = true then
    kr false
    else
    (if (decide (y2 ≥ (IntKind.i64.wrap (v1.1 - (1 : Int))))) = true then
    (s_l01At K (v1, v3, ())).bind fun y4 =>
    (if (decide (y4 = (0 : Int))) = true then
    kr false
    else
    s_l10Near_l4 K k v1 (IntKind.i64.wrap (v3 + (1 : Int))) kx0 kr)
    else
    s_l10Near_l4 K k v1 (IntKind.i64.wrap (v3 + (1 : Int))) kx0 kr))
    else
    (if (decide (y2 ≥ (IntKind.i64.wrap (v1.1 - (1 : Int))))) = true then
    (s_l01At K (v1, v3, ())).bind fun y5 =>
    (if (decide (y5 = (0 : Int))) = true then
    kr false
    else
    s_l10Near_l4 K k v1 (IntKind.i64.wrap (v3 + (1 : Int))) kx0 kr)
    else
    s_l10Near_l4 K k v1 (IntKind.i64.wrap (v3 + (1 : Int))) kx0 kr))
    else
    kx0)
noncomputable def s_l10Near (K : Nat) (x : ((Int × Int × Unit) × Unit)) : Option Bool :=
    (if (decide (x.1.1 < (3 : Int))) = true then
    some false
    else
    s_l10Near_l4 K K x.1 (0 : Int) (some true) (fun z6 =>
    some z6))
noncomputable def lv_s_l10Near_L4 : Lv := [(1, (.bx (.v (.st (.pair (.int .i64) (.pair (.int .i64) .unit)))))), (3, (.v (.int .i64)))]
noncomputable def lv_s_l10Near_X0 : Lv := []
noncomputable def rv_s_l10Near : Lv := [(2, (.v .bool))]
noncomputable def gs_l10Near_l4 {R : Type} (K : Nat) (k : Nat) (x : den lv_s_l10Near_L4.ty) (kx : Nat → St → Option R) (kr : St → Option R) : Option R := s_l10Near_l4 K k x.1 x.2.1 (kx 0 (mkSt lv_s_l10Near_X0 ())) (fun z0 => kr (mkSt rv_s_l10Near (z0, ())))
noncomputable def sg_s_l10Near {R : Type} (K : Nat) (k : Nat) : List (Nat × SegS R) := []
noncomputable def su_s_l10Near : List (Nat × Unit) := []
noncomputable def en_s_l10Near {R : Type} (K : Nat) (k : Nat) : Env R := { L := lk [(4, mkLoop lv_s_l10Near_L4 (gs_l10Near_l4 K k))], X := lk [(0, lv_s_l10Near_X0)], S := lk (sg_s_l10Near K k), rv := rv_s_l10Near }
noncomputable def cf_s_l10Near (K : Nat) : Cfg := { ty := lk tys, fn := lk [(105, sp_s_l01At (s_l01At K)), (154, sp_s_l01Rows (s_l01Rows K)), (168, sp_s_l10Weight (s_l10Weight K))], fs := lk [], prot := 0, nt := Try.f107.ntmps }
noncomputable def c_s_l10Near_L4 : Code := nthC (partsOf (hasK su_s_l10Near) (bodyOf Try.f107)) 0
theorem es_l10Near_l4 {R : Type} (K : Nat) (k : Nat) (x : den lv_s_l10Near_L4.ty) (kx : Nat → St → Option R) (kr : St → Option R) : gs_l10Near_l4 K (k + 1) x kx kr = evC (cf_s_l10Near K) (en_s_l10Near K k) c_s_l10Near_L4 (mkSt lv_s_l10Near_L4 x) (fun s => mkLoop lv_s_l10Near_L4 (gs_l10Near_l4 K k) s kx kr) kx kr := by kernel_rfl
theorem ss_l10Near_l4 {R : Type} (K : Nat) (C : Cx) (hP : C.P = Try.prog) (O : CfgOk C (cf_s_l10Near K)) (k : Nat) : LpS C (R := R) (mkLoop lv_s_l10Near_L4 (gs_l10Near_l4 K k)) c_s_l10Near_L4 :=
  loop_sound O (by rw [hP]; kernel_rfl) (fun x kx kr => rfl) (es_l10Near_l4 K) (fun k => lpOk_of (en := en_s_l10Near K k) (S := hasK su_s_l10Near) (fun i => hasK_lk (sg_s_l10Near K k) i) _ (by rw [show partsOf (hasK su_s_l10Near) c_s_l10Near_L4 = [] from by kernel_rfl]; exact trivial)) k
theorem e_s_l10Near (K : Nat) (x : den as_s_l10Near) : s_l10Near K x = evFn (cf_s_l10Near K) as_s_l10Near [false] .bool (en_s_l10Near K K) Try.f107.results.toList (bodyOf Try.f107) x := by kernel_rfl
theorem ok_s_l10Near (K : Nat) : FnOk Try.prog 107 (sp_s_l10Near (s_l10Near K)) :=
  fn_ok (cf := cf_s_l10Near K) (en := en_s_l10Near K K) (c := bodyOf Try.f107) Try.func107 (by kernel_rfl) (by kernel_rfl) tysOk (fns_ok (l := [(105, sp_s_l01At (s_l01At K)), (154, sp_s_l01Rows (s_l01Rows K)), (168, sp_s_l10Weight (s_l10Weight K))]) ⟨ok_s_l01At K, ⟨ok_s_l01Rows K, ⟨ok_s_l10Weight K, trivial⟩⟩⟩) (shs_ok (l := []) trivial) (by kernel_rfl) rfl (Nat.le_of_ble_eq_true (by kernel_rfl)) (by kernel_rfl) (of_decide_eq_true (by kernel_rfl)) (by decide) (fun C hP O => lpOk_of (en := en_s_l10Near K K) (S := hasK su_s_l10Near) (fun i => hasK_lk (sg_s_l10Near K K) i) _ (by rw [show partsOf (hasK su_s_l10Near) (bodyOf Try.f107) = [(true, c_s_l10Near_L4)] from by kernel_rfl]; exact (lpL_loop (f := mkLoop lv_s_l10Near_L4 (gs_l10Near_l4 K K)) (by kernel_rfl) (ss_l10Near_l4 K C hP O K) trivial))) (fun x y h => by rw [← e_s_l10Near]; exact h)
noncomputable def as_s_HasNearUnanimity : Ty := (.pair (.st (.pair (.int .i64) (.pair (.int .i64) .unit))) .unit)
noncomputable def sp_s_HasNearUnanimity (F : ((Int × Int × Unit) × Unit) → Option (Bool × Int × Unit)) : FnSpec := ⟨as_s_HasNearUnanimity, [false], (.tup (.pair .bool (.pair (.int .i64) .unit))), F⟩
noncomputable def s_HasNearUnanimity (K : Nat) (x : ((Int × Int × Unit) × Unit)) : Option (Bool × Int × Unit) :=
    (s_l01Is K (x.1, ())).bind fun y1 =>
    (if (!y1) = true then
    some (false, (1 : Int), ())
    else
    (s_l10Near K (x.1, ())).bind fun y2 =>
    some (y2, (0 : Int), ()))
noncomputable def rv_s_HasNearUnanimity : Lv := [(2, (.v .bool)), (3, (.v (.int .i64)))]
noncomputable def sg_s_HasNearUnanimity {R : Type} (K : Nat) (k : Nat) : List (Nat × SegS R) := []
noncomputable def su_s_HasNearUnanimity : List (Nat × Unit) := []
noncomputable def en_s_HasNearUnanimity {R : Type} (K : Nat) (k : Nat) : Env R := { L := lk [], X := lk [], S := lk (sg_s_HasNearUnanimity K k), rv := rv_s_HasNearUnanimity }
noncomputable def cf_s_HasNearUnanimity (K : Nat) : Cfg := { ty := lk tys, fn := lk [(98, sp_s_l01Is (s_l01Is K)), (107, sp_s_l10Near (s_l10Near K))], fs := lk [], prot := 0, nt := Try.f43.ntmps }
theorem e_s_HasNearUnanimity (K : Nat) (x : den as_s_HasNearUnanimity) : s_HasNearUnanimity K x = evFn (cf_s_HasNearUnanimity K) as_s_HasNearUnanimity [false] (.tup (.pair .bool (.pair (.int .i64) .unit))) (en_s_HasNearUnanimity K K) Try.f43.results.toList (bodyOf Try.f43) x := by kernel_rfl
theorem ok_s_HasNearUnanimity (K : Nat) : FnOk Try.prog 43 (sp_s_HasNearUnanimity (s_HasNearUnanimity K)) :=
  fn_ok (cf := cf_s_HasNearUnanimity K) (en := en_s_HasNearUnanimity K K) (c := bodyOf Try.f43) Try.func43 (by kernel_rfl) (by kernel_rfl) tysOk (fns_ok (l := [(98, sp_s_l01Is (s_l01Is K)), (107, sp_s_l10Near (s_l10Near K))]) ⟨ok_s_l01Is K, ⟨ok_s_l10Near K, trivial⟩⟩) (shs_ok (l := []) trivial) (by kernel_rfl) rfl (Nat.le_of_ble_eq_true (by kernel_rfl)) (by kernel_rfl) (of_decide_eq_true (by kernel_rfl)) (by decide) (fun C hP O => lpOk_of (en := en_s_HasNearUnanimity K K) (S := hasK su_s_HasNearUnanimity) (fun i => hasK_lk (sg_s_HasNearUnanimity K K) i) _ (by rw [show partsOf (hasK su_s_HasNearUnanimity) (bodyOf Try.f43) = [] from by kernel_rfl]; exact trivial)) (fun x y h => by rw [← e_s_HasNearUnanimity]; exact h)
noncomputable def as_s_l10Idem : Ty := (.pair (.st (.pair (.int .i64) (.pair (.int .i64) .unit))) .unit)
noncomputable def sp_s_l10Idem (F : ((Int × Int × Unit) × Unit) → Option Bool) : FnSpec := ⟨as_s_l10Idem, [false], .bool, F⟩
noncomputable def s_l10Idem (K : Nat) (x : ((Int × Int × Unit) × Unit)) : Option Bool :=
    (if (decide (x.1.1 > (0 : Int))) = true then
    (s_l01At K (x.1, (0 : Int), ())).bind fun y1 =>
    (if (decide (y1 = (0 : Int))) = true then
    (s_l01Rows K (x.1.1, ())).bind fun y2 =>
    (s_l01At K (x.1, (IntKind.i64.wrap (y2 - (1 : Int))), ())).bind fun y3 =>
    some (decide (y3 = (1 : Int)))
    else
    some false)
    else
    some false)
noncomputable def rv_s_l10Idem : Lv := [(2, (.v .bool))]
noncomputable def sg_s_l10Idem {R : Type} (K : Nat) (k : Nat) : List (Nat × SegS R) := []
noncomputable def su_s_l10Idem : List (Nat × Unit) := []
noncomputable def en_s_l10Idem {R : Type} (K : Nat) (k : Nat) : Env R := { L := lk [], X := lk [], S := lk (sg_s_l10Idem K k), rv := rv_s_l10Idem }
noncomputable def cf_s_l10Idem (K : Nat) : Cfg := { ty := lk tys, fn := lk [(105, sp_s_l01At (s_l01At K)), (154, sp_s_l01Rows (s_l01Rows K))], fs := lk [], prot := 0, nt := Try.f99.ntmps }
theorem e_s_l10Idem (K : Nat) (x : den as_s_l10Idem) : s_l10Idem K x = evFn (cf_s_l10Idem K) as_s_l10Idem [false] .bool (en_s_l10Idem K K) Try.f99.results.toList (bodyOf Try.f99) x := by kernel_rfl
theorem ok_s_l10Idem (K : Nat) : FnOk Try.prog 99 (sp_s_l10Idem (s_l10Idem K)) :=
  fn_ok (cf := cf_s_l10Idem K) (en := en_s_l10Idem K K) (c := bodyOf Try.f99) Try.func99 (by kernel_rfl) (by kernel_rfl) tysOk (fns_ok (l := [(105, sp_s_l01At (s_l01At K)), (154, sp_s_l01Rows (s_l01Rows K))]) ⟨ok_s_l01At K, ⟨ok_s_l01Rows K, trivial⟩⟩) (shs_ok (l := []) trivial) (by kernel_rfl) rfl (Nat.le_of_ble_eq_true (by kernel_rfl)) (by kernel_rfl) (of_decide_eq_true (by kernel_rfl)) (by decide) (fun C hP O => lpOk_of (en := en_s_l10Idem K K) (S := hasK su_s_l10Idem) (fun i => hasK_lk (sg_s_l10Idem K K) i) _ (by rw [show partsOf (hasK su_s_l10Idem) (bodyOf Try.f99) = [] from by kernel_rfl]; exact trivial)) (fun x y h => by rw [← e_s_l10Idem]; exact h)
noncomputable def as_s_IsIdempotent : Ty := (.pair (.st (.pair (.int .i64) (.pair (.int .i64) .unit))) .unit)
noncomputable def sp_s_IsIdempotent (F : ((Int × Int × Unit) × Unit) → Option (Bool × Int × Unit)) : FnSpec := ⟨as_s_IsIdempotent, [false], (.tup (.pair .bool (.pair (.int .i64) .unit))), F⟩
noncomputable def s_IsIdempotent (K : Nat) (x : ((Int × Int × Unit) × Unit)) : Option (Bool × Int × Unit) :=
    (s_l01Is K (x.1, ())).bind fun y1 =>
    (if (!y1) = true then
    some (false, (1 : Int), ())
    else
    (s_l10Idem K (x.1, ())).bind fun y2 =>
    some (y2, (0 : Int), ()))
noncomputable def rv_s_IsIdempotent : Lv := [(2, (.v .bool)), (3, (.v (.int .i64)))]
noncomputable def sg_s_IsIdempotent {R : Type} (K : Nat) (k : Nat) : List (Nat × SegS R) := []
noncomputable def su_s_IsIdempotent : List (Nat × Unit) := []
noncomputable def en_s_IsIdempotent {R : Type} (K : Nat) (k : Nat) : Env R := { L := lk [], X := lk [], S := lk (sg_s_IsIdempotent K k), rv := rv_s_IsIdempotent }
noncomputable def cf_s_IsIdempotent (K : Nat) : Cfg := { ty := lk tys, fn := lk [(98, sp_s_l01Is (s_l01Is K)), (99, sp_s_l10Idem (s_l10Idem K))], fs := lk [], prot := 0, nt := Try.f37.ntmps }
theorem e_s_IsIdempotent (K : Nat) (x : den as_s_IsIdempotent) : s_IsIdempotent K x = evFn (cf_s_IsIdempotent K) as_s_IsIdempotent [false] (.tup (.pair .bool (.pair (.int .i64) .unit))) (en_s_IsIdempotent K K) Try.f37.results.toList (bodyOf Try.f37) x := by kernel_rfl
theorem ok_s_IsIdempotent (K : Nat) : FnOk Try.prog 37 (sp_s_IsIdempotent (s_IsIdempotent K)) :=
  fn_ok (cf := cf_s_IsIdempotent K) (en := en_s_IsIdempotent K K) (c := bodyOf Try.f37) Try.func37 (by kernel_rfl) (by kernel_rfl) tysOk (fns_ok (l := [(98, sp_s_l01Is (s_l01Is K)), (99, sp_s_l10Idem (s_l10Idem K))]) ⟨ok_s_l01Is K, ⟨ok_s_l10Idem K, trivial⟩⟩) (shs_ok (l := []) trivial) (by kernel_rfl) rfl (Nat.le_of_ble_eq_true (by kernel_rfl)) (by kernel_rfl) (of_decide_eq_true (by kernel_rfl)) (by decide) (fun C hP O => lpOk_of (en := en_s_IsIdempotent K K) (S := hasK su_s_IsIdempotent) (fun i => hasK_lk (sg_s_IsIdempotent K K) i) _ (by rw [show partsOf (hasK su_s_IsIdempotent) (bodyOf Try.f37) = [] from by kernel_rfl]; exact trivial)) (fun x y h => by rw [← e_s_IsIdempotent]; exact h)
noncomputable def as_s_l10Code : Ty := (.pair (.int .i64) (.pair (.sl (.st (.pair (.int .i64) (.pair (.int .i64) .unit)))) .unit))
noncomputable def sp_s_l10Code (F : (Int × (List (Int × Int × Unit)) × Unit) → Option Int) : FnSpec := ⟨as_s_l10Code, [false, false], (.int .i64), F⟩
noncomputable def s_l10Code_l2 {R : Type} (K : Nat) : Nat → Int → (List (Int × Int × Unit)) → Int → (Int → Option R) → (Int → Option R) → Option R
  | 0, _, _, _, _, _ => none
  | k + 1, v0, v1, v5, kx0, kr =>
    (if (decide (v5 < (v1.length : Int))) = true then
    (if (bnds v5 (v1.length : Int)) = true then
    (s_l01Is K ((v1.getD v5.toNat ((0 : Int), (0 : Int), ())), ())).bind fun y1 =>
    (if (!y1) = true then
    kr (1 : Int)
    else
    s_l10Code_l2 K k v0 v1 (IntKind.i64.wrap (v5 + (1 : Int))) kx0 kr)
    else
    none)
    else
    kx0 v0)
noncomputable def s_l10Code (K : Nat) (x : (Int × (List (Int × Int × Unit)) × Unit)) : Option Int :=
    s_l10Code_l2 K K x.1 x.2.1 (0 : Int) (fun z2 =>
    (s_l01In K (z2, (0 : Int), (3 : Int), ())).bind fun y3 =>
    (if (!y3) = true then
    some (2 : Int)
    else
    some (0 : Int))) (fun z4 =>
    some z4)
noncomputable def lv_s_l10Code_L2 : Lv := [(0, (.v (.int .i64))), (1, (.v (.sl (.st (.pair (.int .i64) (.pair (.int .i64) .unit)))))), (5, (.v (.int .i64)))]
noncomputable def lv_s_l10Code_X0 : Lv := [(0, (.v (.int .i64)))]
noncomputable def rv_s_l10Code : Lv := [(4, (.v (.int .i64)))]
noncomputable def gs_l10Code_l2 {R : Type} (K : Nat) (k : Nat) (x : den lv_s_l10Code_L2.ty) (kx : Nat → St → Option R) (kr : St → Option R) : Option R := s_l10Code_l2 K k x.1 x.2.1 x.2.2.1 (fun z0 => kx 0 (mkSt lv_s_l10Code_X0 (z0, ()))) (fun z0 => kr (mkSt rv_s_l10Code (z0, ())))
noncomputable def sg_s_l10Code {R : Type} (K : Nat) (k : Nat) : List (Nat × SegS R) := []
noncomputable def su_s_l10Code : List (Nat × Unit) := []
noncomputable def en_s_l10Code {R : Type} (K : Nat) (k : Nat) : Env R := { L := lk [(2, mkLoop lv_s_l10Code_L2 (gs_l10Code_l2 K k))], X := lk [(0, lv_s_l10Code_X0)], S := lk (sg_s_l10Code K k), rv := rv_s_l10Code }
noncomputable def cf_s_l10Code (K : Nat) : Cfg := { ty := lk tys, fn := lk [(61, sp_s_l01In (s_l01In K)), (98, sp_s_l01Is (s_l01Is K))], fs := lk [], prot := 0, nt := Try.f74.ntmps }
noncomputable def c_s_l10Code_L2 : Code := nthC (partsOf (hasK su_s_l10Code) (bodyOf Try.f74)) 0
theorem es_l10Code_l2 {R : Type} (K : Nat) (k : Nat) (x : den lv_s_l10Code_L2.ty) (kx : Nat → St → Option R) (kr : St → Option R) : gs_l10Code_l2 K (k + 1) x kx kr = evC (cf_s_l10Code K) (en_s_l10Code K k) c_s_l10Code_L2 (mkSt lv_s_l10Code_L2 x) (fun s => mkLoop lv_s_l10Code_L2 (gs_l10Code_l2 K k) s kx kr) kx kr := by kernel_rfl
theorem ss_l10Code_l2 {R : Type} (K : Nat) (C : Cx) (hP : C.P = Try.prog) (O : CfgOk C (cf_s_l10Code K)) (k : Nat) : LpS C (R := R) (mkLoop lv_s_l10Code_L2 (gs_l10Code_l2 K k)) c_s_l10Code_L2 :=
  loop_sound O (by rw [hP]; kernel_rfl) (fun x kx kr => rfl) (es_l10Code_l2 K) (fun k => lpOk_of (en := en_s_l10Code K k) (S := hasK su_s_l10Code) (fun i => hasK_lk (sg_s_l10Code K k) i) _ (by rw [show partsOf (hasK su_s_l10Code) c_s_l10Code_L2 = [] from by kernel_rfl]; exact trivial)) k
theorem e_s_l10Code (K : Nat) (x : den as_s_l10Code) : s_l10Code K x = evFn (cf_s_l10Code K) as_s_l10Code [false, false] (.int .i64) (en_s_l10Code K K) Try.f74.results.toList (bodyOf Try.f74) x := by kernel_rfl
theorem ok_s_l10Code (K : Nat) : FnOk Try.prog 74 (sp_s_l10Code (s_l10Code K)) :=
  fn_ok (cf := cf_s_l10Code K) (en := en_s_l10Code K K) (c := bodyOf Try.f74) Try.func74 (by kernel_rfl) (by kernel_rfl) tysOk (fns_ok (l := [(61, sp_s_l01In (s_l01In K)), (98, sp_s_l01Is (s_l01Is K))]) ⟨ok_s_l01In K, ⟨ok_s_l01Is K, trivial⟩⟩) (shs_ok (l := []) trivial) (by kernel_rfl) rfl (Nat.le_of_ble_eq_true (by kernel_rfl)) (by kernel_rfl) (of_decide_eq_true (by kernel_rfl)) (by decide) (fun C hP O => lpOk_of (en := en_s_l10Code K K) (S := hasK su_s_l10Code) (fun i => hasK_lk (sg_s_l10Code K K) i) _ (by rw [show partsOf (hasK su_s_l10Code) (bodyOf Try.f74) = [(true, c_s_l10Code_L2)] from by kernel_rfl]; exact (lpL_loop (f := mkLoop lv_s_l10Code_L2 (gs_l10Code_l2 K K)) (by kernel_rfl) (ss_l10Code_l2 K C hP O K) trivial))) (fun x y h => by rw [← e_s_l10Code]; exact h)
noncomputable def as_s_l10Symmetric : Ty := (.pair (.st (.pair (.int .i64) (.pair (.int .i64) .unit))) .unit)
noncomputable def sp_s_l10Symmetric (F : ((Int × Int × Unit) × Unit) → Option Bool) : FnSpec := ⟨as_s_l10Symmetric, [false], .bool, F⟩
noncomputable def s_l10Symmetric_l5 {R : Type} (K : Nat) : Nat → (Int × Int × Unit) → Int → Int → ((Int × Int × Unit) → Int → Option R) → (Bool → Option R) → Option R
  | 0, _, _, _, _, _ => none
  | k + 1, v1, v3, v4, kx2, kr =>
    (if (decide (v4 < v3)) = true then
    (s_l10Weight K (v3, ())).bind fun y2 =>
    (s_l10Weight K (v4, ())).bind fun y3 =>
    (if (decide (y2 = y3)) = true then
    (s_l01At K (v1, v3, ())).bind fun y4 =>
    (s_l01At K (v1, v4, ())).bind fun y5 =>
    (if (!decide (y4 = y5)) = true then
    kr false
    else
    s_l10Symmetric_l5 K k v1 v3 (IntKind.i64.wrap (v4 + (1 : Int))) kx2 kr)
    else
    s_l10Symmetric_l5 K k v1 v3 (IntKind.i64.wrap (v4 + (1 : Int))) kx2 kr)
    else
    kx2 v1 v3)
noncomputable def s_l10Symmetric_l2 {R : Type} (K : Nat) : Nat → (Int × Int × Unit) → Int → (Option R) → (Bool → Option R) → Option R
  | 0, _, _, _, _ => none
  | k + 1, v1, v3, kx0, kr =>
    (s_l01Rows K (v1.1, ())).bind fun y1 =>
    (if (decide (v3 < y1)) = true then
    s_l10Symmetric_l5 K k v1 v3 (0 : Int) (fun z6 z7 =>
    s_l10Symmetric_l2 K k z6 (IntKind.i64.wrap (z7 + (1 : Int))) kx0 kr) (fun z8 =>
    kr z8)
    else
    kx0)
noncomputable def s_l10Symmetric (K : Nat) (x : ((Int × Int × Unit) × Unit)) : Option Bool :=
    s_l10Symmetric_l2 K K x.1 (0 : Int) (some true) (fun z9 =>
    some z9)
noncomputable def lv_s_l10Symmetric_L2 : Lv := [(1, (.bx (.v (.st (.pair (.int .i64) (.pair (.int .i64) .unit)))))), (3, (.v (.int .i64)))]
noncomputable def lv_s_l10Symmetric_L5 : Lv := [(1, (.bx (.v (.st (.pair (.int .i64) (.pair (.int .i64) .unit)))))), (3, (.v (.int .i64))), (4, (.v (.int .i64)))]
noncomputable def lv_s_l10Symmetric_X0 : Lv := []
noncomputable def lv_s_l10Symmetric_X2 : Lv := [(1, (.bx (.v (.st (.pair (.int .i64) (.pair (.int .i64) .unit)))))), (3, (.v (.int .i64)))]
noncomputable def rv_s_l10Symmetric : Lv := [(2, (.v .bool))]
noncomputable def gs_l10Symmetric_l5 {R : Type} (K : Nat) (k : Nat) (x : den lv_s_l10Symmetric_L5.ty) (kx : Nat → St → Option R) (kr : St → Option R) : Option R := s_l10Symmetric_l5 K k x.1 x.2.1 x.2.2.1 (fun z0 z1 => kx 2 (mkSt lv_s_l10Symmetric_X2 (z0, z1, ()))) (fun z0 => kr (mkSt rv_s_l10Symmetric (z0, ())))
noncomputable def gs_l10Symmetric_l2 {R : Type} (K : Nat) (k : Nat) (x : den lv_s_l10Symmetric_L2.ty) (kx : Nat → St → Option R) (kr : St → Option R) : Option R := s_l10Symmetric_l2 K k x.1 x.2.1 (kx 0 (mkSt lv_s_l10Symmetric_X0 ())) (fun z0 => kr (mkSt rv_s_l10Symmetric (z0, ())))
noncomputable def sg_s_l10Symmetric {R : Type} (K : Nat) (k : Nat) : List (Nat × SegS R) := []
noncomputable def su_s_l10Symmetric : List (Nat × Unit) := []
noncomputable def en_s_l10Symmetric {R : Type} (K : Nat) (k : Nat) : Env R := { L := lk [(5, mkLoop lv_s_l10Symmetric_L5 (gs_l10Symmetric_l5 K k)), (2, mkLoop lv_s_l10Symmetric_L2 (gs_l10Symmetric_l2 K k))], X := lk [(0, lv_s_l10Symmetric_X0), (2, lv_s_l10Symmetric_X2)], S := lk (sg_s_l10Symmetric K k), rv := rv_s_l10Symmetric }
noncomputable def cf_s_l10Symmetric (K : Nat) : Cfg := { ty := lk tys, fn := lk [(105, sp_s_l01At (s_l01At K)), (154, sp_s_l01Rows (s_l01Rows K)), (168, sp_s_l10Weight (s_l10Weight K))], fs := lk [], prot := 0, nt := Try.f101.ntmps }
noncomputable def c_s_l10Symmetric_L2 : Code := nthC (partsOf (hasK su_s_l10Symmetric) (bodyOf Try.f101)) 0
noncomputable def c_s_l10Symmetric_L5 : Code := nthC (partsOf (hasK su_s_l10Symmetric) c_s_l10Symmetric_L2) 0
theorem es_l10Symmetric_l5 {R : Type} (K : Nat) (k : Nat) (x : den lv_s_l10Symmetric_L5.ty) (kx : Nat → St → Option R) (kr : St → Option R) : gs_l10Symmetric_l5 K (k + 1) x kx kr = evC (cf_s_l10Symmetric K) (en_s_l10Symmetric K k) c_s_l10Symmetric_L5 (mkSt lv_s_l10Symmetric_L5 x) (fun s => mkLoop lv_s_l10Symmetric_L5 (gs_l10Symmetric_l5 K k) s kx kr) kx kr := by kernel_rfl
theorem ss_l10Symmetric_l5 {R : Type} (K : Nat) (C : Cx) (hP : C.P = Try.prog) (O : CfgOk C (cf_s_l10Symmetric K)) (k : Nat) : LpS C (R := R) (mkLoop lv_s_l10Symmetric_L5 (gs_l10Symmetric_l5 K k)) c_s_l10Symmetric_L5 :=
  loop_sound O (by rw [hP]; kernel_rfl) (fun x kx kr => rfl) (es_l10Symmetric_l5 K) (fun k => lpOk_of (en := en_s_l10Symmetric K k) (S := hasK su_s_l10Symmetric) (fun i => hasK_lk (sg_s_l10Symmetric K k) i) _ (by rw [show partsOf (hasK su_s_l10Symmetric) c_s_l10Symmetric_L5 = [] from by kernel_rfl]; exact trivial)) k
theorem es_l10Symmetric_l2 {R : Type} (K : Nat) (k : Nat) (x : den lv_s_l10Symmetric_L2.ty) (kx : Nat → St → Option R) (kr : St → Option R) : gs_l10Symmetric_l2 K (k + 1) x kx kr = evC (cf_s_l10Symmetric K) (en_s_l10Symmetric K k) c_s_l10Symmetric_L2 (mkSt lv_s_l10Symmetric_L2 x) (fun s => mkLoop lv_s_l10Symmetric_L2 (gs_l10Symmetric_l2 K k) s kx kr) kx kr := by kernel_rfl
theorem ss_l10Symmetric_l2 {R : Type} (K : Nat) (C : Cx) (hP : C.P = Try.prog) (O : CfgOk C (cf_s_l10Symmetric K)) (k : Nat) : LpS C (R := R) (mkLoop lv_s_l10Symmetric_L2 (gs_l10Symmetric_l2 K k)) c_s_l10Symmetric_L2 :=
  loop_sound O (by rw [hP]; kernel_rfl) (fun x kx kr => rfl) (es_l10Symmetric_l2 K) (fun k => lpOk_of (en := en_s_l10Symmetric K k) (S := hasK su_s_l10Symmetric) (fun i => hasK_lk (sg_s_l10Symmetric K k) i) _ (by rw [show partsOf (hasK su_s_l10Symmetric) c_s_l10Symmetric_L2 = [(true, c_s_l10Symmetric_L5)] from by kernel_rfl]; exact (lpL_loop (f := mkLoop lv_s_l10Symmetric_L5 (gs_l10Symmetric_l5 K k)) (by kernel_rfl) (ss_l10Symmetric_l5 K C hP O k) trivial))) k
theorem e_s_l10Symmetric (K : Nat) (x : den as_s_l10Symmetric) : s_l10Symmetric K x = evFn (cf_s_l10Symmetric K) as_s_l10Symmetric [false] .bool (en_s_l10Symmetric K K) Try.f101.results.toList (bodyOf Try.f101) x := by kernel_rfl
theorem ok_s_l10Symmetric (K : Nat) : FnOk Try.prog 101 (sp_s_l10Symmetric (s_l10Symmetric K)) :=
  fn_ok (cf := cf_s_l10Symmetric K) (en := en_s_l10Symmetric K K) (c := bodyOf Try.f101) Try.func101 (by kernel_rfl) (by kernel_rfl) tysOk (fns_ok (l := [(105, sp_s_l01At (s_l01At K)), (154, sp_s_l01Rows (s_l01Rows K)), (168, sp_s_l10Weight (s_l10Weight K))]) ⟨ok_s_l01At K, ⟨ok_s_l01Rows K, ⟨ok_s_l10Weight K, trivial⟩⟩⟩) (shs_ok (l := []) trivial) (by kernel_rfl) rfl (Nat.le_of_ble_eq_true (by kernel_rfl)) (by kernel_rfl) (of_decide_eq_true (by kernel_rfl)) (by decide) (fun C hP O => lpOk_of (en := en_s_l10Symmetric K K) (S := hasK su_s_l10Symmetric) (fun i => hasK_lk (sg_s_l10Symmetric K K) i) _ (by rw [show partsOf (hasK su_s_l10Symmetric) (bodyOf Try.f101) = [(true, c_s_l10Symmetric_L2)] from by kernel_rfl]; exact (lpL_loop (f := mkLoop lv_s_l10Symmetric_L2 (gs_l10Symmetric_l2 K K)) (by kernel_rfl) (ss_l10Symmetric_l2 K C hP O K) trivial))) (fun x y h => by rw [← e_s_l10Symmetric]; exact h)
noncomputable def as_s_l10Kind : Ty := (.pair (.st (.pair (.int .i64) (.pair (.int .i64) .unit))) (.pair (.int .i64) .unit))
noncomputable def sp_s_l10Kind (F : ((Int × Int × Unit) × Int × Unit) → Option Bool) : FnSpec := ⟨as_s_l10Kind, [false, false], .bool, F⟩
noncomputable def s_l10Kind_j10 {R : Type} (K : Nat) (k : Nat) (v1 : Int) (v2 : (Int × Int × Unit)) (v5 : Int) (v6 : Int) (kn : Int → (Int × Int × Unit) → Int → Int → Option R)  : Option R :=
    kn v1 v2 v5 (IntKind.i64.wrap (v6 + (1 : Int)))
noncomputable def s_l10Kind_l9 {R : Type} (K : Nat) : Nat → Int → (Int × Int × Unit) → Int → Int → (Int → (Int × Int × Unit) → Int → Option R) → (Bool → Option R) → Option R
  | 0, _, _, _, _, _, _ => none
  | k + 1, v1, v2, v5, v6, kx2, kr =>
    (if (decide (v6 < (2 : Int))) = true then
    let x3 := (IntKind.i64.wrap (v5 + (IntKind.i64.wrap ((2 : Int) * v5))))
    let x4 := (IntKind.i64.wrap (x3 + (IntKind.i64.wrap ((4 : Int) * v6))))
    (s_l01At K (v2, x4, ())).bind fun y5 =>
    let x6 := (IntKind.i64.wrap (v5 + (IntKind.i64.wrap ((2 : Int) * v6))))
    let x7 := (IntKind.i64.wrap (x6 + (IntKind.i64.wrap ((4 : Int) * v5))))
    (s_l01At K (v2, x7, ())).bind fun y8 =>
    let x9 := (IntKind.i64.wrap (v6 + (IntKind.i64.wrap ((2 : Int) * v5))))
    let x10 := (IntKind.i64.wrap (x9 + (IntKind.i64.wrap ((4 : Int) * v5))))
    (s_l01At K (v2, x10, ())).bind fun y11 =>
    (if (decide (v1 = (0 : Int))) = true then
    (if (!decide (y5 = v5)) = true then
    kr false
    else
    (if (!decide (y8 = v5)) = true then
    kr false
    else
    (if (!decide (y11 = v5)) = true then
    kr false
    else
    (if (decide (v1 = (1 : Int))) = true then
    (if (!decide (y5 = v6)) = true then
    kr false
    else
    (if (!decide (y8 = v6)) = true then
    kr false
    else
    (if (!decide (y11 = v6)) = true then
    kr false
    else
    (if (decide (v1 = (2 : Int))) = true then
    (if (!decide (y11 = v6)) = true then
    kr false
    else
    (if (!decide (y5 = v6)) = true then
    kr false
    else
    s_l10Kind_j10 K k v1 v2 v5 v6 (fun z12 z13 z14 z15 =>
    s_l10Kind_l9 K k z12 z13 z14 z15 kx2 kr)))
    else
    s_l10Kind_j10 K k v1 v2 v5 v6 (fun z16 z17 z18 z19 =>
    s_l10Kind_l9 K k z16 z17 z18 z19 kx2 kr)))))
    else
    (if (decide (v1 = (2 : Int))) = true then
    (if (!decide (y11 = v6)) = true then
    kr false
    else
    (if (!decide (y5 = v6)) = true then
    kr false
    else
    s_l10Kind_j10 K k v1 v2 v5 v6 (fun z20 z21 z22 z23 =>
    s_l10Kind_l9 K k z20 z21 z22 z23 kx2 kr)))
    else
    s_l10Kind_j10 K k v1 v2 v5 v6 (fun z24 z25 z26 z27 =>
    s_l10Kind_l9 K k z24 z25 z26 z27 kx2 kr))))))
    else
    (if (decide (v1 = (1 : Int))) = true then
    (if (!decide (y5 = v6)) = true then
    kr false
    else
    (if (!decide (y8 = v6)) = true then
    kr false
    else
    (if (!decide (y11 = v6)) = true then
    kr false
    else
    (if (decide (v1 = (2 : Int))) = true then
    (if (!decide (y11 = v6)) = true then
    kr false
    else
    (if (!decide (y5 = v6)) = true then
    kr false
    else
    s_l10Kind_j10 K k v1 v2 v5 v6 (fun z28 z29 z30 z31 =>
    s_l10Kind_l9 K k z28 z29 z30 z31 kx2 kr)))
    else
    s_l10Kind_j10 K k v1 v2 v5 v6 (fun z32 z33 z34 z35 =>
    s_l10Kind_l9 K k z32 z33 z34 z35 kx2 kr)))))
    else
    (if (decide (v1 = (2 : Int))) = true then
    (if (!decide (y11 = v6)) = true then
    kr false
    else
    (if (!decide (y5 = v6)) = true then
    kr false
    else
    s_l10Kind_j10 K k v1 v2 v5 v6 (fun z36 z37 z38 z39 =>
    s_l10Kind_l9 K k z36 z37 z38 z39 kx2 kr)))
    else
    s_l10Kind_j10 K k v1 v2 v5 v6 (fun z40 z41 z42 z43 =>
    s_l10Kind_l9 K k z40 z41 z42 z43 kx2 kr))))
    else
    kx2 v1 v2 v5)
noncomputable def s_l10Kind_l6 {R : Type} (K : Nat) : Nat → Int → (Int × Int × Unit) → Int → (Option R) → (Bool → Option R) → Option R
  | 0, _, _, _, _, _ => none
  | k + 1, v1, v2, v5, kx0, kr =>
    (if (decide (v5 < (2 : Int))) = true then
    s_l10Kind_l9 K k v1 v2 v5 (0 : Int) (fun z44 z45 z46 =>
    s_l10Kind_l6 K k z44 z45 (IntKind.i64.wrap (z46 + (1 : Int))) kx0 kr) (fun z47 =>
    kr z47)
    else
    kx0)
noncomputable def s_l10Kind (K : Nat) (x : ((Int × Int × Unit) × Int × Unit)) : Option Bool :=
    (if (!decide (x.1.1 = (3 : Int))) = true then
    some false
    else
    (if (decide (x.2.1 = (3 : Int))) = true then
    (s_l10Idem K (x.1, ())).bind fun y1 =>
    (if y1 = true then
    (s_l10Symmetric K (x.1, ())).bind fun y2 =>
    some y2
    else
    some false)
    else
    s_l10Kind_l6 K K x.2.1 x.1 (0 : Int) (some true) (fun z48 =>
    some z48)))
noncomputable def lv_s_l10Kind_J10 : Lv := [(1, (.v (.int .i64))), (2, (.bx (.v (.st (.pair (.int .i64) (.pair (.int .i64) .unit)))))), (5, (.v (.int .i64))), (6, (.v (.int .i64)))]
noncomputable def lv_s_l10Kind_L6 : Lv := [(1, (.v (.int .i64))), (2, (.bx (.v (.st (.pair (.int .i64) (.pair (.int .i64) .unit)))))), (5, (.v (.int .i64)))]
noncomputable def lv_s_l10Kind_L9 : Lv := [(1, (.v (.int .i64))), (2, (.bx (.v (.st (.pair (.int .i64) (.pair (.int .i64) .unit)))))), (5, (.v (.int .i64))), (6, (.v (.int .i64)))]
noncomputable def lv_s_l10Kind_N10 : Lv := [(1, (.v (.int .i64))), (2, (.bx (.v (.st (.pair (.int .i64) (.pair (.int .i64) .unit)))))), (5, (.v (.int .i64))), (6, (.v (.int .i64)))]
noncomputable def lv_s_l10Kind_X0 : Lv := []
noncomputable def lv_s_l10Kind_X2 : Lv := [(1, (.v (.int .i64))), (2, (.bx (.v (.st (.pair (.int .i64) (.pair (.int .i64) .unit)))))), (5, (.v (.int .i64)))]
noncomputable def rv_s_l10Kind : Lv := [(4, (.v .bool))]
noncomputable def gs_l10Kind_j10 {R : Type} (K : Nat) (k : Nat) (x : den lv_s_l10Kind_J10.ty) (kn : den lv_s_l10Kind_N10.ty → Option R) (kx : Nat → St → Option R) (kr : St → Option R) : Option R := s_l10Kind_j10 K k x.1 x.2.1 x.2.2.1 x.2.2.2.1 (fun z0 z1 z2 z3 => kn (z0, z1, z2, z3, ()))
noncomputable def gs_l10Kind_l9 {R : Type} (K : Nat) (k : Nat) (x : den lv_s_l10Kind_L9.ty) (kx : Nat → St → Option R) (kr : St → Option R) : Option R := s_l10Kind_l9 K k x.1 x.2.1 x.2.2.1 x.2.2.2.1 (fun z0 z1 z2 => kx 2 (mkSt lv_s_l10Kind_X2 (z0, z1, z2, ()))) (fun z0 => kr (mkSt rv_s_l10Kind (z0, ())))
noncomputable def gs_l10Kind_l6 {R : Type} (K : Nat) (k : Nat) (x : den lv_s_l10Kind_L6.ty) (kx : Nat → St → Option R) (kr : St → Option R) : Option R := s_l10Kind_l6 K k x.1 x.2.1 x.2.2.1 (kx 0 (mkSt lv_s_l10Kind_X0 ())) (fun z0 => kr (mkSt rv_s_l10Kind (z0, ())))
noncomputable def sg_s_l10Kind {R : Type} (K : Nat) (k : Nat) : List (Nat × SegS R) := [(10, mkSeg lv_s_l10Kind_J10 lv_s_l10Kind_N10 (gs_l10Kind_j10 K k))]
noncomputable def su_s_l10Kind : List (Nat × Unit) := [(10, ())]
noncomputable def en_s_l10Kind {R : Type} (K : Nat) (k : Nat) : Env R := { L := lk [(9, mkLoop lv_s_l10Kind_L9 (gs_l10Kind_l9 K k)), (6, mkLoop lv_s_l10Kind_L6 (gs_l10Kind_l6 K k))], X := lk [(0, lv_s_l10Kind_X0), (2, lv_s_l10Kind_X2)], S := lk (sg_s_l10Kind K k), rv := rv_s_l10Kind }
noncomputable def cf_s_l10Kind (K : Nat) : Cfg := { ty := lk tys, fn := lk [(99, sp_s_l10Idem (s_l10Idem K)), (101, sp_s_l10Symmetric (s_l10Symmetric K)), (105, sp_s_l01At (s_l01At K))], fs := lk [], prot := 0, nt := Try.f77.ntmps }
noncomputable def c_s_l10Kind_L6 : Code := nthC (partsOf (hasK su_s_l10Kind) (bodyOf Try.f77)) 0
noncomputable def c_s_l10Kind_L9 : Code := nthC (partsOf (hasK su_s_l10Kind) c_s_l10Kind_L6) 0
noncomputable def c_s_l10Kind_J10 : Code := nthC (partsOf (hasK su_s_l10Kind) c_s_l10Kind_L9) 0
theorem es_l10Kind_j10 {R : Type} (K : Nat) (k : Nat) (x : den lv_s_l10Kind_J10.ty) (kn : den lv_s_l10Kind_N10.ty → Option R) (kx : Nat → St → Option R) (kr : St → Option R) : gs_l10Kind_j10 K k x kn kx kr = evC (cf_s_l10Kind K) (en_s_l10Kind K k) c_s_l10Kind_J10 (mkSt lv_s_l10Kind_J10 x) (cutK lv_s_l10Kind_N10 kn) kx kr := by kernel_rfl
theorem ss_l10Kind_j10 {R : Type} (K : Nat) (C : Cx) (hP : C.P = Try.prog) (O : CfgOk C (cf_s_l10Kind K)) (k : Nat) : SgS C (R := R) (mkSeg lv_s_l10Kind_J10 lv_s_l10Kind_N10 (gs_l10Kind_j10 K k)) c_s_l10Kind_J10 :=
  seg_sound O (by rw [hP]; kernel_rfl) (es_l10Kind_j10 K k) (lpOk_of (en := en_s_l10Kind K k) (S := hasK su_s_l10Kind) (fun i => hasK_lk (sg_s_l10Kind K k) i) _ (by rw [show partsOf (hasK su_s_l10Kind) c_s_l10Kind_J10 = [] from by kernel_rfl]; exact trivial))
theorem es_l10Kind_l9 {R : Type} (K : Nat) (k : Nat) (x : den lv_s_l10Kind_L9.ty) (kx : Nat → St → Option R) (kr : St → Option R) : gs_l10Kind_l9 K (k + 1) x kx kr = evC (cf_s_l10Kind K) (en_s_l10Kind K k) c_s_l10Kind_L9 (mkSt lv_s_l10Kind_L9 x) (fun s => mkLoop lv_s_l10Kind_L9 (gs_l10Kind_l9 K k) s kx kr) kx kr := by kernel_rfl
theorem ss_l10Kind_l9 {R : Type} (K : Nat) (C : Cx) (hP : C.P = Try.prog) (O : CfgOk C (cf_s_l10Kind K)) (k : Nat) : LpS C (R := R) (mkLoop lv_s_l10Kind_L9 (gs_l10Kind_l9 K k)) c_s_l10Kind_L9 :=
  loop_sound O (by rw [hP]; kernel_rfl) (fun x kx kr => rfl) (es_l10Kind_l9 K) (fun k => lpOk_of (en := en_s_l10Kind K k) (S := hasK su_s_l10Kind) (fun i => hasK_lk (sg_s_l10Kind K k) i) _ (by rw [show partsOf (hasK su_s_l10Kind) c_s_l10Kind_L9 = [(false, c_s_l10Kind_J10)] from by kernel_rfl]; exact (lpL_seg (f := mkSeg lv_s_l10Kind_J10 lv_s_l10Kind_N10 (gs_l10Kind_j10 K k)) (by kernel_rfl) (ss_l10Kind_j10 K C hP O k) trivial))) k
theorem es_l10Kind_l6 {R : Type} (K : Nat) (k : Nat) (x : den lv_s_l10Kind_L6.ty) (kx : Nat → St → Option R) (kr : St → Option R) : gs_l10Kind_l6 K (k + 1) x kx kr = evC (cf_s_l10Kind K) (en_s_l10Kind K k) c_s_l10Kind_L6 (mkSt lv_s_l10Kind_L6 x) (fun s => mkLoop lv_s_l10Kind_L6 (gs_l10Kind_l6 K k) s kx kr) kx kr := by kernel_rfl
theorem ss_l10Kind_l6 {R : Type} (K : Nat) (C : Cx) (hP : C.P = Try.prog) (O : CfgOk C (cf_s_l10Kind K)) (k : Nat) : LpS C (R := R) (mkLoop lv_s_l10Kind_L6 (gs_l10Kind_l6 K k)) c_s_l10Kind_L6 :=
  loop_sound O (by rw [hP]; kernel_rfl) (fun x kx kr => rfl) (es_l10Kind_l6 K) (fun k => lpOk_of (en := en_s_l10Kind K k) (S := hasK su_s_l10Kind) (fun i => hasK_lk (sg_s_l10Kind K k) i) _ (by rw [show partsOf (hasK su_s_l10Kind) c_s_l10Kind_L6 = [(true, c_s_l10Kind_L9)] from by kernel_rfl]; exact (lpL_loop (f := mkLoop lv_s_l10Kind_L9 (gs_l10Kind_l9 K k)) (by kernel_rfl) (ss_l10Kind_l9 K C hP O k) trivial))) k
theorem e_s_l10Kind (K : Nat) (x : den as_s_l10Kind) : s_l10Kind K x = evFn (cf_s_l10Kind K) as_s_l10Kind [false, false] .bool (en_s_l10Kind K K) Try.f77.results.toList (bodyOf Try.f77) x := by kernel_rfl
theorem ok_s_l10Kind (K : Nat) : FnOk Try.prog 77 (sp_s_l10Kind (s_l10Kind K)) :=
  fn_ok (cf := cf_s_l10Kind K) (en := en_s_l10Kind K K) (c := bodyOf Try.f77) Try.func77 (by kernel_rfl) (by kernel_rfl) tysOk (fns_ok (l := [(99, sp_s_l10Idem (s_l10Idem K)), (101, sp_s_l10Symmetric (s_l10Symmetric K)), (105, sp_s_l01At (s_l01At K))]) ⟨ok_s_l10Idem K, ⟨ok_s_l10Symmetric K, ⟨ok_s_l01At K, trivial⟩⟩⟩) (shs_ok (l := []) trivial) (by kernel_rfl) rfl (Nat.le_of_ble_eq_true (by kernel_rfl)) (by kernel_rfl) (of_decide_eq_true (by kernel_rfl)) (by decide) (fun C hP O => lpOk_of (en := en_s_l10Kind K K) (S := hasK su_s_l10Kind) (fun i => hasK_lk (sg_s_l10Kind K K) i) _ (by rw [show partsOf (hasK su_s_l10Kind) (bodyOf Try.f77) = [(true, c_s_l10Kind_L6)] from by kernel_rfl]; exact (lpL_loop (f := mkLoop lv_s_l10Kind_L6 (gs_l10Kind_l6 K K)) (by kernel_rfl) (ss_l10Kind_l6 K C hP O K) trivial))) (fun x y h => by rw [← e_s_l10Kind]; exact h)
noncomputable def as_s_IsOfKind : Ty := (.pair (.st (.pair (.int .i64) (.pair (.int .i64) .unit))) (.pair (.int .i64) .unit))
noncomputable def sp_s_IsOfKind (F : ((Int × Int × Unit) × Int × Unit) → Option (Bool × Int × Unit)) : FnSpec := ⟨as_s_IsOfKind, [false, false], (.tup (.pair .bool (.pair (.int .i64) .unit))), F⟩
noncomputable def s_IsOfKind (K : Nat) (x : ((Int × Int × Unit) × Int × Unit)) : Option (Bool × Int × Unit) :=
    (s_l10Code K (x.2.1, [x.1], ())).bind fun y1 =>
    (if (!decide (y1 = (0 : Int))) = true then
    some (false, y1, ())
    else
    (s_l10Kind K (x.1, x.2.1, ())).bind fun y2 =>
    some (y2, (0 : Int), ()))
noncomputable def rv_s_IsOfKind : Lv := [(4, (.v .bool)), (5, (.v (.int .i64)))]
noncomputable def sg_s_IsOfKind {R : Type} (K : Nat) (k : Nat) : List (Nat × SegS R) := []
noncomputable def su_s_IsOfKind : List (Nat × Unit) := []
noncomputable def en_s_IsOfKind {R : Type} (K : Nat) (k : Nat) : Env R := { L := lk [], X := lk [], S := lk (sg_s_IsOfKind K k), rv := rv_s_IsOfKind }
noncomputable def cf_s_IsOfKind (K : Nat) : Cfg := { ty := lk tys, fn := lk [(74, sp_s_l10Code (s_l10Code K)), (77, sp_s_l10Kind (s_l10Kind K))], fs := lk [], prot := 0, nt := Try.f34.ntmps }
theorem e_s_IsOfKind (K : Nat) (x : den as_s_IsOfKind) : s_IsOfKind K x = evFn (cf_s_IsOfKind K) as_s_IsOfKind [false, false] (.tup (.pair .bool (.pair (.int .i64) .unit))) (en_s_IsOfKind K K) Try.f34.results.toList (bodyOf Try.f34) x := by kernel_rfl
theorem ok_s_IsOfKind (K : Nat) : FnOk Try.prog 34 (sp_s_IsOfKind (s_IsOfKind K)) :=
  fn_ok (cf := cf_s_IsOfKind K) (en := en_s_IsOfKind K K) (c := bodyOf Try.f34) Try.func34 (by kernel_rfl) (by kernel_rfl) tysOk (fns_ok (l := [(74, sp_s_l10Code (s_l10Code K)), (77, sp_s_l10Kind (s_l10Kind K))]) ⟨ok_s_l10Code K, ⟨ok_s_l10Kind K, trivial⟩⟩) (shs_ok (l := []) trivial) (by kernel_rfl) rfl (Nat.le_of_ble_eq_true (by kernel_rfl)) (by kernel_rfl) (of_decide_eq_true (by kernel_rfl)) (by decide) (fun C hP O => lpOk_of (en := en_s_IsOfKind K K) (S := hasK su_s_IsOfKind) (fun i => hasK_lk (sg_s_IsOfKind K K) i) _ (by rw [show partsOf (hasK su_s_IsOfKind) (bodyOf Try.f34) = [] from by kernel_rfl]; exact trivial)) (fun x y h => by rw [← e_s_IsOfKind]; exact h)
noncomputable def as_s_IsSemilattice : Ty := (.pair (.st (.pair (.int .i64) (.pair (.int .i64) .unit))) .unit)
noncomputable def sp_s_IsSemilattice (F : ((Int × Int × Unit) × Unit) → Option (Bool × Int × Unit)) : FnSpec := ⟨as_s_IsSemilattice, [false], (.tup (.pair .bool (.pair (.int .i64) .unit))), F⟩
noncomputable def s_IsSemilattice_l6 {R : Type} (K : Nat) : Nat → (Int × Int × Unit) → Int → (Option R) → (Bool → Int → Option R) → Option R
  | 0, _, _, _, _ => none
  | k + 1, v1, v4, kx0, kr =>
    (if (decide (v4 < (8 : Int))) = true then
    let x5 := (IntKind.i64.wrap ((bitI .and .i64 (shrI .i64 v4 (1 : Int)) (1 : Int)) + (IntKind.i64.wrap ((2 : Int) * (shrI .i64 v4 (2 : Int))))))
    (s_l01At K (v1, x5, ())).bind fun y6 =>
    let x7 := (IntKind.i64.wrap ((bitI .and .i64 v4 (1 : Int)) + (IntKind.i64.wrap ((2 : Int) * y6))))
    (s_l01At K (v1, x7, ())).bind fun y8 =>
    let x9 := (IntKind.i64.wrap ((2 : Int) * (bitI .and .i64 (shrI .i64 v4 (1 : Int)) (1 : Int))))
    (s_l01At K (v1, (IntKind.i64.wrap ((bitI .and .i64 v4 (1 : Int)) + x9)), ())).bind fun y10 =>
    let x11 := (IntKind.i64.wrap (y10 + (IntKind.i64.wrap ((2 : Int) * (shrI .i64 v4 (2 : Int))))))
    (s_l01At K (v1, x11, ())).bind fun y12 =>
    (if (!decide (y8 = y12)) = true then
    kr false (0 : Int)
    else
    s_IsSemilattice_l6 K k v1 (IntKind.i64.wrap (v4 + (1 : Int))) kx0 kr)
    else
    kx0)
noncomputable def s_IsSemilattice_j5 {R : Type} (K : Nat) (k : Nat) (v1 : (Int × Int × Unit)) (kn : Option R) (kr : (Bool → Int → Option R)) : Option R :=
    s_IsSemilattice_l6 K k v1 (0 : Int) (kr true (0 : Int)) (fun z13 z14 =>
    kr z13 z14)
noncomputable def s_IsSemilattice (K : Nat) (x : ((Int × Int × Unit) × Unit)) : Option (Bool × Int × Unit) :=
    (s_l01Is K (x.1, ())).bind fun y1 =>
    (if (!y1) = true then
    some (false, (1 : Int), ())
    else
    (if (!decide (x.1.1 = (2 : Int))) = true then
    some (false, (0 : Int), ())
    else
    (s_l10Idem K (x.1, ())).bind fun y2 =>
    (if (!y2) = true then
    some (false, (0 : Int), ())
    else
    (s_l01At K (x.1, (1 : Int), ())).bind fun y3 =>
    (s_l01At K (x.1, (2 : Int), ())).bind fun y4 =>
    (if (!decide (y3 = y4)) = true then
    some (false, (0 : Int), ())
    else
    s_IsSemilattice_j5 K K x.1 none (fun z15 z16 =>
    some (z15, z16, ()))))))
noncomputable def lv_s_IsSemilattice_J5 : Lv := [(1, (.bx (.v (.st (.pair (.int .i64) (.pair (.int .i64) .unit))))))]
noncomputable def lv_s_IsSemilattice_L6 : Lv := [(1, (.bx (.v (.st (.pair (.int .i64) (.pair (.int .i64) .unit)))))), (4, (.v (.int .i64)))]
noncomputable def lv_s_IsSemilattice_N5 : Lv := []
noncomputable def lv_s_IsSemilattice_X0 : Lv := []
noncomputable def rv_s_IsSemilattice : Lv := [(2, (.v .bool)), (3, (.v (.int .i64)))]
noncomputable def gs_IsSemilattice_l6 {R : Type} (K : Nat) (k : Nat) (x : den lv_s_IsSemilattice_L6.ty) (kx : Nat → St → Option R) (kr : St → Option R) : Option R := s_IsSemilattice_l6 K k x.1 x.2.1 (kx 0 (mkSt lv_s_IsSemilattice_X0 ())) (fun z0 z1 => kr (mkSt rv_s_IsSemilattice (z0, z1, ())))
noncomputable def gs_IsSemilattice_j5 {R : Type} (K : Nat) (k : Nat) (x : den lv_s_IsSemilattice_J5.ty) (kn : den lv_s_IsSemilattice_N5.ty → Option R) (kx : Nat → St → Option R) (kr : St → Option R) : Option R := s_IsSemilattice_j5 K k x.1 (kn ()) (fun z0 z1 => kr (mkSt rv_s_IsSemilattice (z0, z1, ())))
noncomputable def sg_s_IsSemilattice {R : Type} (K : Nat) (k : Nat) : List (Nat × SegS R) := [(5, mkSeg lv_s_IsSemilattice_J5 lv_s_IsSemilattice_N5 (gs_IsSemilattice_j5 K k))]
noncomputable def su_s_IsSemilattice : List (Nat × Unit) := [(5, ())]
noncomputable def en_s_IsSemilattice {R : Type} (K : Nat) (k : Nat) : Env R := { L := lk [(6, mkLoop lv_s_IsSemilattice_L6 (gs_IsSemilattice_l6 K k))], X := lk [(0, lv_s_IsSemilattice_X0)], S := lk (sg_s_IsSemilattice K k), rv := rv_s_IsSemilattice }
noncomputable def cf_s_IsSemilattice (K : Nat) : Cfg := { ty := lk tys, fn := lk [(98, sp_s_l01Is (s_l01Is K)), (99, sp_s_l10Idem (s_l10Idem K)), (105, sp_s_l01At (s_l01At K))], fs := lk [], prot := 0, nt := Try.f41.ntmps }
noncomputable def c_s_IsSemilattice_J5 : Code := nthC (partsOf (hasK su_s_IsSemilattice) (bodyOf Try.f41)) 0
noncomputable def c_s_IsSemilattice_L6 : Code := nthC (partsOf (hasK su_s_IsSemilattice) c_s_IsSemilattice_J5) 0
theorem es_IsSemilattice_l6 {R : Type} (K : Nat) (k : Nat) (x : den lv_s_IsSemilattice_L6.ty) (kx : Nat → St → Option R) (kr : St → Option R) : gs_IsSemilattice_l6 K (k + 1) x kx kr = evC (cf_s_IsSemilattice K) (en_s_IsSemilattice K k) c_s_IsSemilattice_L6 (mkSt lv_s_IsSemilattice_L6 x) (fun s => mkLoop lv_s_IsSemilattice_L6 (gs_IsSemilattice_l6 K k) s kx kr) kx kr := by kernel_rfl
theorem ss_IsSemilattice_l6 {R : Type} (K : Nat) (C : Cx) (hP : C.P = Try.prog) (O : CfgOk C (cf_s_IsSemilattice K)) (k : Nat) : LpS C (R := R) (mkLoop lv_s_IsSemilattice_L6 (gs_IsSemilattice_l6 K k)) c_s_IsSemilattice_L6 :=
  loop_sound O (by rw [hP]; kernel_rfl) (fun x kx kr => rfl) (es_IsSemilattice_l6 K) (fun k => lpOk_of (en := en_s_IsSemilattice K k) (S := hasK su_s_IsSemilattice) (fun i => hasK_lk (sg_s_IsSemilattice K k) i) _ (by rw [show partsOf (hasK su_s_IsSemilattice) c_s_IsSemilattice_L6 = [] from by kernel_rfl]; exact trivial)) k
theorem es_IsSemilattice_j5 {R : Type} (K : Nat) (k : Nat) (x : den lv_s_IsSemilattice_J5.ty) (kn : den lv_s_IsSemilattice_N5.ty → Option R) (kx : Nat → St → Option R) (kr : St → Option R) : gs_IsSemilattice_j5 K k x kn kx kr = evC (cf_s_IsSemilattice K) (en_s_IsSemilattice K k) c_s_IsSemilattice_J5 (mkSt lv_s_IsSemilattice_J5 x) (cutK lv_s_IsSemilattice_N5 kn) kx kr := by kernel_rfl
theorem ss_IsSemilattice_j5 {R : Type} (K : Nat) (C : Cx) (hP : C.P = Try.prog) (O : CfgOk C (cf_s_IsSemilattice K)) (k : Nat) : SgS C (R := R) (mkSeg lv_s_IsSemilattice_J5 lv_s_IsSemilattice_N5 (gs_IsSemilattice_j5 K k)) c_s_IsSemilattice_J5 :=
  seg_sound O (by rw [hP]; kernel_rfl) (es_IsSemilattice_j5 K k) (lpOk_of (en := en_s_IsSemilattice K k) (S := hasK su_s_IsSemilattice) (fun i => hasK_lk (sg_s_IsSemilattice K k) i) _ (by rw [show partsOf (hasK su_s_IsSemilattice) c_s_IsSemilattice_J5 = [(true, c_s_IsSemilattice_L6)] from by kernel_rfl]; exact (lpL_loop (f := mkLoop lv_s_IsSemilattice_L6 (gs_IsSemilattice_l6 K k)) (by kernel_rfl) (ss_IsSemilattice_l6 K C hP O k) trivial)))
theorem e_s_IsSemilattice (K : Nat) (x : den as_s_IsSemilattice) : s_IsSemilattice K x = evFn (cf_s_IsSemilattice K) as_s_IsSemilattice [false] (.tup (.pair .bool (.pair (.int .i64) .unit))) (en_s_IsSemilattice K K) Try.f41.results.toList (bodyOf Try.f41) x := by kernel_rfl
theorem ok_s_IsSemilattice (K : Nat) : FnOk Try.prog 41 (sp_s_IsSemilattice (s_IsSemilattice K)) :=
  fn_ok (cf := cf_s_IsSemilattice K) (en := en_s_IsSemilattice K K) (c := bodyOf Try.f41) Try.func41 (by kernel_rfl) (by kernel_rfl) tysOk (fns_ok (l := [(98, sp_s_l01Is (s_l01Is K)), (99, sp_s_l10Idem (s_l10Idem K)), (105, sp_s_l01At (s_l01At K))]) ⟨ok_s_l01Is K, ⟨ok_s_l10Idem K, ⟨ok_s_l01At K, trivial⟩⟩⟩) (shs_ok (l := []) trivial) (by kernel_rfl) rfl (Nat.le_of_ble_eq_true (by kernel_rfl)) (by kernel_rfl) (of_decide_eq_true (by kernel_rfl)) (by decide) (fun C hP O => lpOk_of (en := en_s_IsSemilattice K K) (S := hasK su_s_IsSemilattice) (fun i => hasK_lk (sg_s_IsSemilattice K K) i) _ (by rw [show partsOf (hasK su_s_IsSemilattice) (bodyOf Try.f41) = [(false, c_s_IsSemilattice_J5)] from by kernel_rfl]; exact (lpL_seg (f := mkSeg lv_s_IsSemilattice_J5 lv_s_IsSemilattice_N5 (gs_IsSemilattice_j5 K K)) (by kernel_rfl) (ss_IsSemilattice_j5 K C hP O K) trivial))) (fun x y h => by rw [← e_s_IsSemilattice]; exact h)
noncomputable def as_s_IsSymmetric : Ty := (.pair (.st (.pair (.int .i64) (.pair (.int .i64) .unit))) .unit)
noncomputable def sp_s_IsSymmetric (F : ((Int × Int × Unit) × Unit) → Option (Bool × Int × Unit)) : FnSpec := ⟨as_s_IsSymmetric, [false], (.tup (.pair .bool (.pair (.int .i64) .unit))), F⟩
noncomputable def s_IsSymmetric (K : Nat) (x : ((Int × Int × Unit) × Unit)) : Option (Bool × Int × Unit) :=
    (s_l01Is K (x.1, ())).bind fun y1 =>
    (if (!y1) = true then
    some (false, (1 : Int), ())
    else
    (s_l10Symmetric K (x.1, ())).bind fun y2 =>
    some (y2, (0 : Int), ()))
noncomputable def rv_s_IsSymmetric : Lv := [(2, (.v .bool)), (3, (.v (.int .i64)))]
noncomputable def sg_s_IsSymmetric {R : Type} (K : Nat) (k : Nat) : List (Nat × SegS R) := []
noncomputable def su_s_IsSymmetric : List (Nat × Unit) := []
noncomputable def en_s_IsSymmetric {R : Type} (K : Nat) (k : Nat) : Env R := { L := lk [], X := lk [], S := lk (sg_s_IsSymmetric K k), rv := rv_s_IsSymmetric }
noncomputable def cf_s_IsSymmetric (K : Nat) : Cfg := { ty := lk tys, fn := lk [(98, sp_s_l01Is (s_l01Is K)), (101, sp_s_l10Symmetric (s_l10Symmetric K))], fs := lk [], prot := 0, nt := Try.f39.ntmps }
theorem e_s_IsSymmetric (K : Nat) (x : den as_s_IsSymmetric) : s_IsSymmetric K x = evFn (cf_s_IsSymmetric K) as_s_IsSymmetric [false] (.tup (.pair .bool (.pair (.int .i64) .unit))) (en_s_IsSymmetric K K) Try.f39.results.toList (bodyOf Try.f39) x := by kernel_rfl
theorem ok_s_IsSymmetric (K : Nat) : FnOk Try.prog 39 (sp_s_IsSymmetric (s_IsSymmetric K)) :=
  fn_ok (cf := cf_s_IsSymmetric K) (en := en_s_IsSymmetric K K) (c := bodyOf Try.f39) Try.func39 (by kernel_rfl) (by kernel_rfl) tysOk (fns_ok (l := [(98, sp_s_l01Is (s_l01Is K)), (101, sp_s_l10Symmetric (s_l10Symmetric K))]) ⟨ok_s_l01Is K, ⟨ok_s_l10Symmetric K, trivial⟩⟩) (shs_ok (l := []) trivial) (by kernel_rfl) rfl (Nat.le_of_ble_eq_true (by kernel_rfl)) (by kernel_rfl) (of_decide_eq_true (by kernel_rfl)) (by decide) (fun C hP O => lpOk_of (en := en_s_IsSymmetric K K) (S := hasK su_s_IsSymmetric) (fun i => hasK_lk (sg_s_IsSymmetric K K) i) _ (by rw [show partsOf (hasK su_s_IsSymmetric) (bodyOf Try.f39) = [] from by kernel_rfl]; exact trivial)) (fun x y h => by rw [← e_s_IsSymmetric]; exact h)
end Go.Proofs.Ytckkagmccbkfbaa.E
