/-
  Plain lemmas: what the functions hand back, and that the statement holds of it. Conditions: those of each theorem.
-/
import Derived.Test.YtckkagmccbkfbaaCFnExactEasyClasses4
namespace Go.Proofs.Ytckkagmccbkfbaa.E
open Go Go.Proofs Go.Proofs.Ytckkagmccbkfbaa
set_option maxRecDepth 100000
set_option linter.unusedVariables false
noncomputable def as_w_markInt64S : Ty := (.pair (.sl (.int .i64)) (.pair (.int .i64) .unit))
noncomputable def sp_w_markInt64S (F : ((List Int) × Int × Unit) → Option (Int × ((List Int) × Unit))) : FnSpec := ⟨as_w_markInt64S, [true, false], (.pair (.int .i64) (.pair (.sl (.int .i64)) .unit)), F⟩
noncomputable def w_markInt64S_l2 {R : Type} (K : Nat) : Nat → (List Int) → Int → Int → ((List Int) → Int → Option R) → Option R
  | 0, _, _, _, _ => none
  | k + 1, v0, v1, v5, kx0 =>
    (if (decide (v5 < (v0.length : Int))) = true then
    (if (bnds v5 (v0.length : Int)) = true then
    let l1 := (v0.set v5.toNat v1)
    w_markInt64S_l2 K k l1 (IntKind.i64.wrap (v1 + (1 : Int))) (IntKind.i64.wrap (v5 + (1 : Int))) kx0
    else
    none)
    else
    kx0 v0 v1)
noncomputable def w_markInt64S (K : Nat) (x : ((List Int) × Int × Unit)) : Option (Int × ((List Int) × Unit)) :=
    w_markInt64S_l2 K K x.1 x.2.1 (0 : Int) (fun z2 z3 =>
    some (z3, (z2, ())))
noncomputable def lv_w_markInt64S_L2 : Lv := [(0, (.r (.int .i64))), (1, (.v (.int .i64))), (5, (.v (.int .i64)))]
noncomputable def lv_w_markInt64S_X0 : Lv := [(0, (.r (.int .i64))), (1, (.v (.int .i64)))]
noncomputable def rv_w_markInt64S : Lv := [(0, (.r (.int .i64))), (4, (.v (.int .i64)))]
noncomputable def gw_markInt64S_l2 {R : Type} (K : Nat) (k : Nat) (x : den lv_w_markInt64S_L2.ty) (kx : Nat → St → Option R) (kr : St → Option R) : Option R := w_markInt64S_l2 K k x.1 x.2.1 x.2.2.1 (fun z0 z1 => kx 0 (mkSt lv_w_markInt64S_X0 (z0, z1, ())))
noncomputable def sg_w_markInt64S {R : Type} (K : Nat) (k : Nat) : List (Nat × SegS R) := []
noncomputable def su_w_markInt64S : List (Nat × Unit) := []
noncomputable def en_w_markInt64S {R : Type} (K : Nat) (k : Nat) : Env R := { L := lk [(2, mkLoop lv_w_markInt64S_L2 (gw_markInt64S_l2 K k))], X := lk [(0, lv_w_markInt64S_X0)], S := lk (sg_w_markInt64S K k), rv := rv_w_markInt64S }
noncomputable def cf_w_markInt64S (K : Nat) : Cfg := { ty := lk tys, fn := lk [], prot := 1, nt := Try.f29.ntmps }
noncomputable def c_w_markInt64S_L2 : Code := nthC (partsOf (hasK su_w_markInt64S) (bodyOf Try.f29)) 0
theorem ew_markInt64S_l2 {R : Type} (K : Nat) (k : Nat) (x : den lv_w_markInt64S_L2.ty) (kx : Nat → St → Option R) (kr : St → Option R) : gw_markInt64S_l2 K (k + 1) x kx kr = evC (cf_w_markInt64S K) (en_w_markInt64S K k) c_w_markInt64S_L2 (mkSt lv_w_markInt64S_L2 x) (fun s => mkLoop lv_w_markInt64S_L2 (gw_markInt64S_l2 K k) s kx kr) kx kr := by kernel_rfl
theorem sw_markInt64S_l2 {R : Type} (K : Nat) (C : Cx) (hP : C.P = Try.prog) (O : CfgOk C (cf_w_markInt64S K)) (k : Nat) : LpS C (R := R) (mkLoop lv_w_markInt64S_L2 (gw_markInt64S_l2 K k)) c_w_markInt64S_L2 :=
  loop_sound O (by rw [hP]; kernel_rfl) (fun x kx kr => rfl) (ew_markInt64S_l2 K) (fun k => lpOk_of (en := en_w_markInt64S K k) (S := hasK su_w_markInt64S) (fun i => hasK_lk (sg_w_markInt64S K k) i) _ (by rw [show partsOf (hasK su_w_markInt64S) c_w_markInt64S_L2 = [] from by kernel_rfl]; exact trivial)) k
theorem e_w_markInt64S (K : Nat) (x : den as_w_markInt64S) : w_markInt64S K x = evFn (cf_w_markInt64S K) as_w_markInt64S [true, false] (.pair (.int .i64) (.pair (.sl (.int .i64)) .unit)) (en_w_markInt64S K K) Try.f29.results.toList (bodyOf Try.f29) x := by kernel_rfl
theorem ok_w_markInt64S (K : Nat) : FnOk Try.prog 29 (sp_w_markInt64S (w_markInt64S K)) :=
  fn_ok (cf := cf_w_markInt64S K) (en := en_w_markInt64S K K) (c := bodyOf Try.f29) Try.func29 (by kernel_rfl) (by kernel_rfl) tysOk (fns_ok (l := []) trivial) (by kernel_rfl) rfl (Nat.le_of_ble_eq_true (by kernel_rfl)) (by kernel_rfl) (of_decide_eq_true (by kernel_rfl)) (by decide) (fun C hP O => lpOk_of (en := en_w_markInt64S K K) (S := hasK su_w_markInt64S) (fun i => hasK_lk (sg_w_markInt64S K K) i) _ (by rw [show partsOf (hasK su_w_markInt64S) (bodyOf Try.f29) = [(true, c_w_markInt64S_L2)] from by kernel_rfl]; exact (lpL_loop (f := mkLoop lv_w_markInt64S_L2 (gw_markInt64S_l2 K K)) (by kernel_rfl) (sw_markInt64S_l2 K C hP O K) trivial))) (fun x y h => by rw [← e_w_markInt64S]; exact h)
noncomputable def as_w_markClauseS : Ty := (.pair (.sl (.st (.pair (.st (.pair (.int .i64) (.pair (.int .i64) .unit))) (.pair (.sl (.int .i64)) .unit)))) (.pair (.int .i64) .unit))
noncomputable def sp_w_markClauseS (F : ((List ((Int × Int × Unit) × (List Int) × Unit)) × Int × Unit) → Option (Int × ((List ((Int × Int × Unit) × (List Int) × Unit)) × Unit))) : FnSpec := ⟨as_w_markClauseS, [true, false], (.pair (.int .i64) (.pair (.sl (.st (.pair (.st (.pair (.int .i64) (.pair (.int .i64) .unit))) (.pair (.sl (.int .i64)) .unit)))) .unit)), F⟩
noncomputable def w_markClauseS_l2 {R : Type} (K : Nat) : Nat → (List ((Int × Int × Unit) × (List Int) × Unit)) → Int → Int → ((List ((Int × Int × Unit) × (List Int) × Unit)) → Int → Option R) → Option R
  | 0, _, _, _, _ => none
  | k + 1, v0, v1, v5, kx0 =>
    (if (decide (v5 < (v0.length : Int))) = true then
    (if (bnds v5 (v0.length : Int)) = true then
    let l1 := (v0.set v5.toNat ((v1, ((v0.getD v5.toNat (((0 : Int), (0 : Int), ()), ([] : List Int), ())).1).2.1, ()), (v0.getD v5.toNat (((0 : Int), (0 : Int), ()), ([] : List Int), ())).2.1, ()))
    (if (bnds v5 (l1.length : Int)) = true then
    let l2 := (l1.set v5.toNat ((((l1.getD v5.toNat (((0 : Int), (0 : Int), ()), ([] : List Int), ())).1).1, (IntKind.i64.wrap (v1 + (1 : Int))), ()), (l1.getD v5.toNat (((0 : Int), (0 : Int), ()), ([] : List Int), ())).2.1, ()))
    let x3 := (IntKind.i64.wrap ((IntKind.i64.wrap (v1 + (1 : Int))) + (1 : Int)))
    (if (bnds v5 (l2.length : Int)) = true then
    (w_markInt64S K ((l2.getD v5.toNat (((0 : Int), (0 : Int), ()), ([] : List Int), ())).2.1, x3, ())).bind fun y4 =>
    w_markClauseS_l2 K k (l2.set v5.toNat ((l2.getD v5.toNat (((0 : Int), (0 : Int), ()), ([] : List Int), ())).1, y4.2.1, ())) y4.1 (IntKind.i64.wrap (v5 + (1 : Int))) kx0
    else
    none)
    else
    none)
    else
    none)
    else
    kx0 v0 v1)
noncomputable def w_markClauseS (K : Nat) (x : ((List ((Int × Int × Unit) × (List Int) × Unit)) × Int × Unit)) : Option (Int × ((List ((Int × Int × Unit) × (List Int) × Unit)) × Unit)) :=
    w_markClauseS_l2 K K x.1 x.2.1 (0 : Int) (fun z5 z6 =>
    some (z6, (z5, ())))
noncomputable def lv_w_markClauseS_L2 : Lv := [(0, (.r (.st (.pair (.st (.pair (.int .i64) (.pair (.int .i64) .unit))) (.pair (.sl (.int .i64)) .unit))))), (1, (.v (.int .i64))), (5, (.v (.int .i64)))]
noncomputable def lv_w_markClauseS_X0 : Lv := [(0, (.r (.st (.pair (.st (.pair (.int .i64) (.pair (.int .i64) .unit))) (.pair (.sl (.int .i64)) .unit))))), (1, (.v (.int .i64)))]
noncomputable def rv_w_markClauseS : Lv := [(0, (.r (.st (.pair (.st (.pair (.int .i64) (.pair (.int .i64) .unit))) (.pair (.sl (.int .i64)) .unit))))), (4, (.v (.int .i64)))]
noncomputable def gw_markClauseS_l2 {R : Type} (K : Nat) (k : Nat) (x : den lv_w_markClauseS_L2.ty) (kx : Nat → St → Option R) (kr : St → Option R) : Option R := w_markClauseS_l2 K k x.1 x.2.1 x.2.2.1 (fun z0 z1 => kx 0 (mkSt lv_w_markClauseS_X0 (z0, z1, ())))
noncomputable def sg_w_markClauseS {R : Type} (K : Nat) (k : Nat) : List (Nat × SegS R) := []
noncomputable def su_w_markClauseS : List (Nat × Unit) := []
noncomputable def en_w_markClauseS {R : Type} (K : Nat) (k : Nat) : Env R := { L := lk [(2, mkLoop lv_w_markClauseS_L2 (gw_markClauseS_l2 K k))], X := lk [(0, lv_w_markClauseS_X0)], S := lk (sg_w_markClauseS K k), rv := rv_w_markClauseS }
noncomputable def cf_w_markClauseS (K : Nat) : Cfg := { ty := lk tys, fn := lk [(29, sp_w_markInt64S (w_markInt64S K))], prot := 1, nt := Try.f92.ntmps }
noncomputable def c_w_markClauseS_L2 : Code := nthC (partsOf (hasK su_w_markClauseS) (bodyOf Try.f92)) 0
theorem ew_markClauseS_l2 {R : Type} (K : Nat) (k : Nat) (x : den lv_w_markClauseS_L2.ty) (kx : Nat → St → Option R) (kr : St → Option R) : gw_markClauseS_l2 K (k + 1) x kx kr = evC (cf_w_markClauseS K) (en_w_markClauseS K k) c_w_markClauseS_L2 (mkSt lv_w_markClauseS_L2 x) (fun s => mkLoop lv_w_markClauseS_L2 (gw_markClauseS_l2 K k) s kx kr) kx kr := by kernel_rfl
theorem sw_markClauseS_l2 {R : Type} (K : Nat) (C : Cx) (hP : C.P = Try.prog) (O : CfgOk C (cf_w_markClauseS K)) (k : Nat) : LpS C (R := R) (mkLoop lv_w_markClauseS_L2 (gw_markClauseS_l2 K k)) c_w_markClauseS_L2 :=
  loop_sound O (by rw [hP]; kernel_rfl) (fun x kx kr => rfl) (ew_markClauseS_l2 K) (fun k => lpOk_of (en := en_w_markClauseS K k) (S := hasK su_w_markClauseS) (fun i => hasK_lk (sg_w_markClauseS K k) i) _ (by rw [show partsOf (hasK su_w_markClauseS) c_w_markClauseS_L2 = [] from by kernel_rfl]; exact trivial)) k
theorem e_w_markClauseS (K : Nat) (x : den as_w_markClauseS) : w_markClauseS K x = evFn (cf_w_markClauseS K) as_w_markClauseS [true, false] (.pair (.int .i64) (.pair (.sl (.st (.pair (.st (.pair (.int .i64) (.pair (.int .i64) .unit))) (.pair (.sl (.int .i64)) .unit)))) .unit)) (en_w_markClauseS K K) Try.f92.results.toList (bodyOf Try.f92) x := by kernel_rfl
theorem ok_w_markClauseS (K : Nat) : FnOk Try.prog 92 (sp_w_markClauseS (w_markClauseS K)) :=
  fn_ok (cf := cf_w_markClauseS K) (en := en_w_markClauseS K K) (c := bodyOf Try.f92) Try.func92 (by kernel_rfl) (by kernel_rfl) tysOk (fns_ok (l := [(29, sp_w_markInt64S (w_markInt64S K))]) ⟨ok_w_markInt64S K, trivial⟩) (by kernel_rfl) rfl (Nat.le_of_ble_eq_true (by kernel_rfl)) (by kernel_rfl) (of_decide_eq_true (by kernel_rfl)) (by decide) (fun C hP O => lpOk_of (en := en_w_markClauseS K K) (S := hasK su_w_markClauseS) (fun i => hasK_lk (sg_w_markClauseS K K) i) _ (by rw [show partsOf (hasK su_w_markClauseS) (bodyOf Try.f92) = [(true, c_w_markClauseS_L2)] from by kernel_rfl]; exact (lpL_loop (f := mkLoop lv_w_markClauseS_L2 (gw_markClauseS_l2 K K)) (by kernel_rfl) (sw_markClauseS_l2 K C hP O K) trivial))) (fun x y h => by rw [← e_w_markClauseS]; exact h)
noncomputable def as_w_markInstance : Ty := (.pair (.st (.pair (.int .i64) (.pair (.sl (.st (.pair (.st (.pair (.int .i64) (.pair (.int .i64) .unit))) (.pair (.sl (.int .i64)) .unit)))) .unit))) (.pair (.int .i64) .unit))
noncomputable def sp_w_markInstance (F : ((Int × (List ((Int × Int × Unit) × (List Int) × Unit)) × Unit) × Int × Unit) → Option (Int × ((Int × (List ((Int × Int × Unit) × (List Int) × Unit)) × Unit) × Unit))) : FnSpec := ⟨as_w_markInstance, [true, false], (.pair (.int .i64) (.pair (.st (.pair (.int .i64) (.pair (.sl (.st (.pair (.st (.pair (.int .i64) (.pair (.int .i64) .unit))) (.pair (.sl (.int .i64)) .unit)))) .unit))) .unit)), F⟩
noncomputable def w_markInstance (K : Nat) (x : ((Int × (List ((Int × Int × Unit) × (List Int) × Unit)) × Unit) × Int × Unit)) : Option (Int × ((Int × (List ((Int × Int × Unit) × (List Int) × Unit)) × Unit) × Unit)) :=
    (w_markClauseS K (x.1.2.1, x.2.1, ())).bind fun y1 =>
    some (y1.1, ((x.1.1, y1.2.1, ()), ()))
noncomputable def rv_w_markInstance : Lv := [(0, (.st (.pair (.v (.int .i64)) (.pair (.r (.st (.pair (.st (.pair (.int .i64) (.pair (.int .i64) .unit))) (.pair (.sl (.int .i64)) .unit)))) .unit)))), (4, (.v (.int .i64)))]
noncomputable def sg_w_markInstance {R : Type} (K : Nat) (k : Nat) : List (Nat × SegS R) := []
noncomputable def su_w_markInstance : List (Nat × Unit) := []
noncomputable def en_w_markInstance {R : Type} (K : Nat) (k : Nat) : Env R := { L := lk [], X := lk [], S := lk (sg_w_markInstance K k), rv := rv_w_markInstance }
noncomputable def cf_w_markInstance (K : Nat) : Cfg := { ty := lk tys, fn := lk [(92, sp_w_markClauseS (w_markClauseS K))], prot := 1, nt := Try.f28.ntmps }
theorem e_w_markInstance (K : Nat) (x : den as_w_markInstance) : w_markInstance K x = evFn (cf_w_markInstance K) as_w_markInstance [true, false] (.pair (.int .i64) (.pair (.st (.pair (.int .i64) (.pair (.sl (.st (.pair (.st (.pair (.int .i64) (.pair (.int .i64) .unit))) (.pair (.sl (.int .i64)) .unit)))) .unit))) .unit)) (en_w_markInstance K K) Try.f28.results.toList (bodyOf Try.f28) x := by kernel_rfl
theorem ok_w_markInstance (K : Nat) : FnOk Try.prog 28 (sp_w_markInstance (w_markInstance K)) :=
  fn_ok (cf := cf_w_markInstance K) (en := en_w_markInstance K K) (c := bodyOf Try.f28) Try.func28 (by kernel_rfl) (by kernel_rfl) tysOk (fns_ok (l := [(92, sp_w_markClauseS (w_markClauseS K))]) ⟨ok_w_markClauseS K, trivial⟩) (by kernel_rfl) rfl (Nat.le_of_ble_eq_true (by kernel_rfl)) (by kernel_rfl) (of_decide_eq_true (by kernel_rfl)) (by decide) (fun C hP O => lpOk_of (en := en_w_markInstance K K) (S := hasK su_w_markInstance) (fun i => hasK_lk (sg_w_markInstance K K) i) _ (by rw [show partsOf (hasK su_w_markInstance) (bodyOf Try.f28) = [] from by kernel_rfl]; exact trivial)) (fun x y h => by rw [← e_w_markInstance]; exact h)
noncomputable def as_w_heldInt64S : Ty := (.pair (.sl (.int .i64)) (.pair (.int .i64) .unit))
noncomputable def sp_w_heldInt64S (F : ((List Int) × Int × Unit) → Option Int) : FnSpec := ⟨as_w_heldInt64S, [false, false], (.int .i64), F⟩
noncomputable def w_heldInt64S_l2 {R : Type} (K : Nat) : Nat → (List Int) → Int → Int → (Int → Option R) → (Int → Option R) → Option R
  | 0, _, _, _, _, _ => none
  | k + 1, v0, v1, v5, kx0, kr =>
    (if (decide (v5 < (v0.length : Int))) = true then
    (if (bnds v5 (v0.length : Int)) = true then
    (if (!decide ((v0.getD v5.toNat (0 : Int)) = v1)) = true then
    kr (-1 : Int)
    else
    w_heldInt64S_l2 K k v0 (IntKind.i64.wrap (v1 + (1 : Int))) (IntKind.i64.wrap (v5 + (1 : Int))) kx0 kr)
    else
    none)
    else
    kx0 v1)
noncomputable def w_heldInt64S (K : Nat) (x : ((List Int) × Int × Unit)) : Option Int :=
    w_heldInt64S_l2 K K x.1 x.2.1 (0 : Int) (fun z1 =>
    some z1) (fun z2 =>
    some z2)
noncomputable def lv_w_heldInt64S_L2 : Lv := [(0, (.v (.sl (.int .i64)))), (1, (.v (.int .i64))), (5, (.v (.int .i64)))]
noncomputable def lv_w_heldInt64S_X0 : Lv := [(1, (.v (.int .i64)))]
noncomputable def rv_w_heldInt64S : Lv := [(4, (.v (.int .i64)))]
noncomputable def gw_heldInt64S_l2 {R : Type} (K : Nat) (k : Nat) (x : den lv_w_heldInt64S_L2.ty) (kx : Nat → St → Option R) (kr : St → Option R) : Option R := w_heldInt64S_l2 K k x.1 x.2.1 x.2.2.1 (fun z0 => kx 0 (mkSt lv_w_heldInt64S_X0 (z0, ()))) (fun z0 => kr (mkSt rv_w_heldInt64S (z0, ())))
noncomputable def sg_w_heldInt64S {R : Type} (K : Nat) (k : Nat) : List (Nat × SegS R) := []
noncomputable def su_w_heldInt64S : List (Nat × Unit) := []
noncomputable def en_w_heldInt64S {R : Type} (K : Nat) (k : Nat) : Env R := { L := lk [(2, mkLoop lv_w_heldInt64S_L2 (gw_heldInt64S_l2 K k))], X := lk [(0, lv_w_heldInt64S_X0)], S := lk (sg_w_heldInt64S K k), rv := rv_w_heldInt64S }
noncomputable def cf_w_heldInt64S (K : Nat) : Cfg := { ty := lk tys, fn := lk [], prot := 0, nt := Try.f30.ntmps }
noncomputable def c_w_heldInt64S_L2 : Code := nthC (partsOf (hasK su_w_heldInt64S) (bodyOf Try.f30)) 0
theorem ew_heldInt64S_l2 {R : Type} (K : Nat) (k : Nat) (x : den lv_w_heldInt64S_L2.ty) (kx : Nat → St → Option R) (kr : St → Option R) : gw_heldInt64S_l2 K (k + 1) x kx kr = evC (cf_w_heldInt64S K) (en_w_heldInt64S K k) c_w_heldInt64S_L2 (mkSt lv_w_heldInt64S_L2 x) (fun s => mkLoop lv_w_heldInt64S_L2 (gw_heldInt64S_l2 K k) s kx kr) kx kr := by kernel_rfl
theorem sw_heldInt64S_l2 {R : Type} (K : Nat) (C : Cx) (hP : C.P = Try.prog) (O : CfgOk C (cf_w_heldInt64S K)) (k : Nat) : LpS C (R := R) (mkLoop lv_w_heldInt64S_L2 (gw_heldInt64S_l2 K k)) c_w_heldInt64S_L2 :=
  loop_sound O (by rw [hP]; kernel_rfl) (fun x kx kr => rfl) (ew_heldInt64S_l2 K) (fun k => lpOk_of (en := en_w_heldInt64S K k) (S := hasK su_w_heldInt64S) (fun i => hasK_lk (sg_w_heldInt64S K k) i) _ (by rw [show partsOf (hasK su_w_heldInt64S) c_w_heldInt64S_L2 = [] from by kernel_rfl]; exact trivial)) k
theorem e_w_heldInt64S (K : Nat) (x : den as_w_heldInt64S) : w_heldInt64S K x = evFn (cf_w_heldInt64S K) as_w_heldInt64S [false, false] (.int .i64) (en_w_heldInt64S K K) Try.f30.results.toList (bodyOf Try.f30) x := by kernel_rfl
theorem ok_w_heldInt64S (K : Nat) : FnOk Try.prog 30 (sp_w_heldInt64S (w_heldInt64S K)) :=
  fn_ok (cf := cf_w_heldInt64S K) (en := en_w_heldInt64S K K) (c := bodyOf Try.f30) Try.func30 (by kernel_rfl) (by kernel_rfl) tysOk (fns_ok (l := []) trivial) (by kernel_rfl) rfl (Nat.le_of_ble_eq_true (by kernel_rfl)) (by kernel_rfl) (of_decide_eq_true (by kernel_rfl)) (by decide) (fun C hP O => lpOk_of (en := en_w_heldInt64S K K) (S := hasK su_w_heldInt64S) (fun i => hasK_lk (sg_w_heldInt64S K K) i) _ (by rw [show partsOf (hasK su_w_heldInt64S) (bodyOf Try.f30) = [(true, c_w_heldInt64S_L2)] from by kernel_rfl]; exact (lpL_loop (f := mkLoop lv_w_heldInt64S_L2 (gw_heldInt64S_l2 K K)) (by kernel_rfl) (sw_heldInt64S_l2 K C hP O K) trivial))) (fun x y h => by rw [← e_w_heldInt64S]; exact h)
noncomputable def as_w_FnExactEasyClasses : Ty := (.pair (.st (.pair (.int .i64) (.pair (.sl (.st (.pair (.st (.pair (.int .i64) (.pair (.int .i64) .unit))) (.pair (.sl (.int .i64)) .unit)))) .unit))) .unit)
noncomputable def sp_w_FnExactEasyClasses (F : ((Int × (List ((Int × Int × Unit) × (List Int) × Unit)) × Unit) × Unit) → Option Bool) : FnSpec := ⟨as_w_FnExactEasyClasses, [false], .bool, F⟩
noncomputable def w_FnExactEasyClasses_j27 {R : Type} (K : Nat) (k : Nat) (v7 : (List Int)) (v10 : Int) (kn : Option R) (kr : (Bool → Option R)) : Option R :=
    (w_heldInt64S K (v7, (1 : Int), ())).bind fun y16 =>
    (if (decide (y16 < (0 : Int))) = true then
    kr false
    else
    (if (!decide (y16 = v10)) = true then
    kr false
    else
    kr true))
noncomputable def w_FnExactEasyClasses_j16 {R : Type} (K : Nat) (k : Nat) (v1 : (Int × (List ((Int × Int × Unit) × (List Int) × Unit)) × Unit)) (v4 : (List Int)) (v5 : Int) (v7 : (List Int)) (kn : Option R) (kr : (Bool → Option R)) : Option R :=
    (w_markInt64S K (v7, (1 : Int), ())).bind fun y11 =>
    (w_heldInt64S K (y11.2.1, (1 : Int), ())).bind fun y12 =>
    (if (decide (y12 < (0 : Int))) = true then
    kr false
    else
    (if (!decide (y12 = y11.1)) = true then
    kr false
    else
    (w_toInstance K (v1, ())).bind fun y13 =>
    (i_EasyClasses K ((y13.1, y13.2.1, ()), ())).bind fun y14 =>
    (w_eqInt64S K (y14.1, v4, ())).bind fun y15 =>
    (if (!y15) = true then
    kr false
    else
    (if (!decide (y14.2.1 = v5)) = true then
    kr false
    else
    w_FnExactEasyClasses_j27 K k y11.2.1 y11.1 none (fun z17 =>
    kr z17)))))
noncomputable def w_FnExactEasyClasses_j10 {R : Type} (K : Nat) (k : Nat) (v1 : (Int × (List ((Int × Int × Unit) × (List Int) × Unit)) × Unit)) (v4 : (List Int)) (v5 : Int) (v6_0 : Int) (v6_1 : (List ((Int × Int × Unit) × (List Int) × Unit))) (v7 : (List Int)) (v8 : Int) (kn : Option R) (kr : (Bool → Option R)) : Option R :=
    (w_toInstance K (v1, ())).bind fun y7 =>
    (w_eqInstance K ((v6_0, v6_1, ()), (y7.1, y7.2.1, ()), ())).bind fun y8 =>
    (if (!y8) = true then
    kr false
    else
    (w_markInstance K ((v6_0, v6_1, ()), (1 : Int), ())).bind fun y9 =>
    (if (decide (y9.1 < (0 : Int))) = true then
    kr false
    else
    (w_eqInt64S K (v7, v4, ())).bind fun y10 =>
    (if (!y10) = true then
    kr false
    else
    (if (!decide (v8 = v5)) = true then
    kr false
    else
    w_FnExactEasyClasses_j16 K k v1 v4 v5 v7 none (fun z18 =>
    kr z18)))))
noncomputable def w_FnExactEasyClasses (K : Nat) (x : ((Int × (List ((Int × Int × Unit) × (List Int) × Unit)) × Unit) × Unit)) : Option Bool :=
    (w_szInstance K (x.1, (1048576 : Int), ())).bind fun y1 =>
    (if (decide (y1 < (0 : Int))) = true then
    some true
    else
    (w_toInstance K (x.1, ())).bind fun y2 =>
    (s_EasyClasses K ((y2.1, y2.2.1, ()), ())).bind fun y3 =>
    (w_toInstance K (x.1, ())).bind fun y4 =>
    (i_EasyClasses K ((y4.1, y4.2.1, ()), ())).bind fun y5 =>
    (w_eqInt64S K (y5.1, y3.1, ())).bind fun y6 =>
    (if (!y6) = true then
    some false
    else
    (if (!decide (y5.2.1 = y3.2.1)) = true then
    some false
    else
    w_FnExactEasyClasses_j10 K K x.1 y3.1 y3.2.1 y4.1 y4.2.1 y5.1 y5.2.1 none (fun z19 =>
    some z19))))
noncomputable def lv_w_FnExactEasyClasses_J10 : Lv := [(1, (.bx (.v (.st (.pair (.int .i64) (.pair (.sl (.st (.pair (.st (.pair (.int .i64) (.pair (.int .i64) .unit))) (.pair (.sl (.int .i64)) .unit)))) .unit)))))), (4, (.r (.int .i64))), (5, (.v (.int .i64))), (6, (.bx (.st (.pair (.v (.int .i64)) (.pair (.r (.st (.pair (.st (.pair (.int .i64) (.pair (.int .i64) .unit))) (.pair (.sl (.int .i64)) .unit)))) .unit))))), (7, (.r (.int .i64))), (8, (.v (.int .i64)))]
noncomputable def lv_w_FnExactEasyClasses_J16 : Lv := [(1, (.bx (.v (.st (.pair (.int .i64) (.pair (.sl (.st (.pair (.st (.pair (.int .i64) (.pair (.int .i64) .unit))) (.pair (.sl (.int .i64)) .unit)))) .unit)))))), (4, (.r (.int .i64))), (5, (.v (.int .i64))), (7, (.r (.int .i64)))]
noncomputable def lv_w_FnExactEasyClasses_J27 : Lv := [(7, (.r (.int .i64))), (10, (.v (.int .i64)))]
noncomputable def lv_w_FnExactEasyClasses_N10 : Lv := []
noncomputable def lv_w_FnExactEasyClasses_N16 : Lv := []
noncomputable def lv_w_FnExactEasyClasses_N27 : Lv := []
noncomputable def rv_w_FnExactEasyClasses : Lv := [(2, (.v .bool))]
noncomputable def gw_FnExactEasyClasses_j27 {R : Type} (K : Nat) (k : Nat) (x : den lv_w_FnExactEasyClasses_J27.ty) (kn : den lv_w_FnExactEasyClasses_N27.ty → Option R) (kx : Nat → St → Option R) (kr : St → Option R) : Option R := w_FnExactEasyClasses_j27 K k x.1 x.2.1 (kn ()) (fun z0 => kr (mkSt rv_w_FnExactEasyClasses (z0, ())))
noncomputable def gw_FnExactEasyClasses_j16 {R : Type} (K : Nat) (k : Nat) (x : den lv_w_FnExactEasyClasses_J16.ty) (kn : den lv_w_FnExactEasyClasses_N16.ty → Option R) (kx : Nat → St → Option R) (kr : St → Option R) : Option R := w_FnExactEasyClasses_j16 K k x.1 x.2.1 x.2.2.1 x.2.2.2.1 (kn ()) (fun z0 => kr (mkSt rv_w_FnExactEasyClasses (z0, ())))
noncomputable def gw_FnExactEasyClasses_j10 {R : Type} (K : Nat) (k : Nat) (x : den lv_w_FnExactEasyClasses_J10.ty) (kn : den lv_w_FnExactEasyClasses_N10.ty → Option R) (kx : Nat → St → Option R) (kr : St → Option R) : Option R := w_FnExactEasyClasses_j10 K k x.1 x.2.1 x.2.2.1 x.2.2.2.1.1 x.2.2.2.1.2.1 x.2.2.2.2.1 x.2.2.2.2.2.1 (kn ()) (fun z0 => kr (mkSt rv_w_FnExactEasyClasses (z0, ())))
noncomputable def sg_w_FnExactEasyClasses {R : Type} (K : Nat) (k : Nat) : List (Nat × SegS R) := [(27, mkSeg lv_w_FnExactEasyClasses_J27 lv_w_FnExactEasyClasses_N27 (gw_FnExactEasyClasses_j27 K k)), (16, mkSeg lv_w_FnExactEasyClasses_J16 lv_w_FnExactEasyClasses_N16 (gw_FnExactEasyClasses_j16 K k)), (10, mkSeg lv_w_FnExactEasyClasses_J10 lv_w_FnExactEasyClasses_N10 (gw_FnExactEasyClasses_j10 K k))]
noncomputable def su_w_FnExactEasyClasses : List (Nat × Unit) := [(27, ()), (16, ()), (10, ())]
noncomputable def en_w_FnExactEasyClasses {R : Type} (K : Nat) (k : Nat) : Env R := { L := lk [], X := lk [], S := lk (sg_w_FnExactEasyClasses K k), rv := rv_w_FnExactEasyClasses }
noncomputable def cf_w_FnExactEasyClasses (K : Nat) : Cfg := { ty := lk tys, fn := lk [(22, sp_w_szInstance (w_szInstance K)), (23, sp_s_EasyClasses (s_EasyClasses K)), (24, sp_w_toInstance (w_toInstance K)), (25, sp_i_EasyClasses (i_EasyClasses K)), (26, sp_w_eqInt64S (w_eqInt64S K)), (27, sp_w_eqInstance (w_eqInstance K)), (28, sp_w_markInstance (w_markInstance K)), (29, sp_w_markInt64S (w_markInt64S K)), (30, sp_w_heldInt64S (w_heldInt64S K))], prot := 0, nt := Try.f6.ntmps }
noncomputable def c_w_FnExactEasyClasses_J10 : Code := nthC (partsOf (hasK su_w_FnExactEasyClasses) (bodyOf Try.f6)) 0
noncomputable def c_w_FnExactEasyClasses_J16 : Code := nthC (partsOf (hasK su_w_FnExactEasyClasses) c_w_FnExactEasyClasses_J10) 0
noncomputable def c_w_FnExactEasyClasses_J27 : Code := nthC (partsOf (hasK su_w_FnExactEasyClasses) c_w_FnExactEasyClasses_J16) 0
theorem ew_FnExactEasyClasses_j27 {R : Type} (K : Nat) (k : Nat) (x : den lv_w_FnExactEasyClasses_J27.ty) (kn : den lv_w_FnExactEasyClasses_N27.ty → Option R) (kx : Nat → St → Option R) (kr : St → Option R) : gw_FnExactEasyClasses_j27 K k x kn kx kr = evC (cf_w_FnExactEasyClasses K) (en_w_FnExactEasyClasses K k) c_w_FnExactEasyClasses_J27 (mkSt lv_w_FnExactEasyClasses_J27 x) (cutK lv_w_FnExactEasyClasses_N27 kn) kx kr := by kernel_rfl
theorem sw_FnExactEasyClasses_j27 {R : Type} (K : Nat) (C : Cx) (hP : C.P = Try.prog) (O : CfgOk C (cf_w_FnExactEasyClasses K)) (k : Nat) : SgS C (R := R) (mkSeg lv_w_FnExactEasyClasses_J27 lv_w_FnExactEasyClasses_N27 (gw_FnExactEasyClasses_j27 K k)) c_w_FnExactEasyClasses_J27 :=
  seg_sound O (by rw [hP]; kernel_rfl) (ew_FnExactEasyClasses_j27 K k) (lpOk_of (en := en_w_FnExactEasyClasses K k) (S := hasK su_w_FnExactEasyClasses) (fun i => hasK_lk (sg_w_FnExactEasyClasses K k) i) _ (by rw [show partsOf (hasK su_w_FnExactEasyClasses) c_w_FnExactEasyClasses_J27 = [] from by kernel_rfl]; exact trivial))
theorem ew_FnExactEasyClasses_j16 {R : Type} (K : Nat) (k : Nat) (x : den lv_w_FnExactEasyClasses_J16.ty) (kn : den lv_w_FnExactEasyClasses_N16.ty → Option R) (kx : Nat → St → Option R) (kr : St → Option R) : gw_FnExactEasyClasses_j16 K k x kn kx kr = evC (cf_w_FnExactEasyClasses K) (en_w_FnExactEasyClasses K k) c_w_FnExactEasyClasses_J16 (mkSt lv_w_FnExactEasyClasses_J16 x) (cutK lv_w_FnExactEasyClasses_N16 kn) kx kr := by kernel_rfl
theorem sw_FnExactEasyClasses_j16 {R : Type} (K : Nat) (C : Cx) (hP : C.P = Try.prog) (O : CfgOk C (cf_w_FnExactEasyClasses K)) (k : Nat) : SgS C (R := R) (mkSeg lv_w_FnExactEasyClasses_J16 lv_w_FnExactEasyClasses_N16 (gw_FnExactEasyClasses_j16 K k)) c_w_FnExactEasyClasses_J16 :=
  seg_sound O (by rw [hP]; kernel_rfl) (ew_FnExactEasyClasses_j16 K k) (lpOk_of (en := en_w_FnExactEasyClasses K k) (S := hasK su_w_FnExactEasyClasses) (fun i => hasK_lk (sg_w_FnExactEasyClasses K k) i) _ (by rw [show partsOf (hasK su_w_FnExactEasyClasses) c_w_FnExactEasyClasses_J16 = [(false, c_w_FnExactEasyClasses_J27)] from by kernel_rfl]; exact (lpL_seg (f := mkSeg lv_w_FnExactEasyClasses_J27 lv_w_FnExactEasyClasses_N27 (gw_FnExactEasyClasses_j27 K k)) (by kernel_rfl) (sw_FnExactEasyClasses_j27 K C hP O k) trivial)))
theorem ew_FnExactEasyClasses_j10 {R : Type} (K : Nat) (k : Nat) (x : den lv_w_FnExactEasyClasses_J10.ty) (kn : den lv_w_FnExactEasyClasses_N10.ty → Option R) (kx : Nat → St → Option R) (kr : St → Option R) : gw_FnExactEasyClasses_j10 K k x kn kx kr = evC (cf_w_FnExactEasyClasses K) (en_w_FnExactEasyClasses K k) c_w_FnExactEasyClasses_J10 (mkSt lv_w_FnExactEasyClasses_J10 x) (cutK lv_w_FnExactEasyClasses_N10 kn) kx kr := by kernel_rfl
theorem sw_FnExactEasyClasses_j10 {R : Type} (K : Nat) (C : Cx) (hP : C.P = Try.prog) (O : CfgOk C (cf_w_FnExactEasyClasses K)) (k : Nat) : SgS C (R := R) (mkSeg lv_w_FnExactEasyClasses_J10 lv_w_FnExactEasyClasses_N10 (gw_FnExactEasyClasses_j10 K k)) c_w_FnExactEasyClasses_J10 :=
  seg_sound O (by rw [hP]; kernel_rfl) (ew_FnExactEasyClasses_j10 K k) (lpOk_of (en := en_w_FnExactEasyClasses K k) (S := hasK su_w_FnExactEasyClasses) (fun i => hasK_lk (sg_w_FnExactEasyClasses K k) i) _ (by rw [show partsOf (hasK su_w_FnExactEasyClasses) c_w_FnExactEasyClasses_J10 = [(false, c_w_FnExactEasyClasses_J16)] from by kernel_rfl]; exact (lpL_seg (f := mkSeg lv_w_FnExactEasyClasses_J16 lv_w_FnExactEasyClasses_N16 (gw_FnExactEasyClasses_j16 K k)) (by kernel_rfl) (sw_FnExactEasyClasses_j16 K C hP O k) trivial)))
theorem e_w_FnExactEasyClasses (K : Nat) (x : den as_w_FnExactEasyClasses) : w_FnExactEasyClasses K x = evFn (cf_w_FnExactEasyClasses K) as_w_FnExactEasyClasses [false] .bool (en_w_FnExactEasyClasses K K) Try.f6.results.toList (bodyOf Try.f6) x := by kernel_rfl
theorem ok_w_FnExactEasyClasses (K : Nat) : FnOk Try.prog 6 (sp_w_FnExactEasyClasses (w_FnExactEasyClasses K)) :=
  fn_ok (cf := cf_w_FnExactEasyClasses K) (en := en_w_FnExactEasyClasses K K) (c := bodyOf Try.f6) Try.func6 (by kernel_rfl) (by kernel_rfl) tysOk (fns_ok (l := [(22, sp_w_szInstance (w_szInstance K)), (23, sp_s_EasyClasses (s_EasyClasses K)), (24, sp_w_toInstance (w_toInstance K)), (25, sp_i_EasyClasses (i_EasyClasses K)), (26, sp_w_eqInt64S (w_eqInt64S K)), (27, sp_w_eqInstance (w_eqInstance K)), (28, sp_w_markInstance (w_markInstance K)), (29, sp_w_markInt64S (w_markInt64S K)), (30, sp_w_heldInt64S (w_heldInt64S K))]) ⟨ok_w_szInstance K, ⟨ok_s_EasyClasses K, ⟨ok_w_toInstance K, ⟨ok_i_EasyClasses K, ⟨ok_w_eqInt64S K, ⟨ok_w_eqInstance K, ⟨ok_w_markInstance K, ⟨ok_w_markInt64S K, ⟨ok_w_heldInt64S K, trivial⟩⟩⟩⟩⟩⟩⟩⟩⟩) (by kernel_rfl) rfl (Nat.le_of_ble_eq_true (by kernel_rfl)) (by kernel_rfl) (of_decide_eq_true (by kernel_rfl)) (by decide) (fun C hP O => lpOk_of (en := en_w_FnExactEasyClasses K K) (S := hasK su_w_FnExactEasyClasses) (fun i => hasK_lk (sg_w_FnExactEasyClasses K K) i) _ (by rw [show partsOf (hasK su_w_FnExactEasyClasses) (bodyOf Try.f6) = [(false, c_w_FnExactEasyClasses_J10)] from by kernel_rfl]; exact (lpL_seg (f := mkSeg lv_w_FnExactEasyClasses_J10 lv_w_FnExactEasyClasses_N10 (gw_FnExactEasyClasses_j10 K K)) (by kernel_rfl) (sw_FnExactEasyClasses_j10 K C hP O K) trivial))) (fun x y h => by rw [← e_w_FnExactEasyClasses]; exact h)
end Go.Proofs.Ytckkagmccbkfbaa.E
namespace Go.Proofs.Ytckkagmccbkfbaa.E
open Go Go.Proofs
set_option linter.unusedVariables false
set_option linter.unusedSimpArgs false
variable {K : Nat} {R : Type}
theorem w64 {x : Int} (h1 : -9223372036854775808 ≤ x) (h2 : x < 9223372036854775808) : IntKind.i64.wrap x = x := by
  simp only [IntKind.wrap, IntKind.bits, IntKind.signed, Bool.true_and]
  simp only [show (2 : Int) ^ 64 = 18446744073709551616 from rfl, show (2 : Int) ^ (64 - 1) = 9223372036854775808 from rfl]
  split <;> rename_i h <;> simp only [decide_eq_true_eq] at h <;> omega
theorem w64n {n : Nat} (h : n < 9223372036854775808) : IntKind.i64.wrap (n : Int) = (n : Int) := w64 (by omega) (by omega)
theorem w64s {n : Nat} (h : n + 1 < 9223372036854775808) : IntKind.i64.wrap ((n : Int) + 1) = ((n + 1 : Nat) : Int) := by rw [w64 (by omega) (by omega)]; rfl
theorem w64m1 {n : Nat} (h : n < 9223372036854775808) : IntKind.i64.wrap ((n : Int) - 1) = (n : Int) - 1 := w64 (by omega) (by omega)
theorem u64n {n : Nat} (h : n < 18446744073709551616) : IntKind.u64.wrap (n : Int) = (n : Int) := by
  simp only [IntKind.wrap, IntKind.bits, IntKind.signed, Bool.false_and, Bool.false_eq_true, if_false]
  simp only [show (2 : Int) ^ 64 = 18446744073709551616 from rfl]
  omega
theorem u64_ge (x : Int) : 0 ≤ IntKind.u64.wrap x := by
  simp only [IntKind.wrap, IntKind.bits, IntKind.signed, Bool.false_and, Bool.false_eq_true, if_false]
  exact Int.emod_nonneg _ (by decide)
theorem u64_dec (x : Int) : decide ((0 : Int) ≤ IntKind.u64.wrap x) = true := decide_eq_true (u64_ge x)
theorem bnds_t {i n : Int} (h0 : 0 ≤ i) (h : i < n) : bnds i n = true := by simp [bnds, h0, h]
theorem bnds_n {i n : Nat} (h : i < n) : bnds (i : Int) (n : Int) = true := bnds_t (by omega) (by omega)
theorem nn (n : Nat) : decide ((0 : Int) ≤ (n : Int)) = true := decide_eq_true (by omega)
theorem emod2n (x : Nat) : ((x : Int) % 18446744073709551616).toNat = x % 18446744073709551616 := by omega
theorem bitI_and {a b : Nat} (ha : a < 9223372036854775808) (hb : b < 9223372036854775808) : bitI .and .i64 (a : Int) (b : Int) = ((a &&& b : Nat) : Int) := by
  have h : a &&& b ≤ a := Nat.and_le_left
  show IntKind.i64.wrap (((BitVec.ofInt 64 (a : Int) &&& BitVec.ofInt 64 (b : Int) : BitVec 64).toNat : Nat) : Int) = _
  simp only [BitVec.toNat_and, BitVec.toNat_ofInt]
  simp only [show ((2 ^ 64 : Nat) : Int) = 18446744073709551616 from rfl, emod2n]
  rw [Nat.mod_eq_of_lt (by omega), Nat.mod_eq_of_lt (by omega), w64n (by omega)]
theorem bitI_or {a b : Nat} (ha : a < 9223372036854775808) (hb : b < 9223372036854775808) : bitI .or .i64 (a : Int) (b : Int) = ((a ||| b : Nat) : Int) := by
  have h : a ||| b < 9223372036854775808 := Nat.or_lt_two_pow (n := 63) ha hb
  show IntKind.i64.wrap (((BitVec.ofInt 64 (a : Int) ||| BitVec.ofInt 64 (b : Int) : BitVec 64).toNat : Nat) : Int) = _
  simp only [BitVec.toNat_or, BitVec.toNat_ofInt]
  simp only [show ((2 ^ 64 : Nat) : Int) = 18446744073709551616 from rfl, emod2n]
  rw [Nat.mod_eq_of_lt (by omega), Nat.mod_eq_of_lt (by omega), w64n (by omega)]
theorem shrI_n (a j : Nat) (ha : a < 9223372036854775808) : shrI .i64 (a : Int) (j : Int) = ((a >>> j : Nat) : Int) := by
  simp only [shrI, IntKind.bits, Int.toNat_natCast, Nat.shiftRight_eq_div_pow]
  have : (2 : Int) ^ min j 64 = ((2 ^ min j 64 : Nat) : Int) := by simp
  rw [this, Int.fdiv_eq_ediv_of_nonneg _ (Int.natCast_nonneg _), ← Int.natCast_ediv]
  by_cases h : j ≤ 64
  · rw [Nat.min_eq_left h]
  · rw [Nat.min_eq_right (by omega), Nat.div_eq_of_lt (by omega), Nat.div_eq_of_lt]
    exact Nat.lt_of_lt_of_le ha (Nat.le_trans (show 9223372036854775808 ≤ 2 ^ 64 by decide) (Nat.pow_le_pow_right (by decide) (by omega)))
theorem shlI_n (a j : Nat) (h : a * 2 ^ j < 9223372036854775808) : shlI .i64 (a : Int) (j : Int) = ((a * 2 ^ j : Nat) : Int) := by
  simp only [shlI, IntKind.bits, Int.toNat_natCast]
  by_cases hj : j ≤ 64
  · rw [Nat.min_eq_left hj, ← w64n h]; congr 1
  · have ha : a = 0 := by
      rcases Nat.eq_zero_or_pos a with h0 | h0
      · exact h0
      · have := Nat.mul_le_mul_right (2 ^ j) h0
        have h2 : 2 ^ 64 ≤ 2 ^ j := Nat.pow_le_pow_right (by decide) (by omega)
        have : (18446744073709551616 : Nat) ≤ 2 ^ j := h2
        omega
    subst ha
    have := w64n (n := 0) (by decide)
    simpa using this
theorem pw_pos (j : Nat) : 0 < 2 ^ j := Nat.two_pow_pos j
theorem shl1 {j : Nat} (h : j < 63) : shlI .i64 (1 : Int) (j : Int) = ((2 ^ j : Nat) : Int) := by
  have h2 : 2 ^ j < 2 ^ 63 := Nat.pow_lt_pow_right (by decide) h
  have := shlI_n 1 j (by simpa using h2)
  simpa using this
/-- A digit of a number. -/
def bt (b j : Nat) : Int := if b.testBit j then 1 else 0
theorem bt_eq (b j : Nat) : bt b j = (((b >>> j) &&& 1 : Nat) : Int) := by
  unfold bt
  rw [Nat.and_one_is_mod, Nat.shiftRight_eq_div_pow]
  have := Nat.testBit_eq_decide_div_mod_eq (x := b) (i := j)
  rw [this]
  have h2 := Nat.mod_lt (b / 2 ^ j) (show 0 < 2 by decide)
  split <;> rename_i h <;> simp only [decide_eq_true_eq] at h <;> omega
theorem bitI_bt {b : Nat} (j : Nat) (hb : b < 9223372036854775808) : bitI .and .i64 (shrI .i64 (b : Int) (j : Int)) (1 : Int) = bt b j := by
  rw [shrI_n b j hb, show (1 : Int) = ((1 : Nat) : Int) from rfl, bitI_and ?_ (by decide), bt_eq]
  rw [Nat.shiftRight_eq_div_pow]; exact Nat.lt_of_le_of_lt (Nat.div_le_self _ _) hb
def mkB (g : Nat → Bool) : Nat → Nat
  | 0 => 0
  | n + 1 => mkB g n + (if g n then 2 ^ n else 0)
theorem mkB_lt (g : Nat → Bool) : ∀ n, mkB g n < 2 ^ n
  | 0 => by simp [mkB]
  | n + 1 => by
    have := mkB_lt g n
    rw [mkB, Nat.pow_succ]; split <;> omega
theorem mkB_congr {g h : Nat → Bool} : ∀ {n : Nat}, (∀ j, j < n → g j = h j) → mkB g n = mkB h n
  | 0, _ => rfl
  | n + 1, e => by rw [mkB, mkB, mkB_congr fun j hj => e j (by omega), e n (by omega)]
theorem or_pow {x n : Nat} (h : x < 2 ^ n) : x ||| 2 ^ n = x + 2 ^ n := by
  have := Nat.two_pow_add_eq_or_of_lt h 1
  rw [Nat.or_comm, Nat.add_comm]
  simpa using this.symm
theorem getD_mid {α : Type} (p r : List α) (y d : α) : (p ++ y :: r).getD p.length d = y := by
  simp [List.getD]
theorem getD_midI {α : Type} (p r : List α) (y d : α) : (p ++ y :: r).getD ((p.length : Int)).toNat d = y := by
  rw [Int.toNat_natCast]; exact getD_mid p r y d
theorem set_mid {α : Type} (p r : List α) (y z : α) : (p ++ y :: r).set p.length z = p ++ z :: r := by
  simp
theorem set_midI {α : Type} (p r : List α) (y z : α) : (p ++ y :: r).set ((p.length : Int)).toNat z = p ++ z :: r := by
  rw [Int.toNat_natCast]; exact set_mid p r y z
theorem len_mid {α : Type} (p r : List α) (y : α) : p.length < (p ++ y :: r).length := by simp
theorem mid_app {α : Type} (p r : List α) (y : α) : p ++ y :: r = (p ++ [y]) ++ r := by simp
theorem snoc_len {α : Type} (p : List α) (y : α) : (p ++ [y]).length = p.length + 1 := by simp
theorem ite_t {c : Bool} {α : Type} {a b : α} (h : c = true) : (if c = true then a else b) = a := if_pos h
theorem ite_f {c : Bool} {α : Type} {a b : α} (h : c = false) : (if c = true then a else b) = b := if_neg (by rw [h]; decide)
theorem some_bind' {α β : Type} (a : α) (f : α → Option β) : (some a).bind f = f a := rfl
abbrev DF := Int × Int × Unit
theorem i_within_eq (a b c : Int) : i_within K (a, b, c, ()) = some (decide (b ≤ a) && decide (a ≤ c)) := by
  simp only [i_within]
  by_cases h : b ≤ a
  · rw [if_pos (decide_eq_true h)]; simp [h]
  · rw [if_neg (by simpa using h)]; simp [h]
theorem s_l01In_eq (a b c : Int) : s_l01In K (a, b, c, ()) = some (decide (b ≤ a) && decide (a ≤ c)) := by
  simp only [s_l01In]
  by_cases h : b ≤ a
  · rw [if_pos (decide_eq_true h)]; simp [h]
  · rw [if_neg (by simpa using h)]; simp [h]
theorem i_one_eq (b : Bool) : i_one K (b, ()) = some (if b then 1 else 0) := by cases b <;> rfl
theorem i_rowsOf_eq {n : Nat} (h : n < 63) : i_rowsOf K ((n : Int), ()) = some ((2 ^ n : Nat) : Int) := by
  simp only [i_rowsOf]; rw [if_pos (nn n), shl1 h]
theorem s_l01Rows_eq {n : Nat} (h : n < 63) : s_l01Rows K ((n : Int), ()) = some ((2 ^ n : Nat) : Int) := by
  simp only [s_l01Rows]; rw [if_pos (u64_dec _), u64n (by omega), shl1 h]
theorem pw4 {n : Nat} (h : n ≤ 4) : 2 ^ n ≤ 16 := Nat.pow_le_pow_right (by decide) h
theorem ppw4 {n : Nat} (h : n ≤ 4) : 2 ^ 2 ^ n ≤ 65536 := Nat.pow_le_pow_right (by decide) (pw4 h)
theorem i_funcsOf_eq {n : Nat} (h : n ≤ 4) : i_funcsOf K ((n : Int), ()) = some ((2 ^ 2 ^ n : Nat) : Int) := by
  have h4 := pw4 h
  simp only [i_funcsOf, i_rowsOf_eq (show n < 63 by omega), some_bind']
  rw [if_pos (nn _), shl1 (by omega)]
theorem s_l01All_eq {n : Nat} (h : n ≤ 4) : s_l01All K ((n : Int), ()) = some ((2 ^ 2 ^ n : Nat) - 1 : Int) := by
  have h4 := pw4 h
  have h5 := ppw4 h
  simp only [s_l01All, s_l01Rows_eq (show n < 63 by omega), some_bind']
  rw [if_pos (u64_dec _), u64n (by omega), shl1 (by omega), w64m1 (by omega)]
/-- What is a function, or a relation with as many places. -/
def isF (lo : Int) (f : DF) : Bool := decide (lo ≤ f.1) && decide (f.1 ≤ 4) && decide (0 ≤ f.2.1) && decide (f.2.1 < ((2 ^ 2 ^ f.1.toNat : Nat) : Int))
theorem isF_nat {lo : Int} {f : DF} (h : isF lo f = true) (hl : 0 ≤ lo) : ∃ n b : Nat, f = ((n : Int), (b : Int), ()) ∧ n ≤ 4 ∧ b < 2 ^ 2 ^ n ∧ lo ≤ n := by
  obtain ⟨a, c, u⟩ := f
  simp only [isF, Bool.and_eq_true, decide_eq_true_eq] at h
  refine ⟨a.toNat, c.toNat, ?_, by omega, by have := h.2; omega, by omega⟩
  rw [Int.toNat_of_nonneg (by omega), Int.toNat_of_nonneg (by omega)]
theorem bits_lt {n b : Nat} (h : n ≤ 4) (hb : b < 2 ^ 2 ^ n) : b < 9223372036854775808 := by have := ppw4 h; omega
theorem isF_range {lo : Int} (hl : 0 ≤ lo) {a c : Int} {u : Unit} (h : lo ≤ a ∧ a ≤ 4) : (decide ((0 : Int) ≤ c) && decide (c ≤ ((2 ^ 2 ^ a.toNat : Nat) : Int) - 1)) = isF lo (a, c, u) := by
  simp only [isF, h.1, h.2, decide_true, Bool.true_and]
  congr 1
  apply decide_eq_decide.2; omega
theorem isF_out {lo : Int} {a c : Int} {u : Unit} (h : ¬ (lo ≤ a ∧ a ≤ 4)) : isF lo (a, c, u) = false := by
  simp only [isF, Bool.and_eq_false_iff, decide_eq_false_iff_not]; omega
theorem and_dec {a b : Prop} [Decidable a] [Decidable b] : ((decide a && decide b) = true) ↔ (a ∧ b) := by simp
theorem i_IsRelation_eq (f : DF) : i_IsRelation K (f, ()) = some (isF 1 f) := by
  obtain ⟨a, c, u⟩ := f
  simp only [i_IsRelation, i_within_eq, some_bind']
  by_cases h : 1 ≤ a ∧ a ≤ 4
  · obtain ⟨n, rfl⟩ := Int.eq_ofNat_of_zero_le (show 0 ≤ a by omega)
    rw [if_pos (and_dec.2 h), i_funcsOf_eq (by omega), some_bind']
    have h5 := ppw4 (show n ≤ 4 by omega)
    rw [w64m1 (by omega)]
    have := isF_range (lo := 1) (by decide) (c := c) (u := u) h
    rw [Int.toNat_natCast] at this
    rw [this]
  · rw [if_neg (fun e => h (and_dec.1 e)), isF_out h]
theorem s_l06Is_eq (f : DF) : s_l06Is K (f, ()) = some (isF 1 f) := by
  obtain ⟨a, c, u⟩ := f
  simp only [s_l06Is, s_l01In_eq, some_bind']
  by_cases h : 1 ≤ a ∧ a ≤ 4
  · obtain ⟨n, rfl⟩ := Int.eq_ofNat_of_zero_le (show 0 ≤ a by omega)
    rw [if_pos (and_dec.2 h), s_l01All_eq (by omega), some_bind']
    have := isF_range (lo := 1) (by decide) (c := c) (u := u) h
    rw [Int.toNat_natCast] at this
    rw [this]
  · rw [if_neg (fun e => h (and_dec.1 e)), isF_out h]
theorem i_bit_eq {b : Nat} (j : Nat) (h : b < 9223372036854775808) : i_bit K ((b : Int), (j : Int), ()) = some (bt b j) := by
  simp only [i_bit]; rw [if_pos (nn j), bitI_bt j h]
theorem i_Func_at_eq {n : Int} {b : Nat} (j : Nat) (h : b < 9223372036854775808) : i_Func_at K ((n, (b : Int), ()), (j : Int), ()) = some (bt b j) := by
  simp only [i_Func_at, i_bit_eq j h]; rfl
theorem s_l01At_eq {n : Int} {b j : Nat} (h : b < 9223372036854775808) (hj : j < 9223372036854775808) : s_l01At K ((n, (b : Int), ()), (j : Int), ()) = some (bt b j) := by
  simp only [s_l01At]; rw [if_pos (u64_dec _), u64n (by omega), bitI_bt j h]
theorem bt_dec (b j : Nat) : decide (bt b j = 1) = b.testBit j := by unfold bt; cases b.testBit j <;> rfl
theorem i_Relation_has_eq {n : Int} {b : Nat} (j : Nat) (h : b < 9223372036854775808) : i_Relation_has K ((n, (b : Int), ()), (j : Int), ()) = some (b.testBit j) := by
  simp only [i_Relation_has, i_bit_eq j h, some_bind', bt_dec]
theorem s_l09Has_eq {n : Int} {b j : Nat} (h : b < 9223372036854775808) (hj : j < 9223372036854775808) : s_l09Has K ((n, (b : Int), ()), (j : Int), ()) = some (b.testBit j) := by
  simp only [s_l09Has]; rw [if_pos (u64_dec _), u64n (by omega), bitI_bt j h, bt_dec]
abbrev DC := DF × List Int × Unit
abbrev DX := Int × List DC × Unit
theorem lt_len {α : Type} {p r : List α} {y : α} : decide ((p.length : Int) < ((p ++ y :: r).length : Int)) = true := decide_eq_true (by simp; omega)
theorem nlt_len {α : Type} {p : List α} : decide ((p.length : Int) < ((p ++ []).length : Int)) = false := decide_eq_false (by simp)
theorem bnds_mid {α : Type} {p r : List α} {y : α} : bnds (p.length : Int) ((p ++ y :: r).length : Int) = true := bnds_n (len_mid p r y)
theorem next_i {α : Type} {p r : List α} {y : α} (h : (p ++ y :: r).length < 4611686018427387904) : IntKind.i64.wrap ((p.length : Int) + 1) = (((p ++ [y]).length : Nat) : Int) := by
  rw [snoc_len]; refine w64s ?_
  have := len_mid p r y; omega
theorem eqI_l (l : List Int) (hl : l.length < 4611686018427387904) (kx : Option R) (kr : Bool → Option R) : ∀ (r p : List Int) (k : Nat), l = p ++ r → r.length < k → w_eqInt64S_l4 K k l l (p.length : Int) kx kr = kx
  | [], p, k + 1, h, _ => by subst h; simp only [w_eqInt64S_l4]; rw [ite_f nlt_len]
  | y :: r, p, k + 1, h, hk => by
    subst h
    simp only [w_eqInt64S_l4]
    rw [ite_t lt_len, ite_t bnds_mid, ite_t bnds_mid, ite_f (by simp), next_i hl]
    exact eqI_l _ hl kx kr r (p ++ [y]) k (mid_app p r y) (by simp at hk; omega)
theorem w_eqInt64S_refl {l : List Int} (hl : l.length < 4611686018427387904) (hK : 4611686018427387904 ≤ K) : w_eqInt64S K (l, l, ()) = some true := by
  simp only [w_eqInt64S]
  rw [ite_f (by simp)]
  exact eqI_l l hl _ _ l [] K rfl (by omega)
/-- v, v + 1, .. -/
def seqI : Int → Nat → List Int
  | _, 0 => []
  | v, n + 1 => v :: seqI (v + 1) n
theorem seqI_len : ∀ (n : Nat) (v : Int), (seqI v n).length = n
  | 0, _ => rfl
  | n + 1, v => by simp [seqI, seqI_len n]
theorem markI_l (kx : List Int → Int → Option R) : ∀ (r p : List Int) (k : Nat) (v : Int), (p ++ r).length < 4611686018427387904 → r.length < k → 0 ≤ v → v + r.length < 4611686018427387904 → w_markInt64S_l2 K k (p ++ r) v (p.length : Int) kx = kx (p ++ seqI v r.length) (v + r.length)
  | [], p, k + 1, v, hl, _, _, _ => by simp only [w_markInt64S_l2]; rw [ite_f nlt_len]; simp [seqI]
  | y :: r, p, k + 1, v, hl, hk, hv, hb => by
    simp only [List.length_cons] at hk hb
    simp only [w_markInt64S_l2]
    rw [ite_t lt_len, ite_t bnds_mid, set_midI, w64 (by omega) (by omega), next_i hl]
    have := markI_l kx r (p ++ [v]) k (v + 1) (by simp at hl ⊢; omega) (by omega) (by omega) (by omega)
    rw [← mid_app p r v] at this
    rw [snoc_len] at this ⊢
    rw [this]
    simp only [seqI, List.length_cons, List.append_assoc, List.singleton_append]
    congr 1; omega
theorem w_markInt64S_eq {l : List Int} {v : Int} (hl : l.length < 4611686018427387904) (hK : 4611686018427387904 ≤ K) (hv : 0 ≤ v) (hb : v + l.length < 4611686018427387904) : w_markInt64S K (l, v, ()) = some (v + l.length, (seqI v l.length, ())) := by
  simp only [w_markInt64S]
  exact markI_l _ l [] K v hl (by omega) hv hb
theorem heldI_l (kx kr : Int → Option R) : ∀ (n : Nat) (p : List Int) (k : Nat) (v : Int), (p ++ seqI v n).length < 4611686018427387904 → n < k → 0 ≤ v → v + n < 4611686018427387904 → w_heldInt64S_l2 K k (p ++ seqI v n) v (p.length : Int) kx kr = kx (v + n)
  | 0, p, k + 1, v, hl, _, _, _ => by rw [show seqI v 0 = [] from rfl]; simp only [w_heldInt64S_l2]; rw [ite_f nlt_len]; simp
  | n + 1, p, k + 1, v, hl, hk, hv, hb => by
    rw [show seqI v (n + 1) = v :: seqI (v + 1) n from rfl] at hl ⊢
    simp only [w_heldInt64S_l2]
    rw [ite_t lt_len, ite_t bnds_mid, getD_midI, ite_f (by simp), w64 (by omega) (by omega), next_i hl, mid_app p _ v]
    rw [mid_app p _ v] at hl
    rw [heldI_l kx kr n (p ++ [v]) k (v + 1) hl (by omega) (by omega) (by omega)]
    congr 1; omega
theorem w_heldInt64S_eq {n : Nat} {v : Int} (hK : 4611686018427387904 ≤ K) (hv : 0 ≤ v) (hb : v + n < 4611686018427387904) : w_heldInt64S K (seqI v n, v, ()) = some (v + n) := by
  simp only [w_heldInt64S]
  exact heldI_l _ _ n [] K v (by simp [seqI_len]; omega) (by omega) hv hb
theorem toI_l (kx : List Int → Option R) : ∀ (r p z : List Int) (k : Nat), (p ++ r).length < 4611686018427387904 → r.length < k → z.length = r.length → w_toInt64S_l3 K k (p ++ r) (p ++ z) (p.length : Int) kx = kx (p ++ r)
  | [], p, z, k + 1, hl, _, hz => by
    obtain rfl := List.length_eq_zero_iff.1 hz
    simp only [w_toInt64S_l3]; rw [ite_f nlt_len]
  | y :: r, p, [], k + 1, hl, hk, hz => by simp at hz
  | y :: r, p, z0 :: z, k + 1, hl, hk, hz => by
    simp only [w_toInt64S_l3]
    rw [ite_t lt_len, ite_t bnds_mid, ite_t bnds_mid, set_midI, getD_midI, next_i hl]
    have := toI_l kx r (p ++ [y]) z k (by simp at hl ⊢; omega) (by simp at hk; omega) (by simp at hz; omega)
    simpa using this
theorem mk_len {n : Nat} (h : n ≤ 1099511627776) : (decide (0 ≤ (n : Int)) && decide ((n : Int) ≤ (lim : Int)) && decide True) = true := by
  rw [show ((lim : Nat) : Int) = 1099511627776 from rfl]; simp; omega
theorem w_toInt64S_eq {l : List Int} (hl : l.length ≤ 1099511627776) (hK : 4611686018427387904 ≤ K) : w_toInt64S K (l, ()) = some l := by
  simp only [w_toInt64S]
  rw [ite_t (mk_len hl)]
  exact toI_l _ l [] _ K (by simp; omega) (by omega) (by simp)
theorem w_toRelation_eq (r : DF) : w_toRelation K (r, ()) = some r := rfl
theorem w_toClause_eq {c : DC} (hl : c.2.1.length ≤ 1099511627776) (hK : 4611686018427387904 ≤ K) : w_toClause K (c, ()) = some c := by
  simp only [w_toClause, w_toRelation_eq, some_bind', w_toInt64S_eq hl hK]
theorem toC_l (kx : List DC → Option R) (hK : 4611686018427387904 ≤ K) : ∀ (r p z : List DC) (k : Nat), (∀ c ∈ r, c.2.1.length ≤ 1099511627776) → (p ++ r).length < 4611686018427387904 → r.length < k → z.length = r.length → w_toClauseS_l3 K k (p ++ r) (p ++ z) (p.length : Int) kx = kx (p ++ r)
  | [], p, z, k + 1, _, hl, _, hz => by
    obtain rfl := List.length_eq_zero_iff.1 hz
    simp only [w_toClauseS_l3]; rw [ite_f nlt_len]
  | y :: r, p, [], k + 1, _, hl, hk, hz => by simp at hz
  | y :: r, p, z0 :: z, k + 1, hc, hl, hk, hz => by
    simp only [w_toClauseS_l3]
    rw [ite_t lt_len, ite_t bnds_mid, getD_midI, w_toClause_eq (hc y (by simp)) hK, some_bind', ite_t bnds_mid, set_midI, next_i hl]
    have := toC_l kx hK r (p ++ [y]) z k (fun c h => hc c (by simp [h])) (by simp at hl ⊢; omega) (by simp at hk; omega) (by simp at hz; omega)
    simpa using this
theorem w_toInstance_eq {x : DX} (hc : ∀ c ∈ x.2.1, c.2.1.length ≤ 1099511627776) (hl : x.2.1.length ≤ 1099511627776) (hK : 4611686018427387904 ≤ K) : w_toInstance K (x, ()) = some x := by
  simp only [w_toInstance, w_toClauseS]
  rw [ite_t (mk_len hl)]
  have := toC_l (fun z => some z) hK x.2.1 [] (List.replicate x.2.1.length (((0 : Int), (0 : Int), ()), ([] : List Int), ())) K hc (by simp; omega) (by omega) (by simp)
  simp only [List.nil_append, List.length_nil, Int.ofNat_zero, Int.toNat_natCast] at this ⊢
  rw [this]; rfl
theorem w_eqRelation_refl (r : DF) : w_eqRelation K (r, r, ()) = some true := by simp [w_eqRelation]
theorem w_eqClause_refl {c : DC} (hl : c.2.1.length < 4611686018427387904) (hK : 4611686018427387904 ≤ K) : w_eqClause K (c, c, ()) = some true := by
  simp only [w_eqClause, w_eqRelation_refl, some_bind', w_eqInt64S_refl hl hK]; rfl
theorem eqC_l (l : List DC) (hK : 4611686018427387904 ≤ K) (hc : ∀ c ∈ l, c.2.1.length < 4611686018427387904) (hl : l.length < 4611686018427387904) (kx : Option R) (kr : Bool → Option R) : ∀ (r p : List DC) (k : Nat), l = p ++ r → r.length < k → w_eqClauseS_l4 K k l l (p.length : Int) kx kr = kx
  | [], p, k + 1, h, _ => by subst h; simp only [w_eqClauseS_l4]; rw [ite_f nlt_len]
  | y :: r, p, k + 1, h, hk => by
    subst h
    simp only [w_eqClauseS_l4]
    rw [ite_t lt_len, ite_t bnds_mid, ite_t bnds_mid, getD_midI, w_eqClause_refl (hc y (by simp)) hK, some_bind', ite_f (by simp), next_i hl]
    exact eqC_l _ hK hc hl kx kr r (p ++ [y]) k (mid_app p r y) (by simp at hk; omega)
theorem w_eqInstance_refl {x : DX} (hK : 4611686018427387904 ≤ K) (hc : ∀ c ∈ x.2.1, c.2.1.length < 4611686018427387904) (hl : x.2.1.length < 4611686018427387904) : w_eqInstance K (x, x, ()) = some true := by
  simp only [w_eqInstance, w_eqClauseS]
  rw [ite_f (by simp), ite_f (by simp)]
  have := eqC_l x.2.1 hK hc hl (some true) (fun z2 => some z2) x.2.1 [] K rfl (by omega)
  simp only [List.length_nil] at this
  rw [show ((0 : Nat) : Int) = 0 from rfl] at this
  rw [this]; rfl
/-- How many numbers clauses hold. -/
def szC : List DC → Nat
  | [] => 0
  | c :: r => 2 + c.2.1.length + szC r
def markC : List DC → Int → List DC
  | [], _ => []
  | c :: r, v => ((v, v + 1, ()), seqI (v + 2) c.2.1.length, ()) :: markC r (v + 2 + c.2.1.length)
theorem szC_len : ∀ (l : List DC), l.length ≤ szC l
  | [] => Nat.le_refl _
  | c :: r => by have := szC_len r; simp [szC]; omega
theorem markC_l (kx : List DC → Int → Option R) (hK : 4611686018427387904 ≤ K) : ∀ (r p : List DC) (k : Nat) (v : Int), (p ++ r).length < 4611686018427387904 → r.length < k → 0 ≤ v → v + szC r < 4611686018427387904 → w_markClauseS_l2 K k (p ++ r) v (p.length : Int) kx = kx (p ++ markC r v) (v + szC r)
  | [], p, k + 1, v, hl, _, _, _ => by simp only [w_markClauseS_l2]; rw [ite_f nlt_len]; simp [markC, szC]
  | y :: r, p, k + 1, v, hl, hk, hv, hb => by
    simp only [List.length_cons, szC, Int.natCast_add] at hk hb
    simp only [w_markClauseS_l2]
    rw [ite_t lt_len, ite_t bnds_mid, getD_midI, set_midI, ite_t bnds_mid, getD_midI, set_midI, ite_t bnds_mid, getD_midI, w64 (x := v + 1) (by omega) (by omega), w64 (x := v + 1 + 1) (by omega) (by omega),
      w_markInt64S_eq (l := y.2.1) (by omega) hK (by omega) (by omega), some_bind', set_midI, next_i hl]
    have := markC_l kx hK r (p ++ [((v, v + 1, ()), seqI (v + 1 + 1) y.2.1.length, ())]) k (v + 1 + 1 + y.2.1.length) (by simp at hl ⊢; omega) (by omega) (by omega) (by omega)
    rw [← mid_app] at this
    rw [snoc_len] at this ⊢
    rw [this]
    have e : v + 1 + 1 = v + 2 := by omega
    simp only [markC, szC, List.append_assoc, List.singleton_append, e]
    congr 1; simp only [Int.natCast_add]; omega
theorem w_markInstance_eq {x : DX} {v : Int} (hK : 4611686018427387904 ≤ K) (hv : 0 ≤ v) (hb : v + szC x.2.1 < 4611686018427387904) : w_markInstance K (x, v, ()) = some (v + szC x.2.1, ((x.1, markC x.2.1 v, ()), ())) := by
  have hl := szC_len x.2.1
  simp only [w_markInstance, w_markClauseS]
  have := markC_l (fun z5 z6 => some (z6, (z5, ()))) hK x.2.1 [] K v (by simp; omega) (by omega) hv hb
  simp only [List.nil_append, List.length_nil] at this
  rw [show ((0 : Nat) : Int) = 0 from rfl] at this
  rw [this]; rfl
def lenC : List DC → Nat
  | [] => 0
  | c :: r => c.2.1.length + lenC r
theorem w_szInt64S_eq {l : List Int} {v : Int} (h0 : 0 ≤ v) (h1 : v < 4611686018427387904) (hl : l.length ≤ 9223372036854775807) : w_szInt64S K (l, v, ()) = some (if v < l.length then -1 else v - l.length) := by
  simp only [w_szInt64S]
  rw [w64 (x := v - l.length) (by omega) (by omega)]
  by_cases h : v < l.length
  · rw [ite_t (decide_eq_true (by omega)), if_pos h]
  · rw [ite_f (decide_eq_false (by omega)), if_neg h]
theorem szC_l (kx kr : Int → Option R) : ∀ (r p : List DC) (k : Nat) (v : Int), (∀ c ∈ r, c.2.1.length ≤ 9223372036854775807) → (p ++ r).length < 4611686018427387904 → r.length < k → 0 ≤ v → v < 4611686018427387904 → w_szClauseS_l5 K k (p ++ r) v (p.length : Int) kx kr = if v < lenC r then kr (-1) else kx (v - lenC r)
  | [], p, k + 1, v, _, hl, _, h0, h1 => by simp only [w_szClauseS_l5]; rw [ite_f nlt_len, if_neg (by simp [lenC]; omega)]; simp [lenC]
  | y :: r, p, k + 1, v, hc, hl, hk, h0, h1 => by
    simp only [List.length_cons] at hk
    simp only [w_szClauseS_l5, w_szClause]
    rw [ite_t lt_len, ite_t bnds_mid, getD_midI, w_szInt64S_eq h0 h1 (hc y (by simp)), some_bind']
    by_cases h : v < y.2.1.length
    · rw [if_pos h, if_pos (by decide), some_bind', if_pos (by decide), if_pos (by simp only [lenC, Int.natCast_add]; omega)]
    · rw [if_neg h, ite_f (decide_eq_false (by omega)), some_bind', ite_f (decide_eq_false (by omega)), next_i hl, mid_app]
      rw [szC_l kx kr r (p ++ [y]) k _ (fun c h => hc c (by simp [h])) (by simp at hl ⊢; omega) (by omega) (by omega) (by omega)]
      rw [show ((lenC (y :: r) : Nat) : Int) = (y.2.1.length : Int) + (lenC r : Int) from by simp [lenC]]
      by_cases h2 : v - y.2.1.length < lenC r
      · rw [if_pos h2, if_pos (by omega)]
      · rw [if_neg h2, if_neg (by omega)]; congr 1; omega
theorem w_szInstance_eq {x : DX} {v : Int} (h0 : 0 ≤ v) (h1 : v < 1099511627776) (hK : 4611686018427387904 ≤ K) (hx : x.2.1.length ≤ 9223372036854775807) (hc : ∀ c ∈ x.2.1, c.2.1.length ≤ 9223372036854775807) :
    ∃ r, w_szInstance K (x, v, ()) = some r ∧ (0 ≤ r → (x.2.1.length + lenC x.2.1 : Int) ≤ v) := by
  simp only [w_szInstance, w_szClauseS]
  rw [w64 (x := v - x.2.1.length) (by omega) (by omega)]
  by_cases h : v < x.2.1.length
  · refine ⟨-1, ?_, fun h => by omega⟩
    rw [ite_t (decide_eq_true (by omega)), some_bind', if_pos (by decide)]
  · rw [ite_f (decide_eq_false (by omega))]
    have := szC_l (K := K) (fun z => some z) (fun z => some z) x.2.1 [] K (v - x.2.1.length) hc (by simp; omega) (by omega) (by omega) (by omega)
    simp only [List.nil_append, List.length_nil] at this
    rw [show ((0 : Nat) : Int) = 0 from rfl] at this
    rw [this]
    by_cases h2 : v - x.2.1.length < lenC x.2.1
    · refine ⟨-1, ?_, fun h => by omega⟩
      rw [if_pos h2, some_bind', if_pos (by decide)]
    · refine ⟨v - x.2.1.length - lenC x.2.1, ?_, fun h => by omega⟩
      rw [if_neg h2, some_bind', ite_f (decide_eq_false (by omega))]
theorem lenC_mem : ∀ (l : List DC) (c : DC), c ∈ l → c.2.1.length ≤ lenC l
  | a :: r, c, h => by
    rcases List.mem_cons.1 h with rfl | h
    · simp [lenC]
    · have := lenC_mem r c h; simp [lenC]; omega
theorem szC_eq : ∀ (l : List DC), szC l = 2 * l.length + lenC l
  | [] => rfl
  | c :: r => by simp only [szC, lenC, szC_eq r, List.length_cons]; omega
theorem idx_int64_l (f : Int × Unit → Option Bool) (g : Int → Bool) (l : List Int) (hl : l.length < 4611686018427387904) (kx : Option R) (kr : Int → Option R) : ∀ (r p : List Int) (k : Nat), l = p ++ r → r.length < k → (∀ x ∈ r, f (x, ()) = some (g x)) →
    slices_IndexFunc_int64_l2 K k l f (l.length : Int) (p.length : Int) kx kr = match r.findIdx? g with | some j => kr ((p.length + j : Nat) : Int) | none => kx
  | [], p, k + 1, h, _, _ => by subst h; simp only [slices_IndexFunc_int64_l2]; rw [ite_f nlt_len]; rfl
  | y :: r, p, k + 1, h, hk, hf => by
    subst h
    simp only [slices_IndexFunc_int64_l2]
    rw [ite_t lt_len, ite_t bnds_mid, getD_midI, hf y (by simp), some_bind', List.findIdx?_cons]
    cases hg : g y
    · rw [if_neg (by decide), if_neg (by decide), next_i hl, idx_int64_l f g _ hl kx kr r (p ++ [y]) k (mid_app p r y) (by simp at hk; omega) (fun x hx => hf x (by simp [hx]))]
      cases hr : r.findIdx? g
      · rfl
      · simp only [Option.map_some]; congr 1; simp; omega
    · rw [if_pos rfl, if_pos rfl]; rfl
theorem slices_IndexFunc_int64_eq (f : Int × Unit → Option Bool) (g : Int → Bool) {l : List Int} (hl : l.length < 4611686018427387904) (hK : 4611686018427387904 ≤ K) (hf : ∀ x ∈ l, f (x, ()) = some (g x)) :
    slices_IndexFunc_int64 K (l, f, ()) = some (match l.findIdx? g with | some j => (j : Int) | none => -1) := by
  simp only [slices_IndexFunc_int64]
  have := idx_int64_l (K := K) f g l hl (some (-1 : Int)) (fun z => some z) l [] K rfl (by omega) hf
  simp only [List.length_nil, Nat.zero_add] at this
  rw [show ((0 : Nat) : Int) = 0 from rfl] at this
  rw [this]; cases l.findIdx? g <;> rfl
theorem slices_ContainsFunc_int64_eq (f : Int × Unit → Option Bool) (g : Int → Bool) {l : List Int} (hl : l.length < 4611686018427387904) (hK : 4611686018427387904 ≤ K) (hf : ∀ x ∈ l, f (x, ()) = some (g x)) :
    slices_ContainsFunc_int64 K (l, f, ()) = some (l.any g) := by
  simp only [slices_ContainsFunc_int64]
  rw [slices_IndexFunc_int64_eq f g hl hK hf, some_bind', ← List.findIdx?_isSome]
  cases l.findIdx? g <;> simp
theorem idx_impl_Clause_l (f : DC × Unit → Option Bool) (g : DC → Bool) (l : List DC) (hl : l.length < 4611686018427387904) (kx : Option R) (kr : Int → Option R) : ∀ (r p : List DC) (k : Nat), l = p ++ r → r.length < k → (∀ x ∈ r, f (x, ()) = some (g x)) →
    slices_IndexFunc_impl_Clause_l2 K k l f (l.length : Int) (p.length : Int) kx kr = match r.findIdx? g with | some j => kr ((p.length + j : Nat) : Int) | none => kx
  | [], p, k + 1, h, _, _ => by subst h; simp only [slices_IndexFunc_impl_Clause_l2]; rw [ite_f nlt_len]; rfl
  | y :: r, p, k + 1, h, hk, hf => by
    subst h
    simp only [slices_IndexFunc_impl_Clause_l2]
    rw [ite_t lt_len, ite_t bnds_mid, getD_midI, hf y (by simp), some_bind', List.findIdx?_cons]
    cases hg : g y
    · rw [if_neg (by decide), if_neg (by decide), next_i hl, idx_impl_Clause_l f g _ hl kx kr r (p ++ [y]) k (mid_app p r y) (by simp at hk; omega) (fun x hx => hf x (by simp [hx]))]
      cases hr : r.findIdx? g
      · rfl
      · simp only [Option.map_some]; congr 1; simp; omega
    · rw [if_pos rfl, if_pos rfl]; rfl
theorem slices_IndexFunc_impl_Clause_eq (f : DC × Unit → Option Bool) (g : DC → Bool) {l : List DC} (hl : l.length < 4611686018427387904) (hK : 4611686018427387904 ≤ K) (hf : ∀ x ∈ l, f (x, ()) = some (g x)) :
    slices_IndexFunc_impl_Clause K (l, f, ()) = some (match l.findIdx? g with | some j => (j : Int) | none => -1) := by
  simp only [slices_IndexFunc_impl_Clause]
  have := idx_impl_Clause_l (K := K) f g l hl (some (-1 : Int)) (fun z => some z) l [] K rfl (by omega) hf
  simp only [List.length_nil, Nat.zero_add] at this
  rw [show ((0 : Nat) : Int) = 0 from rfl] at this
  rw [this]; cases l.findIdx? g <;> rfl
theorem slices_ContainsFunc_impl_Clause_eq (f : DC × Unit → Option Bool) (g : DC → Bool) {l : List DC} (hl : l.length < 4611686018427387904) (hK : 4611686018427387904 ≤ K) (hf : ∀ x ∈ l, f (x, ()) = some (g x)) :
    slices_ContainsFunc_impl_Clause K (l, f, ()) = some (l.any g) := by
  simp only [slices_ContainsFunc_impl_Clause]
  rw [slices_IndexFunc_impl_Clause_eq f g hl hK hf, some_bind', ← List.findIdx?_isSome]
  cases l.findIdx? g <;> simp
def inR (m v : Int) : Bool := decide (0 ≤ v) && decide (v ≤ m - 1)
def okC (m : Int) (c : DC) : Bool := isF 1 c.1 && decide ((c.2.1.length : Int) = c.1.1) && c.2.1.all (inR m)
def okX (x : DX) : Bool := decide (0 ≤ x.1) && decide (x.1 ≤ 8) && decide (x.2.1.length ≤ 12) && x.2.1.all (okC x.1)
/-- Lists that are not too long to go through. -/
def shX (x : DX) : Prop := x.2.1.length < 4611686018427387904 ∧ ∀ c ∈ x.2.1, c.2.1.length < 4611686018427387904
theorem not_any_not {α : Type} (l : List α) (g : α → Bool) : (!(l.any fun a => !g a)) = l.all g := by
  induction l with
  | nil => rfl
  | cons a l ih => simp only [List.any_cons, List.all_cons, Bool.not_or, Bool.not_not, ih]
theorem any_not {α : Type} (l : List α) (g : α → Bool) : (l.any fun a => !g a) = !(l.all g) := by rw [← not_any_not, Bool.not_not]
theorem i_IsInstance_c1_c1_eq {x : DX} {v : Int} (h : 0 ≤ x.1 ∧ x.1 ≤ 8) : i_IsInstance_c1_c1 K (v, x, ()) = some (!inR x.1 v) := by
  simp only [i_IsInstance_c1_c1, i_within_eq, some_bind', w64 (show -9223372036854775808 ≤ x.1 - 1 by omega) (show x.1 - 1 < 9223372036854775808 by omega)]
  rfl
theorem i_IsInstance_c1_eq {x : DX} {c : DC} (h : 0 ≤ x.1 ∧ x.1 ≤ 8) (hc : c.2.1.length < 4611686018427387904) (hK : 4611686018427387904 ≤ K) : i_IsInstance_c1 K (c, x, ()) = some (!okC x.1 c) := by
  simp only [i_IsInstance_c1, i_IsRelation_eq, some_bind', okC]
  cases h1 : isF 1 c.1
  · rfl
  · by_cases h2 : (c.2.1.length : Int) = c.1.1
    · rw [ite_f (by rfl), ite_f (by simp [h2]), slices_ContainsFunc_int64_eq _ (fun v => !inR x.1 v) hc hK (fun v _ => i_IsInstance_c1_c1_eq h), some_bind', any_not]
      simp [h2]
    · rw [ite_f (by rfl), ite_t (by simp [h2])]; simp [h2]
theorem i_IsInstance_eq {x : DX} (hx : shX x) (hK : 4611686018427387904 ≤ K) : i_IsInstance K (x, ()) = some (okX x) := by
  simp only [i_IsInstance, i_within_eq, some_bind', okX]
  by_cases h : 0 ≤ x.1 ∧ x.1 ≤ 8
  · rw [ite_t (and_dec.2 h)]
    by_cases h2 : x.2.1.length ≤ 12
    · rw [ite_t (decide_eq_true (by omega)), slices_ContainsFunc_impl_Clause_eq _ (fun c => !okC x.1 c) hx.1 hK (fun c hc => i_IsInstance_c1_eq h (hx.2 c hc) hK), some_bind', not_any_not]
      simp [h.1, h.2, h2]
    · rw [ite_f (decide_eq_false (by omega))]; simp [h2]
  · have e : (decide (0 ≤ x.1) && decide (x.1 ≤ 8)) = false := by cases hb : (decide (0 ≤ x.1) && decide (x.1 ≤ 8)); rfl; exact absurd (and_dec.1 hb) h
    rw [ite_f e, e]; rfl
theorem l09Is_l10 (x : DX) (i : Int) (c : DC) (hl : c.2.1.length < 4611686018427387904) (h8 : 0 ≤ x.1 ∧ x.1 ≤ 8) (kx : DX → Int → Option R) (kr : Bool → Option R) : ∀ (r p : List Int) (k : Nat), c.2.1 = p ++ r → r.length < k →
    s_l09Is_l10 K k x i c (p.length : Int) kx kr = if r.all (inR x.1) = true then kx x i else kr false
  | [], p, k + 1, h, hk => by simp only [s_l09Is_l10]; rw [h, ite_f nlt_len]; rfl
  | y :: r, p, k + 1, h, hk => by
    simp only [s_l09Is_l10]
    rw [h, ite_t lt_len, ite_t bnds_mid, getD_midI, s_l01In_eq, some_bind', w64 (by omega) (by omega), next_i (by rw [← h]; exact hl), l09Is_l10 x i c hl h8 kx kr r (p ++ [y]) k (by rw [h, mid_app]) (by simp at hk; omega)]
    rw [List.all_cons]
    show (if (!inR x.1 y) = true then _ else _) = _
    cases inR x.1 y <;> rfl
theorem l09Is_l4 (x : DX) (hx : shX x) (h8 : 0 ≤ x.1 ∧ x.1 ≤ 8) (kx : Option R) (kr : Bool → Option R) : ∀ (r p : List DC) (k : Nat), x.2.1 = p ++ r → 4611686018427387904 + r.length < k →
    s_l09Is_l4 K k x (p.length : Int) kx kr = if r.all (okC x.1) = true then kx else kr false
  | [], p, k + 1, h, hk => by simp only [s_l09Is_l4]; rw [h, ite_f nlt_len]; rfl
  | y :: r, p, k + 1, h, hk => by
    have hy : y.2.1.length < 4611686018427387904 := hx.2 y (by rw [h]; simp)
    simp only [s_l09Is_l4, s_l09Is_j9]
    rw [h, ite_t lt_len, ite_t bnds_mid, getD_midI, s_l06Is_eq, some_bind']
    have hl10 := l09Is_l10 (K := K) x (p.length : Int) y hy h8 (fun z8 z9 => s_l09Is_l4 K k z8 (IntKind.i64.wrap (z9 + (1 : Int))) kx kr) (fun z10 => kr z10) y.2.1 [] k rfl (by simp at hk; omega)
    simp only [List.length_nil] at hl10
    rw [show ((0 : Nat) : Int) = 0 from rfl] at hl10
    rw [hl10, next_i (by rw [← h]; exact hx.1), l09Is_l4 x hx h8 kx kr r (p ++ [y]) k (by rw [h, mid_app]) (by simp at hk; omega)]
    rw [List.all_cons, okC]
    cases isF 1 y.1
    · rfl
    · by_cases h2 : (y.2.1.length : Int) = y.1.1
      · rw [ite_f (by rfl), ite_f (by simp [h2])]
        rw [decide_eq_true h2]
        cases y.2.1.all (inR x.1) <;> rfl
      · rw [ite_f (by rfl), ite_t (by simp [h2])]; simp [h2]
theorem s_l09Is_eq {x : DX} (hx : shX x) (hK : 9223372036854775808 ≤ K) : s_l09Is K (x, ()) = some (okX x) := by
  simp only [s_l09Is, s_l01In_eq, some_bind', s_l09Is_j3, okX]
  by_cases h : 0 ≤ x.1 ∧ x.1 ≤ 8
  · have e := and_dec.2 h
    rw [ite_f (by rw [e]; rfl)]
    by_cases h2 : x.2.1.length ≤ 12
    · rw [ite_f (decide_eq_false (by omega))]
      have := l09Is_l4 (K := K) x hx h (some true) (fun z11 => some z11) x.2.1 [] K rfl (by have := hx.1; omega)
      simp only [List.length_nil] at this
      rw [show ((0 : Nat) : Int) = 0 from rfl] at this
      rw [this]; simp only [h.1, h.2, h2, decide_true, Bool.true_and]
      cases x.2.1.all (okC x.1) <;> rfl
    · rw [ite_t (decide_eq_true (by omega))]; simp [h2]
  · have e : (decide (0 ≤ x.1) && decide (x.1 ≤ 8)) = false := by cases hb : (decide (0 ≤ x.1) && decide (x.1 ≤ 8)); rfl; exact absurd (and_dec.1 hb) h
    rw [ite_t (by rw [e]; rfl), e]; rfl
def dg (b : Bool) (n : Nat) : Nat := if b = true then 2 ^ n else 0
theorem dg_le (b : Bool) (n : Nat) : dg b n ≤ 2 ^ n := by unfold dg; split <;> simp
theorem mkB_succ (g : Nat → Bool) (n : Nat) : mkB g (n + 1) = mkB g n + dg (g n) n := rfl
theorem shl_bt {a j n : Nat} (hn : n < 62) : shlI .i64 (bt a j) (n : Int) = ((dg (a.testBit j) n : Nat) : Int) := by
  unfold bt dg
  cases a.testBit j
  · have := shlI_n 0 n (by simp)
    simpa using this
  · rw [if_pos rfl, if_pos rfl, shl1 (by omega)]
theorem lt62 {n : Nat} (hn : n < 62) : 2 ^ (n + 1) ≤ 4611686018427387904 := Nat.le_trans (Nat.pow_le_pow_right (by decide) (show n + 1 ≤ 62 by omega)) (by decide)
theorem or_dg {x n : Nat} (hx : x < 2 ^ n) (hn : n < 62) (b : Bool) : bitI .or .i64 (x : Int) ((dg b n : Nat) : Int) = ((x + dg b n : Nat) : Int) := by
  have h2 := lt62 hn
  have h3 := Nat.pow_succ 2 n
  have h4 := dg_le b n
  rw [bitI_or (by omega) (by omega)]
  congr 1
  unfold dg; cases b
  · simp
  · rw [if_pos rfl, or_pow hx]
theorem okC_v {m : Int} {c : DC} (h : okC m c = true) (hm : m ≤ 8) : (∀ v ∈ c.2.1, 0 ≤ v ∧ v ≤ 7) ∧ c.2.1.length ≤ 4 ∧ isF 1 c.1 = true := by
  simp only [okC, Bool.and_eq_true, decide_eq_true_eq, List.all_eq_true] at h
  obtain ⟨⟨h1, h2⟩, h3⟩ := h
  refine ⟨fun v hv => ?_, ?_, h1⟩
  · have := h3 v hv
    simp only [inR, and_dec] at this
    omega
  · obtain ⟨n, b, e, h4, _, _⟩ := isF_nat h1 (by decide)
    rw [e] at h2
    have h2 : (c.2.1.length : Int) = n := h2
    omega
theorem okX_h {x : DX} (h : okX x = true) : 0 ≤ x.1 ∧ x.1 ≤ 8 ∧ x.2.1.length ≤ 12 ∧ ∀ c ∈ x.2.1, okC x.1 c = true := by
  simp only [okX, Bool.and_eq_true, decide_eq_true_eq, List.all_eq_true] at h
  exact ⟨h.1.1.1, h.1.1.2, h.1.2, h.2⟩
/-- The numbers below n that are such, as Go's numbers. -/
def sel (P : Nat → Bool) (n : Nat) : List Int := ((List.range n).filter P).map fun (a : Nat) => (a : Int)
theorem sel_succ (P : Nat → Bool) (n : Nat) : sel P (n + 1) = if P n = true then sel P n ++ [(n : Int)] else sel P n := by
  simp only [sel, List.range_succ, List.filter_append, List.map_append]
  cases h : P n <;> simp [h]
theorem sel_len (P : Nat → Bool) : ∀ n, (sel P n).length ≤ n
  | 0 => by simp [sel]
  | n + 1 => by
    have := sel_len P n
    rw [sel_succ]; split <;> simp <;> omega
theorem lim_len {l : List Int} {m : Int} (h : l.length < 1099511627776) : decide (l.length + [m].length ≤ lim) = true := by
  apply decide_eq_true; simp [lim]; omega
/-- What is known of an instance whose size the statement lets in. -/
def smX (x : DX) : Prop := (x.2.1.length + lenC x.2.1 : Int) ≤ 1048576
theorem smX_h {x : DX} (h : smX x) : x.2.1.length ≤ 1048576 ∧ (∀ c ∈ x.2.1, c.2.1.length ≤ 1048576) ∧ szC x.2.1 ≤ 3145728 := by
  unfold smX at h
  refine ⟨by omega, fun c hc => ?_, ?_⟩
  · have := lenC_mem _ c hc; omega
  · rw [szC_eq]; omega
theorem smX_sh {x : DX} (h : smX x) : shX x := by
  obtain ⟨h1, h2, _⟩ := smX_h h
  exact ⟨by omega, fun c hc => by have := h2 c hc; omega⟩
theorem smX_to {x : DX} (h : smX x) (hK : 4611686018427387904 ≤ K) : w_toInstance K (x, ()) = some x := by
  obtain ⟨h1, h2, _⟩ := smX_h h
  exact w_toInstance_eq (fun c hc => by have := h2 c hc; omega) (by omega) hK
theorem smX_eq {x : DX} (h : smX x) (hK : 4611686018427387904 ≤ K) : w_eqInstance K (x, x, ()) = some true :=
  w_eqInstance_refl hK (smX_sh h).2 (smX_sh h).1
theorem smX_mark {x : DX} (h : smX x) (hK : 4611686018427387904 ≤ K) : w_markInstance K (x, (1 : Int), ()) = some ((1 : Int) + szC x.2.1, ((x.1, markC x.2.1 1, ()), ())) := by
  obtain ⟨_, _, h3⟩ := smX_h h
  exact w_markInstance_eq hK (by decide) (by omega)
theorem mark_pos (n : Nat) : decide ((1 + (n : Int)) < 0) = false := decide_eq_false (by omega)
abbrev TC1 : Ty := .st (.pair (.st (.pair (.int .i64) (.pair (.int .i64) .unit))) (.pair (.sl (.int .i64)) .unit))
abbrev TX : Ty := .st (.pair (.int .i64) (.pair (.sl TC1) .unit))
theorem i64_wf {n : Int} (h : (Lit.int .i64 n).wf = true) : -9223372036854775808 ≤ n ∧ n < 9223372036854775808 := by
  have := bounds_i64 h; omega
theorem okD_X {x : den TX} (h : okD TX x) : (-9223372036854775808 ≤ x.1 ∧ x.1 < 9223372036854775808) ∧ x.2.1.length ≤ 9223372036854775807 ∧ ∀ c ∈ x.2.1, (c : DC).2.1.length ≤ 9223372036854775807 :=
  ⟨i64_wf h.1, h.2.1.1, fun c hc => (h.2.1.2 c hc).2.1.1⟩
/-- The statement's size guard. -/
theorem sz_guard {x : DX} (hx : okD TX x) (hK : 4611686018427387904 ≤ K) (f : Int → Option Bool) (h : smX x → ∀ y, ¬ y < 0 → f y = some true) (hn : ∀ y, y < 0 → f y = some true) : (w_szInstance K (x, (1048576 : Int), ())).bind f = some true := by
  obtain ⟨_, h1, h2⟩ := okD_X hx
  obtain ⟨r, hr, hle⟩ := w_szInstance_eq (K := K) (x := x) (v := 1048576) (by decide) (by decide) hK h1 h2
  rw [hr, some_bind']
  by_cases h0 : r < 0
  · exact hn r h0
  · exact h (hle (by omega)) r h0
/-- Marks in a list of numbers are held. -/
theorem mk_held {l : List Int} (hl : l.length ≤ 1099511627776) (hK : 4611686018427387904 ≤ K) : w_markInt64S K (l, (1 : Int), ()) = some (1 + (l.length : Int), (seqI 1 l.length, ())) ∧ w_heldInt64S K (seqI 1 l.length, (1 : Int), ()) = some (1 + (l.length : Int)) :=
  ⟨w_markInt64S_eq (by omega) hK (by decide) (by omega), w_heldInt64S_eq hK (by decide) (by omega)⟩
theorem lim_app {α : Type} {l m : List α} (h : l.length + m.length ≤ 1099511627776) : decide (l.length + m.length ≤ lim) = true := decide_eq_true h
theorem getD_map (l : List Nat) (i : Nat) : (l.map fun (a : Nat) => (a : Int)).getD ((i : Int)).toNat 0 = ((l.getD i 0 : Nat) : Int) := by
  rw [Int.toNat_natCast]
  simp only [List.getD, List.getElem?_map]
  cases l[i]? <;> rfl
theorem slices_Clone_int64_eq {l : List Int} (h : l.length ≤ 1099511627776) : slices_Clone_int64 K (l, ()) = some l := if_pos h
theorem s_l01Own_eq {l : List Int} (h : l.length ≤ 1099511627776) : s_l01Own K (l, ()) = some l := by
  simp only [s_l01Own]; rw [ite_t (lim_app (by simp; omega))]; rfl
theorem tuples_l (n : Int) (b : Nat) (hb : b < 9223372036854775808) (N : Nat) (hN : N ≤ 65536) (kx : List Int → Option R) : ∀ (m i k : Nat), i + m = N → m < k →
    i_Relation_tuples_l3 K k (n, (b : Int), ()) (sel b.testBit i) (N : Int) (i : Int) kx = kx (sel b.testBit N)
  | 0, i, k + 1, e, _ => by
    obtain rfl : i = N := by omega
    simp only [i_Relation_tuples_l3]; rw [ite_f (by simp)]
  | m + 1, i, k + 1, e, hk => by
    have hl := sel_len b.testBit i
    simp only [i_Relation_tuples_l3]
    have ih := tuples_l n b hb N hN kx m (i + 1) k (by omega) (by omega)
    rw [sel_succ] at ih
    rw [ite_t (decide_eq_true (by omega)), i_Relation_has_eq i hb, some_bind', w64s (by omega), ite_t (lim_len (by omega))]
    cases hs : b.testBit i
    · rw [hs, if_neg (by decide)] at ih
      rw [if_neg (by decide)]; exact ih
    · rw [hs, if_pos rfl] at ih
      rw [if_pos rfl]; exact ih
theorem i_tuples_eq {n b : Nat} (hn : n ≤ 4) (hb : b < 9223372036854775808) (hK : 4611686018427387904 ≤ K) : i_Relation_tuples K (((n : Int), (b : Int), ()), ()) = some (sel b.testBit (2 ^ n)) := by
  have hp := pw4 hn
  simp only [i_Relation_tuples, i_rowsOf_eq (show n < 63 by omega), some_bind']
  exact tuples_l (K := K) (n : Int) b hb (2 ^ n) (by omega) (fun z => some z) (2 ^ n) 0 K (by omega) (by omega)
def rowV (ch : List Nat) (a i : Nat) : Nat := mkB (fun j => (ch.getD j 0).testBit i) a
def valV (fb n : Nat) (ch : List Nat) : Nat := mkB (fun i => fb.testBit (rowV ch ch.length i)) n
def madeV (fb n : Nat) (L : List Nat) : Nat → List Nat → Nat
  | 0, ch => 2 ^ valV fb n ch
  | m + 1, ch => L.foldl (fun acc t => acc ||| madeV fb n L m (ch ++ [t])) 0
def keepV (fb n B : Nat) (L : List Nat) : Nat → List Nat → Bool
  | 0, ch => B.testBit (valV fb n ch)
  | m + 1, ch => L.all fun t => keepV fb n B L m (ch ++ [t])
theorem fold_bit (F : Nat → Nat) (j : Nat) : ∀ (L : List Nat) (acc : Nat), (L.foldl (fun acc t => acc ||| F t) acc).testBit j = (acc.testBit j || L.any fun t => (F t).testBit j)
  | [], acc => by simp
  | t :: L, acc => by rw [List.foldl_cons, fold_bit F j L, Nat.testBit_or, List.any_cons, Bool.or_assoc]
theorem keep_made (fb n B : Nat) (L : List Nat) : ∀ (m : Nat) (ch : List Nat), keepV fb n B L m ch = true ↔ ∀ j, (madeV fb n L m ch).testBit j = true → B.testBit j = true
  | 0, ch => by
    simp only [keepV, madeV, Nat.testBit_two_pow, decide_eq_true_eq]
    constructor
    · rintro h j rfl; exact h
    · intro h; exact h _ rfl
  | m + 1, ch => by
    simp only [keepV, madeV, fold_bit, List.all_eq_true, keep_made fb n B L m, Nat.zero_testBit, Bool.false_or, List.any_eq_true]
    constructor
    · rintro h j ⟨t, h1, h2⟩; exact h t h1 j h2
    · intro h t h1 j h2; exact h j ⟨t, h1, h2⟩
theorem valV_lt (fb n : Nat) (ch : List Nat) : valV fb n ch < 2 ^ n := mkB_lt _ _
theorem fold_lt {F : Nat → Nat} {w : Nat} : ∀ (L : List Nat) (acc : Nat), acc < 2 ^ w → (∀ t ∈ L, F t < 2 ^ w) → L.foldl (fun acc t => acc ||| F t) acc < 2 ^ w
  | [], acc, h, _ => h
  | t :: L, acc, h, h2 => by rw [List.foldl_cons]; exact fold_lt L _ (Nat.or_lt_two_pow h (h2 t (by simp))) (fun t ht => h2 t (by simp [ht]))
theorem madeV_lt {fb n : Nat} (hn : n ≤ 4) (L : List Nat) : ∀ (m : Nat) (ch : List Nat), madeV fb n L m ch < 2 ^ 16
  | 0, ch => by
    have := valV_lt fb n ch
    have := pw4 hn
    exact Nat.pow_lt_pow_right (by decide) (by omega)
  | m + 1, ch => fold_lt L 0 (Nat.two_pow_pos _) (fun t _ => madeV_lt hn L m _)
theorem bitI_andNot0 {a b : Nat} (ha : a < 9223372036854775808) (hb : b < 9223372036854775808) : bitI .andNot .i64 (a : Int) (b : Int) = 0 ↔ ∀ j, a.testBit j = true → b.testBit j = true := by
  have e : bitI .andNot .i64 (a : Int) (b : Int) = ((a ^^^ (a &&& b) : Nat) : Int) := by
    have h1 : a &&& b ≤ a := Nat.and_le_left
    have h2 : a ^^^ (a &&& b) < 9223372036854775808 := Nat.xor_lt_two_pow (n := 63) ha (by omega)
    show IntKind.i64.wrap (((BitVec.ofInt 64 (a : Int) &&& ~~~(BitVec.ofInt 64 (b : Int)) : BitVec 64).toNat : Nat) : Int) = _
    have e2 : ∀ x y : BitVec 64, x &&& ~~~y = x ^^^ (x &&& y) := fun x y => by
      apply BitVec.eq_of_getLsbD_eq; intro i hi; simp [hi]; cases x[i] <;> cases y[i] <;> rfl
    rw [e2]
    simp only [BitVec.toNat_xor, BitVec.toNat_and, BitVec.toNat_ofInt]
    simp only [show ((2 ^ 64 : Nat) : Int) = 18446744073709551616 from rfl, emod2n]
    rw [Nat.mod_eq_of_lt (by omega), Nat.mod_eq_of_lt (by omega), w64n (by omega)]
  rw [e]
  constructor
  · intro h j hj
    have h : a ^^^ (a &&& b) = 0 := by omega
    have := congrArg (fun z => z.testBit j) h
    simp only [Nat.testBit_xor, Nat.testBit_and, Nat.zero_testBit, hj] at this
    cases hb : b.testBit j
    · rw [hb] at this; simp at this
    · rfl
  · intro h
    have : a ^^^ (a &&& b) = 0 := by
      apply Nat.eq_of_testBit_eq; intro j
      simp only [Nat.testBit_xor, Nat.testBit_and, Nat.zero_testBit]
      cases ha : a.testBit j
      · rfl
      · rw [h j ha]; rfl
    rw [this]; rfl
theorem value_l7 (ch : List Nat) (hc : ∀ t ∈ ch, t < 16) (hl : ch.length ≤ 4) (v2 : Int) (f : DF) (x7 : Int) (i : Nat) (hi : i < 16) (kx : List Int → Int → DF → Int → Int → Int → Option R) : ∀ (m j k : Nat), j + m = ch.length → m < k →
    s_l06Value_l7 K k (ch.map fun (a : Nat) => (a : Int)) v2 f x7 (i : Int) ((mkB (fun j => (ch.getD j 0).testBit i) j : Nat) : Int) (j : Int) kx = kx (ch.map fun (a : Nat) => (a : Int)) v2 f x7 (i : Int) ((rowV ch ch.length i : Nat) : Int)
  | 0, j, k + 1, e, _ => by
    simp only [s_l06Value_l7]; rw [ite_f (decide_eq_false (by simp; omega))]
    obtain rfl : j = ch.length := by omega
    rfl
  | m + 1, j, k + 1, e, hk => by
    have ih := value_l7 ch hc hl v2 f x7 i hi kx m (j + 1) k (by omega) (by omega)
    rw [mkB_succ] at ih
    have ht : ch.getD j 0 < 16 := hc _ (by simp [List.getD, List.getElem?_eq_getElem (show j < ch.length by omega)])
    simp only [s_l06Value_l7]
    rw [ite_t (decide_eq_true (by simp; omega)), ite_t (bnds_n (by simp; omega)), ite_t (u64_dec _), ite_t (u64_dec _), u64n (n := i) (by omega), u64n (n := j) (by omega), getD_map, bitI_bt i (by omega), shl_bt (by omega), or_dg (mkB_lt _ _) (by omega), w64s (by omega), ih]
theorem value_l3 (ch : List Nat) (hc : ∀ t ∈ ch, t < 16) (hl : ch.length ≤ 4) (fb n : Nat) (hn : n ≤ 4) (hf : fb < 65536) (fa : Int) (kx : Int → Option R) : ∀ (m i k : Nat), i + m = n → 100 + m < k →
    s_l06Value_l3 K k (ch.map fun (a : Nat) => (a : Int)) (n : Int) (fa, (fb : Int), ()) ((mkB (fun i => fb.testBit (rowV ch ch.length i)) i : Nat) : Int) (i : Int) kx = kx ((valV fb n ch : Nat) : Int)
  | 0, i, k + 1, e, _ => by
    simp only [s_l06Value_l3]; rw [ite_f (decide_eq_false (by omega))]
    obtain rfl : i = n := by omega
    rfl
  | m + 1, i, k + 1, e, hk => by
    have ih := value_l3 ch hc hl fb n hn hf fa kx m (i + 1) k (by omega) (by omega)
    rw [mkB_succ] at ih
    have h7 := fun kx => value_l7 (K := K) (R := R) ch hc hl (n : Int) (fa, (fb : Int), ()) ((mkB (fun i => fb.testBit (rowV ch ch.length i)) i : Nat) : Int) i (by omega) kx ch.length 0 k (by omega) (by omega)
    simp only [mkB] at h7
    rw [show ((0 : Nat) : Int) = 0 from rfl] at h7
    have hr : rowV ch ch.length i < 16 := Nat.lt_of_lt_of_le (mkB_lt _ _) (pw4 hl)
    simp only [s_l06Value_l3]
    rw [ite_t (decide_eq_true (by omega)), h7, s_l01At_eq (by omega) (by omega), some_bind', ite_t (u64_dec _), u64n (by omega), shl_bt (by omega), or_dg (mkB_lt _ _) (by omega), w64s (by omega), ih]
theorem s_l06Value_eq {ch : List Nat} (hc : ∀ t ∈ ch, t < 16) (hl : ch.length ≤ 4) {fb n : Nat} (hn : n ≤ 4) (hf : fb < 65536) (fa : Int) (hK : 4611686018427387904 ≤ K) : s_l06Value K ((fa, (fb : Int), ()), ch.map (fun (a : Nat) => (a : Int)), (n : Int), ()) = some ((valV fb n ch : Nat) : Int) := by
  simp only [s_l06Value]
  exact value_l3 (K := K) ch hc hl fb n hn hf fa (fun z => some z) n 0 K (by omega) (by omega)
def relL (B n : Nat) : List Nat := (List.range (2 ^ n)).filter B.testBit
theorem relL_lt {B n t : Nat} (h : t ∈ relL B n) : t < 2 ^ n := List.mem_range.1 (List.mem_filter.1 h).1
theorem relL_len (B n : Nat) : (relL B n).length ≤ 2 ^ n := Nat.le_trans (List.length_filter_le _ _) (by simp)
theorem made_l5 (B n fb a : Nat) (hn : n ≤ 4) (hf : fb < 65536) (hB : B < 9223372036854775808) (ch : List Nat) (hl : ch.length < 4) (mm : Nat) (r : DF × DF × List Int × List Int × Unit → Option Int) (hr : ∀ t ∈ relL B n, r (((a : Int), (fb : Int), ()), ((n : Int), (B : Int), ()), (relL B n).map (fun (a : Nat) => (a : Int)), (ch ++ [t]).map (fun (a : Nat) => (a : Int)), ()) = some ((madeV fb n (relL B n) mm (ch ++ [t]) : Nat) : Int)) (kx : Int → Option R) : ∀ (q p : List Nat) (k acc : Nat), relL B n = p ++ q → q.length < k → acc < 2 ^ 16 →
    s_l06Made_l5 K r k ((relL B n).map fun (a : Nat) => (a : Int)) (ch.map fun (a : Nat) => (a : Int)) ((a : Int), (fb : Int), ()) ((n : Int), (B : Int), ()) (acc : Int) (p.length : Int) kx = kx ((q.foldl (fun acc t => acc ||| madeV fb n (relL B n) mm (ch ++ [t])) acc : Nat) : Int)
  | [], p, k + 1, acc, e, _, _ => by
    simp only [s_l06Made_l5]; rw [ite_f (decide_eq_false (by rw [e]; simp))]; rfl
  | t :: q, p, k + 1, acc, e, hk, ha => by
    have hm := madeV_lt (fb := fb) hn (relL B n) mm (ch ++ [t])
    have ih := made_l5 B n fb a hn hf hB ch hl mm r hr kx q (p ++ [t]) k (acc ||| madeV fb n (relL B n) mm (ch ++ [t])) (by rw [e, mid_app]) (by simp at hk; omega) (Nat.or_lt_two_pow ha hm)
    simp only [snoc_len] at ih
    have hp : p.length < (relL B n).length := by rw [e]; simp
    have h4 := relL_len B n
    have h5 := pw4 hn
    have ht : ((relL B n).map fun (a : Nat) => (a : Int)).getD ((p.length : Int)).toNat 0 = (t : Int) := by rw [getD_map, show (relL B n).getD p.length 0 = t from by rw [e]; exact getD_mid p q t 0]
    have e2 : ch.map (fun (a : Nat) => (a : Int)) ++ [(t : Int)] = (ch ++ [t]).map (fun (a : Nat) => (a : Int)) := by simp
    have hrt := hr t (by rw [e]; simp)
    simp only [s_l06Made_l5]
    rw [ite_t (decide_eq_true (by simp; omega)), s_l01Own_eq (by simp; omega), some_bind', ite_t (bnds_n (by simpa using hp)), ht, ite_t (lim_len (by simp; omega)), e2, hrt, some_bind', bitI_or (by omega) (by omega), w64s (by omega), ih]; rfl
theorem s_made_eq {B n fb a : Nat} (hn : n ≤ 4) (ha : a ≤ 4) (hf : fb < 65536) (hB : B < 9223372036854775808) (hK : 4611686018427387904 ≤ K) : ∀ (m k : Nat) (ch : List Nat), ch.length + m = a → m < k → (∀ t ∈ ch, t < 16) →
    s_l06Made K k (((a : Int), (fb : Int), ()), ((n : Int), (B : Int), ()), (relL B n).map (fun (a : Nat) => (a : Int)), ch.map (fun (a : Nat) => (a : Int)), ()) = some ((madeV fb n (relL B n) m ch : Nat) : Int)
  | 0, k + 1, ch, e, _, hc => by
    have hp := pw4 hn
    have hv := valV_lt fb n ch
    rw [s_l06Made]
    simp only [s_l06Made_b]
    rw [ite_t (decide_eq_true (by simp; omega)), s_l06Value_eq hc (by omega) hn hf _ hK, some_bind', ite_t (u64_dec _), u64n (by omega), shl1 (by omega)]; rfl
  | m + 1, k + 1, ch, e, hk, hc => by
    have hp := pw4 hn
    have h4 := relL_len B n
    rw [s_l06Made]
    simp only [s_l06Made_b]
    have := made_l5 (K := K) B n fb a hn hf hB ch (by omega) m (s_l06Made K k) (fun t ht => s_made_eq hn ha hf hB hK m k (ch ++ [t]) (by simp; omega) (by omega) (fun u hu => by
      rcases List.mem_append.1 hu with h | h
      · exact hc u h
      · have := relL_lt ht; simp at h; omega)) (fun z => some z) (relL B n) [] K 0 rfl (by omega) (by decide)
    simp only [List.length_nil] at this
    rw [show ((0 : Nat) : Int) = 0 from rfl] at this
    rw [ite_f (decide_eq_false (by simp; omega)), this]; rfl
theorem s_list_l (n B : Nat) (hn : n ≤ 4) (hB : B < 9223372036854775808) (kx : List Int → Option R) : ∀ (m i k : Nat), i + m = 2 ^ n → m < k →
    s_l06List_l3 K k ((n : Int), (B : Int), ()) (sel B.testBit i) (i : Int) kx = kx (sel B.testBit (2 ^ n))
  | 0, i, k + 1, e, _ => by
    obtain rfl : i = 2 ^ n := by omega
    simp only [s_l06List_l3, s_l01Rows_eq (show n < 63 by omega), some_bind']; rw [ite_f (by simp)]
  | m + 1, i, k + 1, e, hk => by
    have hp := pw4 hn
    have hl := sel_len B.testBit i
    simp only [s_l06List_l3, s_l01Rows_eq (show n < 63 by omega), some_bind']
    have ih := s_list_l n B hn hB kx m (i + 1) k (by omega) (by omega)
    rw [sel_succ] at ih
    rw [ite_t (decide_eq_true (by omega)), ite_t (u64_dec _), u64n (by omega), bitI_bt i hB, bt_dec, w64s (by omega), ite_t (lim_len (by omega))]
    cases hs : B.testBit i
    · rw [hs, if_neg (by decide)] at ih
      rw [if_neg (by decide)]; exact ih
    · rw [hs, if_pos rfl] at ih
      rw [if_pos rfl]; exact ih
theorem s_l06List_eq {n B : Nat} (hn : n ≤ 4) (hB : B < 9223372036854775808) (hK : 4611686018427387904 ≤ K) : s_l06List K (((n : Int), (B : Int), ()), ()) = some ((relL B n).map fun (a : Nat) => (a : Int)) := by
  have hp := pw4 hn
  simp only [s_l06List]
  exact s_list_l (K := K) n B hn hB (fun z => some z) (2 ^ n) 0 K (by omega) (by omega)
theorem s_l06Keeps_eq {n B fb a : Nat} (hn : n ≤ 4) (ha : a ≤ 4) (hf : fb < 65536) (hB : B < 9223372036854775808) (hK : 4611686018427387904 ≤ K) : s_l06Keeps K (((a : Int), (fb : Int), ()), ((n : Int), (B : Int), ()), ()) = some (keepV fb n B (relL B n) a []) := by
  have hm := madeV_lt (fb := fb) hn (relL B n) a []
  have := s_made_eq (K := K) (B := B) (fb := fb) hn ha hf hB hK a K [] (by simp) (by omega) (by simp)
  simp only [List.map_nil] at this
  simp only [s_l06Keeps, s_l06List_eq hn hB hK, some_bind', this]
  congr 1
  rw [Bool.eq_iff_iff, decide_eq_true_eq, keep_made, bitI_andNot0 (by omega) hB]
def rowsV (ch : List Nat) (n : Nat) : List Int := (List.range n).map fun i => ((rowV ch ch.length i : Nat) : Int)
theorem getD_mr {α : Type} (f : Nat → α) {n i : Nat} (h : i < n) (d : α) : ((List.range n).map f).getD i d = f i := by
  simp [List.getD, List.getElem?_map, List.getElem?_range h]
theorem rowV_lt {ch : List Nat} (hl : ch.length ≤ 4) (i : Nat) : rowV ch ch.length i < 16 := Nat.lt_of_lt_of_le (mkB_lt _ _) (pw4 hl)
theorem rowV_snoc (ch : List Nat) (t i : Nat) : rowV (ch ++ [t]) (ch ++ [t]).length i = rowV ch ch.length i + dg (t.testBit i) ch.length := by
  rw [snoc_len, rowV, mkB_succ]
  congr 1
  · exact mkB_congr fun j hj => by simp [List.getD, List.getElem?_append_left hj]
  · simp [List.getD]
theorem i_made_l4 (ch : List Nat) (hl : ch.length ≤ 4) (n fb : Nat) (hn : n ≤ 4) (hf : fb < 65536) (fa : Int) (h : Int × Unit → Option Bool) (r : DF × Int × List Int × List Int × Int × (Int × Unit → Option Bool) × Unit → Option Bool) (kx : (Int × Unit → Option Bool) → Int → Option R) : ∀ (m i k : Nat), i + m = n → m < k →
    i_Func_made_l4 K r k (rowsV ch n) h (fa, (fb : Int), ()) ((mkB (fun i => fb.testBit (rowV ch ch.length i)) i : Nat) : Int) (n : Int) (i : Int) kx = kx h ((valV fb n ch : Nat) : Int)
  | 0, i, k + 1, e, _ => by
    obtain rfl : i = n := by omega
    simp only [i_Func_made_l4]; rw [ite_f (decide_eq_false (by omega))]; rfl
  | m + 1, i, k + 1, e, hk => by
    have ih := i_made_l4 ch hl n fb hn hf fa h r kx m (i + 1) k (by omega) (by omega)
    rw [mkB_succ] at ih
    have hr := rowV_lt hl i
    have hg : (rowsV ch n).getD ((i : Int)).toNat 0 = ((rowV ch ch.length i : Nat) : Int) := by rw [Int.toNat_natCast]; exact getD_mr _ (by omega) _
    simp only [i_Func_made_l4]
    rw [ite_t (decide_eq_true (by omega)), ite_t (bnds_n (by simp [rowsV]; omega)), hg, i_Func_at_eq _ (by omega), some_bind', ite_t (nn _), shl_bt (by omega), or_dg (mkB_lt _ _) (by omega), w64s (by omega), ih]
def mixV (ch : List Nat) (t n i : Nat) : List Int := (List.range n).map fun q => if q < i then ((rowV (ch ++ [t]) (ch ++ [t]).length q : Nat) : Int) else ((rowV ch ch.length q : Nat) : Int)
theorem mixV_0 (ch : List Nat) (t n : Nat) : mixV ch t n 0 = rowsV ch n := by simp [mixV, rowsV]
theorem mixV_n (ch : List Nat) (t n : Nat) : mixV ch t n n = rowsV (ch ++ [t]) n := by
  apply List.map_congr_left; intro q hq; rw [if_pos (List.mem_range.1 hq)]
theorem mixV_set {ch : List Nat} {t n i : Nat} (h : i < n) : (mixV ch t n i).set i ((rowV (ch ++ [t]) (ch ++ [t]).length i : Nat) : Int) = mixV ch t n (i + 1) := by
  apply List.ext_getElem
  · simp [mixV]
  · intro q h1 h2
    rw [List.getElem_set]
    simp only [mixV, List.getElem_map, List.getElem_range]
    by_cases e : i = q
    · subst e; rw [if_pos rfl, if_pos (by omega)]
    · rw [if_neg e]
      by_cases e2 : q < i
      · rw [if_pos e2, if_pos (by omega)]
      · rw [if_neg e2, if_neg (by omega)]
theorem i_made_l14 (ch : List Nat) (hl : ch.length < 4) (n t : Nat) (hn : n ≤ 4) (ht : t < 16) (r : DF × Int × List Int × List Int × Int × (Int × Unit → Option Bool) × Unit → Option Bool) (v1 : Int) (v2 v3 : List Int) (v5 : Int × Unit → Option Bool) (v6 : DF) (v41 : List Int) (v42 v43 : Int) (kx : Int → List Int → List Int → Int → (Int × Unit → Option Bool) → DF → List Int → List Int → Int → Int → Option R) : ∀ (m i k : Nat), i + m = n → m < k →
    i_Func_made_l14 K r k v1 v2 v3 (ch.length : Int) v5 v6 (t : Int) (mixV ch t n i) v41 v42 v43 (n : Int) (i : Int) kx = kx v1 v2 v3 (ch.length : Int) v5 v6 (rowsV (ch ++ [t]) n) v41 v42 v43
  | 0, i, k + 1, e, _ => by
    obtain rfl : i = n := by omega
    simp only [i_Func_made_l14]; rw [ite_f (decide_eq_false (by omega)), mixV_n]
  | m + 1, i, k + 1, e, hk => by
    have ih := i_made_l14 ch hl n t hn ht r v1 v2 v3 v5 v6 v41 v42 v43 kx m (i + 1) k (by omega) (by omega)
    have hg : (mixV ch t n i).getD ((i : Int)).toNat 0 = ((rowV ch ch.length i : Nat) : Int) := by
      rw [Int.toNat_natCast]
      have := getD_mr (fun q => if q < i then ((rowV (ch ++ [t]) (ch ++ [t]).length q : Nat) : Int) else ((rowV ch ch.length q : Nat) : Int)) (show i < n by omega) 0
      rw [if_neg (by omega)] at this; exact this
    have hb : bnds (i : Int) ((mixV ch t n i).length : Int) = true := bnds_n (by simp [mixV]; omega)
    have hr : rowV ch ch.length i < 2 ^ ch.length := mkB_lt _ _
    simp only [i_Func_made_l14]
    rw [ite_t (decide_eq_true (by omega)), ite_t hb, i_bit_eq i (by omega), some_bind', ite_t (nn _), hg, shl_bt (by omega), or_dg hr (by omega), ite_t hb, ← rowV_snoc, Int.toNat_natCast, mixV_set (by omega), w64s (by omega), ih]
theorem i_made_l10 (B n fb a : Nat) (hn : n ≤ 4) (ch : List Nat) (hl : ch.length < 4) (mm : Nat) (h : Int × Unit → Option Bool) (r : DF × Int × List Int × List Int × Int × (Int × Unit → Option Bool) × Unit → Option Bool) (hr : ∀ t ∈ relL B n, r (((a : Int), (fb : Int), ()), (n : Int), (relL B n).map (fun (a : Nat) => (a : Int)), rowsV (ch ++ [t]) n, ((ch ++ [t]).length : Int), h, ()) = some (keepV fb n B (relL B n) mm (ch ++ [t]))) (kx : Option R) (kr : Bool → Option R) : ∀ (q p : List Nat) (k : Nat), relL B n = p ++ q → 100 + q.length < k →
    i_Func_made_l10 K r k (n : Int) ((relL B n).map fun (a : Nat) => (a : Int)) (rowsV ch n) (ch.length : Int) h ((a : Int), (fb : Int), ()) ((relL B n).map fun (a : Nat) => (a : Int)) (((relL B n).map fun (a : Nat) => (a : Int)).length : Int) (p.length : Int) kx kr = if (q.all fun t => keepV fb n B (relL B n) mm (ch ++ [t])) = true then kx else kr false
  | [], p, k + 1, e, _ => by
    simp only [i_Func_made_l10]; rw [ite_f (decide_eq_false (by rw [e]; simp))]; rfl
  | t :: q, p, k + 1, e, hk => by
    have ih := i_made_l10 B n fb a hn ch hl mm h r hr kx kr q (p ++ [t]) k (by rw [e, mid_app]) (by simp at hk; omega)
    simp only [snoc_len] at ih
    have hp : p.length < (relL B n).length := by rw [e]; simp
    have hmem : t ∈ relL B n := by rw [e]; simp
    have h4 := relL_len B n
    have h5 := pw4 hn
    have ht16 : t < 16 := by have := relL_lt hmem; omega
    have ht : ((relL B n).map fun (a : Nat) => (a : Int)).getD ((p.length : Int)).toNat 0 = (t : Int) := by rw [getD_map, show (relL B n).getD p.length 0 = t from by rw [e]; exact getD_mid p q t 0]
    have h14 := fun kx => i_made_l14 (K := K) (R := R) ch hl n t hn ht16 r (n : Int) ((relL B n).map fun (a : Nat) => (a : Int)) (rowsV ch n) h ((a : Int), (fb : Int), ()) ((relL B n).map fun (a : Nat) => (a : Int)) (((relL B n).map fun (a : Nat) => (a : Int)).length : Int) (p.length : Int) kx n 0 k (by omega) (by simp at hk; omega)
    rw [mixV_0, show ((0 : Nat) : Int) = 0 from rfl] at h14
    have hrt := hr t hmem
    rw [snoc_len] at hrt
    simp only [i_Func_made_l10]
    rw [ite_t (decide_eq_true (by simp; omega)), ite_t (bnds_n (by simpa using hp)), slices_Clone_int64_eq (by simp [rowsV]; omega), some_bind', ht, h14, w64s (by omega), hrt, some_bind', w64s (by omega), ih, List.all_cons]
    cases keepV fb n B (relL B n) mm (ch ++ [t]) <;> rfl
theorem i_made_eq {B n fb a : Nat} (hn : n ≤ 4) (ha : a ≤ 4) (hf : fb < 65536) (h : Int × Unit → Option Bool) (hh : ∀ v : Nat, v < 2 ^ n → h ((v : Int), ()) = some (B.testBit v)) (hK : 4611686018427387904 ≤ K) : ∀ (m k : Nat) (ch : List Nat), ch.length + m = a → m < k →
    i_Func_made K k (((a : Int), (fb : Int), ()), (n : Int), (relL B n).map (fun (a : Nat) => (a : Int)), rowsV ch n, (ch.length : Int), h, ()) = some (keepV fb n B (relL B n) m ch)
  | 0, k + 1, ch, e, _ => by
    have := i_made_l4 (K := K) ch (by omega) n fb hn hf (a : Int) h (i_Func_made K k) (fun z2 z3 => (z2 (z3, ())).bind fun y4 => some y4) n 0 K (by omega) (by omega)
    simp only [mkB] at this
    rw [show ((0 : Nat) : Int) = 0 from rfl] at this
    rw [i_Func_made]
    simp only [i_Func_made_b]
    rw [ite_t (decide_eq_true (by simp at e; omega)), this, hh _ (valV_lt fb n ch), some_bind']; rfl
  | m + 1, k + 1, ch, e, hk => by
    have hp := pw4 hn
    have h4 := relL_len B n
    have := i_made_l10 (K := K) B n fb a hn ch (by omega) m h (i_Func_made K k) (fun t ht => i_made_eq hn ha hf h hh hK m k (ch ++ [t]) (by simp; omega) (by omega)) (some true) (fun z => some z) (relL B n) [] K rfl (by omega)
    simp only [List.length_nil] at this
    rw [show ((0 : Nat) : Int) = 0 from rfl] at this
    rw [i_Func_made]
    simp only [i_Func_made_b]
    rw [ite_f (decide_eq_false (by omega)), this, keepV]
    cases (relL B n).all fun t => keepV fb n B (relL B n) m (ch ++ [t]) <;> rfl
theorem i_keeps_eq {n B fb a : Nat} (hn : n ≤ 4) (ha : a ≤ 4) (hf : fb < 65536) (hB : B < 9223372036854775808) (hK : 4611686018427387904 ≤ K) : i_Func_keeps K (((a : Int), (fb : Int), ()), ((n : Int), (B : Int), ()), ()) = some (keepV fb n B (relL B n) a []) := by
  have := i_made_eq (K := K) (B := B) (fb := fb) hn ha hf (fun y4 => i_Relation_has K (((n : Int), (B : Int), ()), y4.1, ())) (fun v _ => i_Relation_has_eq v hB) hK a K [] (by simp) (by omega)
  simp only [List.length_nil, show rowsV [] n = List.replicate n 0 from by
    unfold rowsV
    have : (fun i => ((rowV [] 0 i : Nat) : Int)) = fun _ => 0 := rfl
    rw [List.length_nil, this, List.map_const', List.length_range]] at this
  rw [show ((0 : Nat) : Int) = 0 from rfl] at this
  simp only [i_Func_keeps, i_tuples_eq hn hB hK, some_bind', show sel B.testBit (2 ^ n) = (relL B n).map (fun (a : Nat) => (a : Int)) from rfl]
  rw [show lim = 1099511627776 from rfl, ite_t (by simp; omega), Int.toNat_natCast]
  rw [this]; rfl
def nmAnd : ByteArray := ⟨#[97, 110, 100]⟩
def nmOr : ByteArray := ⟨#[111, 114]⟩
def nmMaj : ByteArray := ⟨#[109, 97, 106, 111, 114, 105, 116, 121]⟩
def nmMin : ByteArray := ⟨#[109, 105, 110, 111, 114, 105, 116, 121]⟩
/-- The four functions by their names, at some count of rounds. -/
def namedI (K : Nat) : Prop := i_namedFunc K (nmAnd, ()) = some ((2, 8, ()), true, ()) ∧ i_namedFunc K (nmOr, ()) = some ((2, 14, ()), true, ()) ∧ i_namedFunc K (nmMaj, ()) = some ((3, 232, ()), true, ()) ∧ i_namedFunc K (nmMin, ()) = some ((3, 150, ()), true, ())
def namedS (K : Nat) : Prop := s_NamedFunc K (nmAnd, ()) = some ((2, 8, ()), 0, ()) ∧ s_NamedFunc K (nmOr, ()) = some ((2, 14, ()), 0, ()) ∧ s_NamedFunc K (nmMaj, ()) = some ((3, 232, ()), 0, ()) ∧ s_NamedFunc K (nmMin, ()) = some ((3, 150, ()), 0, ())
theorem named_i : namedI 9223372036854775808 := ⟨by decide +kernel, by decide +kernel, by decide +kernel, by decide +kernel⟩
theorem named_s : namedS 9223372036854775808 := ⟨by decide +kernel, by decide +kernel, by decide +kernel, by decide +kernel⟩
def b1 (b : Bool) : Int := if b = true then 1 else 0
def rowE (n B : Nat) : List Int := [b1 (B.testBit 0), b1 (B.testBit (2 ^ n - 1)), b1 (keepV 8 n B (relL B n) 2 []), b1 (keepV 14 n B (relL B n) 2 []), b1 (keepV 232 n B (relL B n) 3 []), b1 (keepV 150 n B (relL B n) 3 [])]
theorem i_easyRow_eq {n B : Nat} (hn : n ≤ 4) (hB : B < 9223372036854775808) (hK : 4611686018427387904 ≤ K) (hN : namedI K) : i_easyRow K (((n : Int), (B : Int), ()), ()) = some (rowE n B) := by
  obtain ⟨n1, n2, n3, n4⟩ := hN
  have hp := pw4 hn
  have hq := pw_pos n
  have k1 := i_keeps_eq (K := K) (n := n) (B := B) (fb := 8) (a := 2) hn (by decide) (by decide) hB hK
  have k2 := i_keeps_eq (K := K) (n := n) (B := B) (fb := 14) (a := 2) hn (by decide) (by decide) hB hK
  have k3 := i_keeps_eq (K := K) (n := n) (B := B) (fb := 232) (a := 3) hn (by decide) (by decide) hB hK
  have k4 := i_keeps_eq (K := K) (n := n) (B := B) (fb := 150) (a := 3) hn (by decide) (by decide) hB hK
  have h0 := i_Relation_has_eq (K := K) (n := (n : Int)) 0 hB
  have h1 := i_Relation_has_eq (K := K) (n := (n : Int)) (2 ^ n - 1) hB
  have e1 : IntKind.i64.wrap (((2 ^ n : Nat) : Int) - 1) = ((2 ^ n - 1 : Nat) : Int) := by rw [w64 (by omega) (by omega)]; omega
  rw [show ((0 : Nat) : Int) = 0 from rfl] at h0
  obtain ⟨k, hk⟩ : ∃ k, K = k + 6 := ⟨K - 6, by omega⟩
  have l3 : ∀ b c : Int, i_easyRow_l3 K K ((n : Int), (B : Int), ()) [b, c] [nmAnd, nmOr, nmMaj, nmMin] (4 : Int) (0 : Int) (fun z12 => some z12) = some [b, c, b1 (keepV 8 n B (relL B n) 2 []), b1 (keepV 14 n B (relL B n) 2 []), b1 (keepV 232 n B (relL B n) 3 []), b1 (keepV 150 n B (relL B n) 3 [])] := fun b c => by
    rw [show i_easyRow_l3 K K = i_easyRow_l3 (R := List Int) K (k + 6) from by rw [← hk]]
    have b4 : ∀ i : Int, 0 ≤ i → i < 4 → bnds i ((([nmAnd, nmOr, nmMaj, nmMin] : List ByteArray).length : Nat) : Int) = true := fun i h h2 => bnds_t h h2
    have lm : ∀ (l : List Int) (y : Int), l.length ≤ 6 → decide (l.length + [y].length ≤ lim) = true := fun l y h => lim_len (by omega)
    have w1 : IntKind.i64.wrap ((0 : Int) + 1) = 1 := by decide
    have w2 : IntKind.i64.wrap ((1 : Int) + 1) = 2 := by decide
    have w3 : IntKind.i64.wrap ((2 : Int) + 1) = 3 := by decide
    have w4 : IntKind.i64.wrap ((3 : Int) + 1) = 4 := by decide
    have g0 : ([nmAnd, nmOr, nmMaj, nmMin] : List ByteArray).getD (0 : Int).toNat ByteArray.empty = nmAnd := rfl
    have g1 : ([nmAnd, nmOr, nmMaj, nmMin] : List ByteArray).getD (1 : Int).toNat ByteArray.empty = nmOr := rfl
    have g2 : ([nmAnd, nmOr, nmMaj, nmMin] : List ByteArray).getD (2 : Int).toNat ByteArray.empty = nmMaj := rfl
    have g3 : ([nmAnd, nmOr, nmMaj, nmMin] : List ByteArray).getD (3 : Int).toNat ByteArray.empty = nmMin := rfl
    rw [i_easyRow_l3, ite_t (by decide), ite_t (b4 _ (by decide) (by decide)), g0, n1, some_bind']
    simp only
    rw [show i_Func_keeps K ((2, 8, ()), ((n : Int), (B : Int), ()), ()) = _ from k1, some_bind', i_one_eq, some_bind', ite_t (lm _ _ (by simp)), w1]
    rw [i_easyRow_l3, ite_t (by decide), ite_t (b4 _ (by decide) (by decide)), g1, n2, some_bind']
    simp only
    rw [show i_Func_keeps K ((2, 14, ()), ((n : Int), (B : Int), ()), ()) = _ from k2, some_bind', i_one_eq, some_bind', ite_t (lm _ _ (by simp)), w2]
    rw [i_easyRow_l3, ite_t (by decide), ite_t (b4 _ (by decide) (by decide)), g2, n3, some_bind']
    simp only
    rw [show i_Func_keeps K ((3, 232, ()), ((n : Int), (B : Int), ()), ()) = _ from k3, some_bind', i_one_eq, some_bind', ite_t (lm _ _ (by simp)), w3]
    rw [i_easyRow_l3, ite_t (by decide), ite_t (b4 _ (by decide) (by decide)), g3, n4, some_bind']
    simp only
    rw [show i_Func_keeps K ((3, 150, ()), ((n : Int), (B : Int), ()), ()) = _ from k4, some_bind', i_one_eq, some_bind', ite_t (lm _ _ (by simp)), w4]
    rw [i_easyRow_l3, ite_f (by decide)]
    rfl
  simp only [i_easyRow, h0, some_bind', i_one_eq, i_rowsOf_eq (show n < 63 by omega), e1, h1]
  exact l3 _ _
theorem s_l09Row_eq {n B : Nat} (hn : n ≤ 4) (hB : B < 9223372036854775808) (hK : 4611686018427387904 ≤ K) (hN : namedS K) : s_l09Row K (((n : Int), (B : Int), ()), ()) = some (rowE n B) := by
  obtain ⟨n1, n2, n3, n4⟩ := hN
  have hp := pw4 hn
  have hq := pw_pos n
  have k1 := s_l06Keeps_eq (K := K) (n := n) (B := B) (fb := 8) (a := 2) hn (by decide) (by decide) hB hK
  have k2 := s_l06Keeps_eq (K := K) (n := n) (B := B) (fb := 14) (a := 2) hn (by decide) (by decide) hB hK
  have k3 := s_l06Keeps_eq (K := K) (n := n) (B := B) (fb := 232) (a := 3) hn (by decide) (by decide) hB hK
  have k4 := s_l06Keeps_eq (K := K) (n := n) (B := B) (fb := 150) (a := 3) hn (by decide) (by decide) hB hK
  have h0 := s_l09Has_eq (K := K) (n := (n : Int)) (j := 0) hB (by decide)
  have h1 := s_l09Has_eq (K := K) (n := (n : Int)) (j := 2 ^ n - 1) hB (by omega)
  have e1 : IntKind.i64.wrap (((2 ^ n : Nat) : Int) - 1) = ((2 ^ n - 1 : Nat) : Int) := by rw [w64 (by omega) (by omega)]; omega
  rw [show ((0 : Nat) : Int) = 0 from rfl] at h0
  obtain ⟨k, hk⟩ : ∃ k, K = k + 6 := ⟨K - 6, by omega⟩
  have l8 : ∀ b c : Bool, s_l09Row_j6 K K ((n : Int), (B : Int), ()) [b1 b, b1 c, 0, 0, 0, 0] none (fun z => some z) = some [b1 b, b1 c, b1 (keepV 8 n B (relL B n) 2 []), b1 (keepV 14 n B (relL B n) 2 []), b1 (keepV 232 n B (relL B n) 3 []), b1 (keepV 150 n B (relL B n) 3 [])] := fun b c => by
    show s_l09Row_l8 K K ((n : Int), (B : Int), ()) [b1 b, b1 c, 0, 0, 0, 0] [nmAnd, nmOr, nmMaj, nmMin] (0 : Int) (fun z => some z) = _
    rw [show s_l09Row_l8 K K = s_l09Row_l8 (R := List Int) K (k + 6) from by rw [← hk]]
    have b4 : ∀ i : Int, 0 ≤ i → i < 4 → bnds i ((([nmAnd, nmOr, nmMaj, nmMin] : List ByteArray).length : Nat) : Int) = true := fun i h h2 => bnds_t h h2
    have w1 : IntKind.i64.wrap ((0 : Int) + 1) = 1 := by decide
    have w2 : IntKind.i64.wrap ((1 : Int) + 1) = 2 := by decide
    have w3 : IntKind.i64.wrap ((2 : Int) + 1) = 3 := by decide
    have w4 : IntKind.i64.wrap ((3 : Int) + 1) = 4 := by decide
    have v0 : IntKind.i64.wrap ((0 : Int) + 2) = 2 := by decide
    have v1 : IntKind.i64.wrap ((1 : Int) + 2) = 3 := by decide
    have v2 : IntKind.i64.wrap ((2 : Int) + 2) = 4 := by decide
    have v3 : IntKind.i64.wrap ((3 : Int) + 2) = 5 := by decide
    have g0 : ([nmAnd, nmOr, nmMaj, nmMin] : List ByteArray).getD (0 : Int).toNat ByteArray.empty = nmAnd := rfl
    have g1 : ([nmAnd, nmOr, nmMaj, nmMin] : List ByteArray).getD (1 : Int).toNat ByteArray.empty = nmOr := rfl
    have g2 : ([nmAnd, nmOr, nmMaj, nmMin] : List ByteArray).getD (2 : Int).toNat ByteArray.empty = nmMaj := rfl
    have g3 : ([nmAnd, nmOr, nmMaj, nmMin] : List ByteArray).getD (3 : Int).toNat ByteArray.empty = nmMin := rfl
    have st : ∀ (kb : Bool) (l : List Int) (i : Int) (j : Nat) (F : List Int → Option (List Int)), l.length = 6 → i = (j : Int) → j < 6 → l.getD j 0 = 0 → (if kb = true then (if bnds i (l.length : Int) = true then F (l.set i.toNat 1) else none) else F l) = F (l.set j (b1 kb)) := fun kb l i j F hl hi hj hg => by
      subst hi
      cases kb
      · rw [if_neg (by decide)]
        congr 1
        apply List.ext_getElem
        · simp
        · intro q h1 h2
          rw [List.getElem_set]
          split
          · rename_i e; subst e
            rw [List.getD_eq_getElem?_getD, List.getElem?_eq_getElem h1] at hg
            exact hg
          · rfl
      · rw [if_pos rfl, if_pos (bnds_n (by omega))]; rfl
    rw [s_l09Row_l8, ite_t (by decide), ite_t (b4 _ (by decide) (by decide)), g0, n1, some_bind']
    try simp only
    rw [show s_l06Keeps K ((2, 8, ()), ((n : Int), (B : Int), ()), ()) = _ from k1, some_bind', st _ _ _ 2 (fun l => s_l09Row_l8 K (k + 5) ((n : Int), (B : Int), ()) l [nmAnd, nmOr, nmMaj, nmMin] (IntKind.i64.wrap (0 + 1)) fun z => some z) rfl (by rw [v0]; rfl) (by decide) rfl, w1]
    try simp only
    rw [s_l09Row_l8, ite_t (by decide), ite_t (b4 _ (by decide) (by decide)), g1, n2, some_bind']
    try simp only
    rw [show s_l06Keeps K ((2, 14, ()), ((n : Int), (B : Int), ()), ()) = _ from k2, some_bind', st _ _ _ 3 (fun l => s_l09Row_l8 K (k + 4) ((n : Int), (B : Int), ()) l [nmAnd, nmOr, nmMaj, nmMin] (IntKind.i64.wrap (1 + 1)) fun z => some z) rfl (by rw [v1]; rfl) (by decide) rfl, w2]
    try simp only
    rw [s_l09Row_l8, ite_t (by decide), ite_t (b4 _ (by decide) (by decide)), g2, n3, some_bind']
    try simp only
    rw [show s_l06Keeps K ((3, 232, ()), ((n : Int), (B : Int), ()), ()) = _ from k3, some_bind', st _ _ _ 4 (fun l => s_l09Row_l8 K (k + 3) ((n : Int), (B : Int), ()) l [nmAnd, nmOr, nmMaj, nmMin] (IntKind.i64.wrap (2 + 1)) fun z => some z) rfl (by rw [v2]; rfl) (by decide) rfl, w3]
    try simp only
    rw [s_l09Row_l8, ite_t (by decide), ite_t (b4 _ (by decide) (by decide)), g3, n4, some_bind']
    try simp only
    rw [show s_l06Keeps K ((3, 150, ()), ((n : Int), (B : Int), ()), ()) = _ from k4, some_bind', st _ _ _ 5 (fun l => s_l09Row_l8 K (k + 2) ((n : Int), (B : Int), ()) l [nmAnd, nmOr, nmMaj, nmMin] (IntKind.i64.wrap (3 + 1)) fun z => some z) rfl (by rw [v3]; rfl) (by decide) rfl, w4]
    try simp only
    rw [s_l09Row_l8, ite_f (by decide)]
    rfl
  simp only [s_l09Row, h0, some_bind']
  rw [show lim = 1099511627776 from rfl, ite_t (by decide)]
  simp only [s_l09Row_j4, s_l01Rows_eq (show n < 63 by omega), some_bind', e1, h1]
  rw [rowE]
  have q := l8
  cases B.testBit 0 <;> cases B.testBit (2 ^ n - 1)
  · exact q false false
  · exact q false true
  · exact q true false
  · exact q true true
def rowB (n B : Nat) : List Bool := [B.testBit 0, B.testBit (2 ^ n - 1), keepV 8 n B (relL B n) 2 [], keepV 14 n B (relL B n) 2 [], keepV 232 n B (relL B n) 3 [], keepV 150 n B (relL B n) 3 []]
theorem b1_and (a b : Bool) : bitI .and .i64 (b1 a) (b1 b) = b1 (a && b) := by cases a <;> cases b <;> decide
theorem b1_mul (a b : Bool) : IntKind.i64.wrap (b1 a * b1 b) = b1 (a && b) := by cases a <;> cases b <;> decide
theorem b1_one (a : Bool) : decide (b1 a = 1) = a := by cases a <;> decide
theorem getD_m1 (P A : List Bool) (a : Bool) : ((P ++ a :: A).map b1).getD ((P.length : Int)).toNat 0 = b1 a := by simp
theorem set_m1 (P A : List Bool) (a z : Bool) : ((P ++ a :: A).map b1).set ((P.length : Int)).toNat (b1 z) = (P ++ z :: A).map b1 := by simp
theorem and_l8 (v17 : List DC) (v18 v19 : Int) (kx : List Int → List DC → Int → Int → Option R) : ∀ (A S P Q : List Bool) (k : Nat), A.length = S.length → P.length = Q.length → A.length < k → (Q ++ S).length < 1000000000 →
    i_EasyClasses_l8 K k ((P ++ A).map b1) v17 v18 v19 ((Q ++ S).map b1) ((Q ++ S).length : Int) (P.length : Int) kx = kx ((P ++ List.zipWith (fun a b => a && b) A S).map b1) v17 v18 v19
  | [], [], P, Q, k + 1, _, h, _, _ => by
    simp only [i_EasyClasses_l8]; rw [ite_f (decide_eq_false (by simp [h]))]; simp
  | a :: A, s :: S, P, Q, k + 1, h1, h2, hk, hl => by
    have ih := and_l8 v17 v18 v19 kx A S (P ++ [a && s]) (Q ++ [s]) k (by simpa using h1) (by simp [h2]) (by simp at hk; omega) (by rw [← mid_app]; exact hl)
    rw [snoc_len, ← mid_app, ← mid_app, ← mid_app] at ih
    have hq := getD_m1 Q S s
    rw [← h2] at hq
    simp only [i_EasyClasses_l8]
    rw [ite_t (decide_eq_true (by simp; omega)), ite_t (bnds_n (by simp; omega)), ite_t (bnds_n (by simp)), ite_t (bnds_n (by simp)), getD_m1, hq, b1_and, set_m1, w64s (by simp at hl; omega), ih, List.zipWith_cons_cons]
theorem and_l9 (v1 : DX) (v5 : List Int) (v6 : Int) (kx : DX → List Int → List Int → Int → Option R) : ∀ (A S P Q : List Bool) (k : Nat), A.length = S.length → P.length = Q.length → A.length < k → (P ++ A).length = 6 →
    s_EasyClasses_l9 K k v1 ((P ++ A).map b1) v5 v6 ((Q ++ S).map b1) (P.length : Int) kx = kx v1 ((P ++ List.zipWith (fun a b => a && b) A S).map b1) v5 v6
  | [], [], P, Q, k + 1, _, h, _, hl => by
    simp only [s_EasyClasses_l9]; rw [ite_f (decide_eq_false (by simp at hl; omega))]; simp
  | a :: A, s :: S, P, Q, k + 1, h1, h2, hk, hl => by
    have ih := and_l9 v1 v5 v6 kx A S (P ++ [a && s]) (Q ++ [s]) k (by simpa using h1) (by simp [h2]) (by simp at hk; omega) (by simp at hl ⊢; omega)
    rw [snoc_len, ← mid_app, ← mid_app, ← mid_app] at ih
    have hq := getD_m1 Q S s
    rw [← h2] at hq
    simp only [s_EasyClasses_l9]
    rw [ite_t (decide_eq_true (by simp at hl; omega)), ite_t (bnds_n (by simp)), ite_t (bnds_n (by simp; omega)), ite_t (bnds_n (by simp)), getD_m1, hq, b1_mul, set_m1, w64s (by simp at hl; omega), ih, List.zipWith_cons_cons]
def rowC (c : DC) : List Bool := rowB c.1.1.toNat c.1.2.1.toNat
def allB (l : List DC) (bs : List Bool) : List Bool := l.foldl (fun b c => List.zipWith (fun a b => a && b) b (rowC c)) bs
theorem zip_len {bs rs : List Bool} (h : bs.length = 6) (h2 : rs.length = 6) : (List.zipWith (fun a b => a && b) bs rs).length = 6 := by simp [h, h2]
theorem allB_len : ∀ (l : List DC) {bs : List Bool}, bs.length = 6 → (allB l bs).length = 6
  | [], bs, h => h
  | c :: l, bs, h => allB_len l (zip_len h rfl)
theorem cls_i (x1 : Int) (l : List DC) (h : ∀ c ∈ l, okC x1 c = true) (hx : x1 ≤ 8) (hl : l.length < 1000000000) (hK : 4611686018427387904 ≤ K) (hN : namedI K) (kx : List Int → Option R) : ∀ (r p : List DC) (k : Nat) (bs : List Bool), l = p ++ r → 100 + r.length < k → bs.length = 6 →
    i_EasyClasses_l5 K k (bs.map b1) l (l.length : Int) (p.length : Int) kx = kx ((allB r bs).map b1)
  | [], p, k + 1, bs, e, _, _ => by
    simp only [i_EasyClasses_l5]; rw [ite_f (decide_eq_false (by rw [e]; simp))]; rfl
  | c :: r, p, k + 1, bs, e, hk, hb => by
    have hc := h c (by rw [e]; simp)
    obtain ⟨_, _, hF⟩ := okC_v hc hx
    obtain ⟨n, B, e1, hn, hB, _⟩ := isF_nat hF (by decide)
    have hBl := bits_lt hn hB
    have hlen : p.length < l.length := by rw [e]; simp
    have hg : l.getD ((p.length : Int)).toNat (((0 : Int), (0 : Int), ()), ([] : List Int), ()) = c := by rw [e]; exact getD_midI p r c _
    have hrow : i_easyRow K (c.1, ()) = some ((rowC c).map b1) := by rw [rowC, e1]; exact i_easyRow_eq hn hBl hK hN
    have h8 := fun kx => and_l8 (K := K) (R := R) l (l.length : Int) (p.length : Int) kx bs (rowC c) [] [] k (by rw [hb]; rfl) rfl (by simp at hk; omega) (by simp [rowC, rowB])
    simp only [List.nil_append, List.length_nil] at h8
    rw [show ((0 : Nat) : Int) = 0 from rfl] at h8
    have ih := fun bs' hb' => cls_i x1 l h hx hl hK hN kx r (p ++ [c]) k bs' (by rw [e, mid_app]) (by simp at hk; omega) hb'
    rw [snoc_len] at ih
    simp only [i_EasyClasses_l5]
    rw [ite_t (decide_eq_true (by omega)), ite_t (bnds_n hlen), hg, hrow, some_bind', List.length_map, h8, w64s (by omega), ih _ (zip_len hb rfl)]; rfl
theorem cls_s (x : DX) (h : okX x = true) (hK : 4611686018427387904 ≤ K) (hN : namedS K) (v5 : List Int) (kx : List Int → List Int → Option R) : ∀ (r p : List DC) (k : Nat) (bs : List Bool), x.2.1 = p ++ r → 100 + r.length < k → bs.length = 6 →
    s_EasyClasses_l5 K k x (bs.map b1) v5 (p.length : Int) kx = kx ((allB r bs).map b1) v5
  | [], p, k + 1, bs, e, _, _ => by
    simp only [s_EasyClasses_l5]; rw [ite_f (decide_eq_false (by rw [e]; simp))]; rfl
  | c :: r, p, k + 1, bs, e, hk, hb => by
    obtain ⟨_, hx, h12, h4⟩ := okX_h h
    have hc := h4 c (by rw [e]; simp)
    obtain ⟨_, _, hF⟩ := okC_v hc hx
    obtain ⟨n, B, e1, hn, hB, _⟩ := isF_nat hF (by decide)
    have hBl := bits_lt hn hB
    have hlen : p.length < x.2.1.length := by rw [e]; simp
    have hg : x.2.1.getD ((p.length : Int)).toNat (((0 : Int), (0 : Int), ()), ([] : List Int), ()) = c := by rw [e]; exact getD_midI p r c _
    have hrow : s_l09Row K (c.1, ()) = some ((rowC c).map b1) := by rw [rowC, e1]; exact s_l09Row_eq hn hBl hK hN
    have h9 := fun kx => and_l9 (K := K) (R := R) x v5 (p.length : Int) kx bs (rowC c) [] [] k (by rw [hb]; rfl) rfl (by simp at hk; omega) (by simpa using hb)
    simp only [List.nil_append, List.length_nil] at h9
    rw [show ((0 : Nat) : Int) = 0 from rfl] at h9
    have ih := fun bs' hb' => cls_s x h hK hN v5 kx r (p ++ [c]) k bs' (by rw [e, mid_app]) (by simp at hk; omega) hb'
    rw [snoc_len] at ih
    simp only [s_EasyClasses_l5]
    rw [ite_t (decide_eq_true (by omega)), ite_t (bnds_n hlen), hg, hrow, some_bind', h9, w64s (by omega), ih _ (zip_len hb rfl)]; rfl
def idxB : List Bool → Nat → List Int
  | [], _ => []
  | b :: r, i => if b = true then (i : Int) :: idxB r (i + 1) else idxB r (i + 1)
theorem idxB_len : ∀ (l : List Bool) (i : Nat), (idxB l i).length ≤ l.length
  | [], _ => Nat.le_refl _
  | b :: r, i => by
    have := idxB_len r (i + 1)
    rw [idxB]; split <;> simp <;> omega
theorem idx_i (kx : List Int → Option R) : ∀ (A P : List Bool) (acc : List Int) (k : Nat), A.length < k → (P ++ A).length = 6 → acc.length + A.length ≤ 6 →
    i_EasyClasses_l15 K k acc ((P ++ A).map b1) ((6 : Nat) : Int) (P.length : Int) kx = kx (acc ++ idxB A P.length)
  | [], P, acc, k + 1, _, hl, _ => by
    simp only [i_EasyClasses_l15]; rw [ite_f (decide_eq_false (by simp at hl; omega))]; simp [idxB]
  | a :: A, P, acc, k + 1, hk, hl, ha => by
    have ih := fun acc' h' => idx_i kx A (P ++ [a]) acc' k (by simp at hk; omega) (by rw [← mid_app]; exact hl) h'
    rw [snoc_len, ← mid_app] at ih
    simp only [i_EasyClasses_l15]
    rw [ite_t (decide_eq_true (by simp at hl; omega)), ite_t (bnds_n (by simp)), getD_m1, b1_one, w64s (by simp at hl; omega), ite_t (lim_len (by simp at ha; omega)), idxB]
    cases a
    · rw [if_neg (by decide), if_neg (by decide), ih acc (by simp at ha; omega)]
    · rw [if_pos rfl, if_pos rfl, ih _ (by simp at ha ⊢; omega)]; simp
theorem idx_s (kx : List Int → Option R) : ∀ (A P : List Bool) (acc : List Int) (k : Nat), A.length < k → (P ++ A).length = 6 → acc.length + A.length ≤ 6 →
    s_EasyClasses_l13 K k ((P ++ A).map b1) acc (P.length : Int) kx = kx (acc ++ idxB A P.length)
  | [], P, acc, k + 1, _, hl, _ => by
    simp only [s_EasyClasses_l13]; rw [ite_f (decide_eq_false (by simp at hl; omega))]; simp [idxB]
  | a :: A, P, acc, k + 1, hk, hl, ha => by
    have ih := fun acc' h' => idx_s kx A (P ++ [a]) acc' k (by simp at hk; omega) (by rw [← mid_app]; exact hl) h'
    rw [snoc_len, ← mid_app] at ih
    simp only [s_EasyClasses_l13]
    rw [ite_t (decide_eq_true (by simp at hl; omega)), ite_t (bnds_n (by simp)), getD_m1, b1_one, w64s (by simp at hl; omega), ite_t (lim_len (by simp at ha; omega)), idxB]
    cases a
    · rw [if_neg (by decide), if_neg (by decide), ih acc (by simp at ha; omega)]
    · rw [if_pos rfl, if_pos rfl, ih _ (by simp at ha ⊢; omega)]; simp
def ones6 : List Bool := [true, true, true, true, true, true]
def easyX (x : DX) : List Int × Int × Unit := if okX x = true then (idxB (allB x.2.1 ones6) 0, 0, ()) else ([], 1, ())
theorem i_EasyClasses_eq {x : DX} (hx : shX x) (hK : 9223372036854775808 ≤ K) (hN : namedI K) : i_EasyClasses K (x, ()) = some (easyX x) := by
  have hK2 : 4611686018427387904 ≤ K := by omega
  simp only [i_EasyClasses, i_IsInstance_eq hx hK2, some_bind', easyX]
  cases h : okX x
  · rfl
  · obtain ⟨h1, h2, h3, h4⟩ := okX_h h
    rw [if_neg (by decide), if_pos rfl]
    have c5 := fun kx => cls_i (K := K) (R := List Int × Int × Unit) x.1 x.2.1 h4 h2 (by omega) hK2 hN kx x.2.1 [] K ones6 rfl (by omega) rfl
    simp only [List.length_nil] at c5
    have hlen := allB_len x.2.1 (bs := ones6) rfl
    have c15 := idx_i (K := K) (fun z13 => some (z13, (0 : Int), ())) (allB x.2.1 ones6) [] [] K (by omega) (by simpa using hlen) (by simp [hlen])
    simp only [List.length_nil, List.nil_append] at c15
    show i_EasyClasses_l5 K K (ones6.map b1) x.2.1 (x.2.1.length : Int) ((0 : Nat) : Int) _ = _
    rw [c5, List.length_map, hlen]
    exact c15
theorem s_EasyClasses_eq {x : DX} (hx : shX x) (hK : 9223372036854775808 ≤ K) (hN : namedS K) : s_EasyClasses K (x, ()) = some (easyX x) := by
  have hK2 : 4611686018427387904 ≤ K := by omega
  simp only [s_EasyClasses, s_l09Is_eq hx hK, some_bind', easyX]
  cases h : okX x
  · rfl
  · obtain ⟨h1, h2, h3, h4⟩ := okX_h h
    rw [if_neg (by decide), if_pos rfl]
    have c5 := fun kx => cls_s (K := K) (R := List Int × Int × Unit) x h hK2 hN [] kx x.2.1 [] K ones6 rfl (by omega) rfl
    simp only [List.length_nil] at c5
    have hlen := allB_len x.2.1 (bs := ones6) rfl
    have c15 := idx_s (K := K) (fun z13 => some (z13, (0 : Int), ())) (allB x.2.1 ones6) [] [] K (by omega) (by simpa using hlen) (by simp [hlen])
    simp only [List.length_nil, List.nil_append] at c15
    show s_EasyClasses_l5 K K x (ones6.map b1) [] ((0 : Nat) : Int) _ = _
    rw [c5]
    exact c15
theorem law_EasyClasses {x : DX} (hx : okD TX x) : w_FnExactEasyClasses 9223372036854775808 (x, ()) = some true := by
  have hK2 : 4611686018427387904 ≤ 9223372036854775808 := by decide
  simp only [w_FnExactEasyClasses]
  refine sz_guard hx hK2 _ (fun hs y hy => ?_) (fun y hy => by rw [ite_t (decide_eq_true hy)])
  have hsh := smX_sh hs
  rw [ite_f (decide_eq_false hy)]
  have hi := i_EasyClasses_eq hsh (Nat.le_refl _) named_i
  have hp := s_EasyClasses_eq hsh (Nat.le_refl _) named_s
  obtain ⟨q, hq, e⟩ : ∃ q : List Int × Int × Unit, q.1.length ≤ 1099511627776 ∧ q = easyX x := ⟨easyX x, by
    unfold easyX; split
    · exact Nat.le_trans (idxB_len _ _) (by rw [allB_len x.2.1 (bs := ones6) rfl]; decide)
    · simp, rfl⟩
  rw [← e] at hi hp
  obtain ⟨h1, h2⟩ := mk_held hq hK2
  have h3 : w_eqInt64S 9223372036854775808 (q.1, q.1, ()) = some true := w_eqInt64S_refl (by omega) hK2
  simp only [smX_to hs hK2, hi, hp, h3, some_bind', w_FnExactEasyClasses_j10, w_FnExactEasyClasses_j16, w_FnExactEasyClasses_j27, smX_eq hs hK2, smX_mark hs hK2, mark_pos, h1, h2, decide_true, Bool.not_true, Bool.false_eq_true, if_false]
end Go.Proofs.Ytckkagmccbkfbaa.E
namespace Go.Proofs.Ytckkagmccbkfbaa.E
open Go Go.Proofs
/-- FnExactEasyClasses, in plain numbers and lists: no condition but what is known of all data. -/
theorem PuFnExactEasyClasses (x : den as_w_FnExactEasyClasses) (h : okD as_w_FnExactEasyClasses x) : ∃ K, w_FnExactEasyClasses K x = some true := by
  obtain ⟨x, u⟩ := x
  exact ⟨9223372036854775808, law_EasyClasses h.1⟩
end Go.Proofs.Ytckkagmccbkfbaa.E
