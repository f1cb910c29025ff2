/-
  What the Go functions that FnExactIsInNamed reaches hand back, each as a plain function with a proof that the call does so, and plain lemmas on them. Conditions: those of each theorem.
-/
import Derived.Test.YtfmenkglnkenpaaGreatDoorCFnExactIsInNamed5
namespace Go.Proofs.YtfmenkglnkenpaaGreatDoor.E
open Go Go.Proofs Go.Proofs.YtfmenkglnkenpaaGreatDoor
set_option maxRecDepth 100000
set_option linter.unusedVariables false
noncomputable def as_i_generators_c1 : Ty := (.pair (.int .i64) (.pair (.ptr .str) (.pair (.ptr (.int .i64)) .unit)))
noncomputable def sp_i_generators_c1 (F : (Int × ByteArray × Int × Unit) → Option Int) : FnSpec := ⟨as_i_generators_c1, [false, false, false], (.int .i64), F⟩
noncomputable def i_generators_c1 (K : Nat) (x : (Int × ByteArray × Int × Unit)) : Option Int :=
    (if (bnds (1 : Int) (x.2.1.size : Int)) = true then
    (if (decide ((byteAt x.2.1 (1 : Int)) = (48 : Int))) = true then
    (i_ones K (x.1, ())).bind fun y1 =>
    (i_one K ((decide (y1 ≥ (2 : Int))), ())).bind fun y2 =>
    some y2
    else
    (i_ones K (x.1, ())).bind fun y3 =>
    (i_one K ((decide ((IntKind.i64.wrap (x.2.2.1 - y3)) ≤ (1 : Int))), ())).bind fun y4 =>
    some y4)
    else
    none)
noncomputable def rv_i_generators_c1 : Lv := [(4, (.v (.int .i64)))]
theorem ok_i_generators_c1 (K : Nat) : FnOk Tryz.prog 44 (sp_i_generators_c1 (i_generators_c1 K)) :=
  fn_okD tysOk [C_i_one K, C_i_ones K] 0 [] [] rv_i_generators_c1 K Tryz.func44 (by kernel_rfl) trivial (fun _ => by kernel_rfl)
noncomputable def C_i_generators_c1 (K : Nat) : CB Tryz.prog := .f _ _ (ok_i_generators_c1 K)
noncomputable def as_i_generators : Ty := (.pair .str .unit)
noncomputable def sp_i_generators (F : (ByteArray × Unit) → Option ((List dq0) × Bool × Unit)) : FnSpec := ⟨as_i_generators, [false], (.tup (.pair (.sl tq0) (.pair .bool .unit))), F⟩
noncomputable def i_generators_l6 {R : Type} (K : Nat) : Nat → ByteArray → ByteArray → Bool → (List dq0) → (List ByteArray) → Int → Int → (ByteArray → ByteArray → Bool → (List dq0) → Option R) → Option R
  | 0, _, _, _, _, _, _, _, _ => none
  | k + 1, v4, v5, v6, v7, v26, v27, v28, kx0 =>
    (if (decide (v28 < v27)) = true then
    (if (bnds v28 (v26.length : Int)) = true then
    (i_readFunc K ((v26.getD v28.toNat ByteArray.empty), ())).bind fun y5 =>
    (if (decide (v7.length + ([y5.1]).length ≤ lim)) = true then
    let l6 := (v7 ++ [y5.1])
    i_generators_l6 K k v4 v5 v6 l6 v26 v27 (IntKind.i64.wrap (v28 + (1 : Int))) kx0
    else
    none)
    else
    none)
    else
    kx0 v4 v5 v6 v7)
noncomputable def i_generators (K : Nat) (x : (ByteArray × Unit)) : Option ((List dq0) × Bool × Unit) :=
    (i_CloneNames K ()).bind fun y1 =>
    (slices_Contains_string K (y1, x.1, ())).bind fun y2 =>
    (if (!y2) = true then
    some (([] : List dq0), false, ())
    else
    (strings_Cut K (x.1, (⟨#[94]⟩ : ByteArray), ())).bind fun y3 =>
    (if (decide (y3.1.size ≤ 9223372036854775807)) = true then
    (strings_Split K ((i_table y3.1), (⟨#[32]⟩ : ByteArray), ())).bind fun y4 =>
    i_generators_l6 K K y3.1 y3.2.1 y3.2.2.1 ([] : List dq0) y4.1.1 (y4.1.1.length : Int) (0 : Int) (fun z7 z8 z9 z10 =>
    (if z9 = true then
    (if (bnds (0 : Int) (z8.size : Int)) = true then
    let x11 := (IntKind.i64.wrap (IntKind.u8.wrap ((byteAt z8 (0 : Int)) - (48 : Int))))
    (i_funcBy K ((IntKind.i64.wrap (x11 + (1 : Int))), (fun y13 => i_generators_c1 K (y13.1, z7, (IntKind.i64.wrap (x11 + (1 : Int))), ())), ())).bind fun y12 =>
    (if (decide (z10.length + ([y12]).length ≤ lim)) = true then
    let l14 := (z10 ++ [y12])
    some (l14, true, ())
    else
    none)
    else
    none)
    else
    some (z10, true, ())))
    else
    none))
noncomputable def X0_i_generators : Lv := [(4, (.bx (.v .str))), (5, (.v .str)), (6, (.v .bool)), (7, (.r tq0))]
noncomputable def rv_i_generators : Lv := [(2, (.r tq0)), (3, (.v .bool))]
noncomputable def D_i_generators (K : Nat) : List (PD (den (.tup (.pair (.sl tq0) (.pair .bool .unit))))) := [.L 6 [(4, (.bx (.v .str))), (5, (.v .str)), (6, (.v .bool)), (7, (.r tq0)), (26, (.v (.sl .str))), (27, (.v (.int .i64))), (28, (.v (.int .i64)))] [] (fun k x kx kr => i_generators_l6 K k x.1 x.2.1 x.2.2.1 x.2.2.2.1 x.2.2.2.2.1 x.2.2.2.2.2.1 x.2.2.2.2.2.2.1 (fun z0 z1 z2 z3 => kx 0 (mkSt X0_i_generators (z0, z1, z2, z3, ()))))]
theorem ok_i_generators (K : Nat) : FnOk Tryz.prog 16 (sp_i_generators (i_generators K)) :=
  fn_okD tysOk [C_slices_Contains_string K, C_i_CloneNames K, C_strings_Cut K, C_strings_Split K, C_i_table K, C_i_readFunc K, C_i_funcBy K, C_i_generators_c1 K] 0 (D_i_generators K) [(0, X0_i_generators)] rv_i_generators K Tryz.func16 (by kernel_rfl) ⟨⟨fun _ _ _ _ => by kernel_rfl, fun _ _ _ => rfl⟩, trivial⟩ (fun _ => by kernel_rfl)
noncomputable def C_i_generators (K : Nat) : CB Tryz.prog := .f _ _ (ok_i_generators K)
noncomputable def as_slices_IndexFunc_impl_Func : Ty := (.pair (.sl tq0) (.pair (.fn (.pair tq0 .unit) .bool) .unit))
noncomputable def sp_slices_IndexFunc_impl_Func (F : ((List dq0) × ((dq0 × Unit) → Option Bool) × Unit) → Option Int) : FnSpec := ⟨as_slices_IndexFunc_impl_Func, [false, false], (.int .i64), F⟩
noncomputable def slices_IndexFunc_impl_Func_l2 {R : Type} (K : Nat) : Nat → (List dq0) → ((dq0 × Unit) → Option Bool) → Int → Int → (Option R) → (Int → Option R) → Option R
  | 0, _, _, _, _, _, _ => none
  | k + 1, v0, v1, v7, v8, kx0, kr =>
    (if (decide (v8 < v7)) = true then
    (if (bnds v8 (v0.length : Int)) = true then
    (v1 ((v0.getD v8.toNat ((0 : Int), (0 : Int), ())), ())).bind fun y1 =>
    (if y1 = true then
    kr v8
    else
    slices_IndexFunc_impl_Func_l2 K k v0 v1 v7 (IntKind.i64.wrap (v8 + (1 : Int))) kx0 kr)
    else
    none)
    else
    kx0)
noncomputable def slices_IndexFunc_impl_Func (K : Nat) (x : ((List dq0) × ((dq0 × Unit) → Option Bool) × Unit)) : Option Int :=
    slices_IndexFunc_impl_Func_l2 K K x.1 x.2.1 (x.1.length : Int) (0 : Int) (some (-1 : Int)) (fun z2 =>
    some z2)
noncomputable def X0_slices_IndexFunc_impl_Func : Lv := []
noncomputable def rv_slices_IndexFunc_impl_Func : Lv := [(4, (.v (.int .i64)))]
noncomputable def D_slices_IndexFunc_impl_Func (K : Nat) : List (PD (den (.int .i64))) := [.L 2 [(0, (.v (.sl tq0))), (1, (.v (.fn (.pair tq0 .unit) .bool))), (7, (.v (.int .i64))), (8, (.v (.int .i64)))] [] (fun k x kx kr => slices_IndexFunc_impl_Func_l2 K k x.1 x.2.1 x.2.2.1 x.2.2.2.1 (kx 0 (mkSt X0_slices_IndexFunc_impl_Func ())) (fun z0 => kr (mkSt rv_slices_IndexFunc_impl_Func (z0, ()))))]
theorem ok_slices_IndexFunc_impl_Func (K : Nat) : FnOk Tryz.prog 88 (sp_slices_IndexFunc_impl_Func (slices_IndexFunc_impl_Func K)) :=
  fn_okD tysOk [] 0 (D_slices_IndexFunc_impl_Func K) [(0, X0_slices_IndexFunc_impl_Func)] rv_slices_IndexFunc_impl_Func K Tryz.func88 (by kernel_rfl) ⟨⟨fun _ _ _ _ => by kernel_rfl, fun _ _ _ => rfl⟩, trivial⟩ (fun _ => by kernel_rfl)
noncomputable def C_slices_IndexFunc_impl_Func (K : Nat) : CB Tryz.prog := .f _ _ (ok_slices_IndexFunc_impl_Func K)
noncomputable def as_slices_ContainsFunc_impl_Func : Ty := (.pair (.sl tq0) (.pair (.fn (.pair tq0 .unit) .bool) .unit))
noncomputable def sp_slices_ContainsFunc_impl_Func (F : ((List dq0) × ((dq0 × Unit) → Option Bool) × Unit) → Option Bool) : FnSpec := ⟨as_slices_ContainsFunc_impl_Func, [false, false], .bool, F⟩
noncomputable def slices_ContainsFunc_impl_Func (K : Nat) (x : ((List dq0) × ((dq0 × Unit) → Option Bool) × Unit)) : Option Bool :=
    (slices_IndexFunc_impl_Func K (x.1, x.2.1, ())).bind fun y1 =>
    some (decide (y1 ≥ (0 : Int)))
noncomputable def rv_slices_ContainsFunc_impl_Func : Lv := [(4, (.v .bool))]
theorem ok_slices_ContainsFunc_impl_Func (K : Nat) : FnOk Tryz.prog 58 (sp_slices_ContainsFunc_impl_Func (slices_ContainsFunc_impl_Func K)) :=
  fn_okD tysOk [C_slices_IndexFunc_impl_Func K] 0 [] [] rv_slices_ContainsFunc_impl_Func K Tryz.func58 (by kernel_rfl) trivial (fun _ => by kernel_rfl)
noncomputable def C_slices_ContainsFunc_impl_Func (K : Nat) : CB Tryz.prog := .f _ _ (ok_slices_ContainsFunc_impl_Func K)
noncomputable def as_i_allAre_c1 : Ty := (.pair tq0 (.pair (.ptr (.fn (.pair tq0 .unit) .bool)) .unit))
noncomputable def sp_i_allAre_c1 (F : (dq0 × ((dq0 × Unit) → Option Bool) × Unit) → Option Bool) : FnSpec := ⟨as_i_allAre_c1, [false, false], .bool, F⟩
noncomputable def i_allAre_c1 (K : Nat) (x : (dq0 × ((dq0 × Unit) → Option Bool) × Unit)) : Option Bool :=
    (x.2.1 (x.1, ())).bind fun y1 =>
    some (!y1)
noncomputable def rv_i_allAre_c1 : Lv := [(3, (.v .bool))]
theorem ok_i_allAre_c1 (K : Nat) : FnOk Tryz.prog 59 (sp_i_allAre_c1 (i_allAre_c1 K)) :=
  fn_okD tysOk [] 0 [] [] rv_i_allAre_c1 K Tryz.func59 (by kernel_rfl) trivial (fun _ => by kernel_rfl)
noncomputable def C_i_allAre_c1 (K : Nat) : CB Tryz.prog := .f _ _ (ok_i_allAre_c1 K)
noncomputable def as_i_allAre : Ty := (.pair (.sl tq0) (.pair (.fn (.pair tq0 .unit) .bool) .unit))
noncomputable def sp_i_allAre (F : ((List dq0) × ((dq0 × Unit) → Option Bool) × Unit) → Option Bool) : FnSpec := ⟨as_i_allAre, [false, false], .bool, F⟩
noncomputable def i_allAre (K : Nat) (x : ((List dq0) × ((dq0 × Unit) → Option Bool) × Unit)) : Option Bool :=
    (slices_ContainsFunc_impl_Func K (x.1, (fun y2 => i_allAre_c1 K (y2.1, x.2.1, ())), ())).bind fun y1 =>
    some (!y1)
noncomputable def rv_i_allAre : Lv := [(4, (.v .bool))]
theorem ok_i_allAre (K : Nat) : FnOk Tryz.prog 20 (sp_i_allAre (i_allAre K)) :=
  fn_okD tysOk [C_slices_ContainsFunc_impl_Func K, C_i_allAre_c1 K] 0 [] [] rv_i_allAre K Tryz.func20 (by kernel_rfl) trivial (fun _ => by kernel_rfl)
noncomputable def C_i_allAre (K : Nat) : CB Tryz.prog := .f _ _ (ok_i_allAre K)
noncomputable def as_i_allIn_c1 : Ty := (.pair tq0 (.pair (.ptr (.int .i64)) .unit))
noncomputable def sp_i_allIn_c1 (F : (dq0 × Int × Unit) → Option Bool) : FnSpec := ⟨as_i_allIn_c1, [false, false], .bool, F⟩
noncomputable def i_allIn_c1 (K : Nat) (x : (dq0 × Int × Unit)) : Option Bool :=
    (i_Func_isIn K (x.1, x.2.1, ())).bind fun y1 =>
    some (!y1)
noncomputable def rv_i_allIn_c1 : Lv := [(3, (.v .bool))]
theorem ok_i_allIn_c1 (K : Nat) : FnOk Tryz.prog 79 (sp_i_allIn_c1 (i_allIn_c1 K)) :=
  fn_okD tysOk [C_i_Func_isIn K] 0 [] [] rv_i_allIn_c1 K Tryz.func79 (by kernel_rfl) trivial (fun _ => by kernel_rfl)
noncomputable def C_i_allIn_c1 (K : Nat) : CB Tryz.prog := .f _ _ (ok_i_allIn_c1 K)
noncomputable def as_i_allIn : Ty := (.pair (.sl tq0) (.pair (.int .i64) .unit))
noncomputable def sp_i_allIn (F : ((List dq0) × Int × Unit) → Option Bool) : FnSpec := ⟨as_i_allIn, [false, false], .bool, F⟩
noncomputable def i_allIn (K : Nat) (x : ((List dq0) × Int × Unit)) : Option Bool :=
    (slices_ContainsFunc_impl_Func K (x.1, (fun y2 => i_allIn_c1 K (y2.1, x.2.1, ())), ())).bind fun y1 =>
    some (!y1)
noncomputable def rv_i_allIn : Lv := [(4, (.v .bool))]
theorem ok_i_allIn (K : Nat) : FnOk Tryz.prog 50 (sp_i_allIn (i_allIn K)) :=
  fn_okD tysOk [C_slices_ContainsFunc_impl_Func K, C_i_allIn_c1 K] 0 [] [] rv_i_allIn K Tryz.func50 (by kernel_rfl) trivial (fun _ => by kernel_rfl)
noncomputable def C_i_allIn (K : Nat) : CB Tryz.prog := .f _ _ (ok_i_allIn K)
noncomputable def as_i_byConstants : Ty := (.pair .str (.pair .bool (.pair .bool .unit)))
noncomputable def sp_i_byConstants (F : (ByteArray × Bool × Bool × Unit) → Option ByteArray) : FnSpec := ⟨as_i_byConstants, [false, false, false], .str, F⟩
noncomputable def i_byConstants_j3 {R : Type} (K : Nat) (k : Nat) (v0 : ByteArray) (v1 : Bool) (v2 : Bool) (kn : ByteArray → Option R) (kr : (ByteArray → Option R)) : Option R :=
    gN K ((if v1 = true then
    (if (decide (v0.size + (⟨#[48]⟩ : ByteArray).size ≤ 9223372036854775807)) = true then
    kr (v0 ++ (⟨#[48]⟩ : ByteArray))
    else
    none)
    else
    (if v2 = true then
    (if (decide (v0.size + (⟨#[49]⟩ : ByteArray).size ≤ 9223372036854775807)) = true then
    kr (v0 ++ (⟨#[49]⟩ : ByteArray))
    else
    none)
    else
    kn v0)))
noncomputable def i_byConstants (K : Nat) (x : (ByteArray × Bool × Bool × Unit)) : Option ByteArray :=
    (if x.2.1 = true then
    (if x.2.2.1 = true then
    (if (decide (x.1.size + (⟨#[50]⟩ : ByteArray).size ≤ 9223372036854775807)) = true then
    some (x.1 ++ (⟨#[50]⟩ : ByteArray))
    else
    none)
    else
    i_byConstants_j3 K K x.1 x.2.1 x.2.2.1 (fun z1 =>
    some z1) (fun z2 =>
    some z2))
    else
    i_byConstants_j3 K K x.1 x.2.1 x.2.2.1 (fun z3 =>
    some z3) (fun z4 =>
    some z4))
noncomputable def rv_i_byConstants : Lv := [(6, (.v .str))]
noncomputable def D_i_byConstants (K : Nat) : List (PD (den .str)) := [.J 3 [(0, (.v .str)), (1, (.v .bool)), (2, (.v .bool))] [(0, (.v .str))] K (fun k x kn kx kr => i_byConstants_j3 K k x.1 x.2.1 x.2.2.1 (fun z0 => kn (z0, ())) (fun z0 => kr (mkSt rv_i_byConstants (z0, ()))))]
theorem ok_i_byConstants (K : Nat) : FnOk Tryz.prog 52 (sp_i_byConstants (i_byConstants K)) :=
  fn_okD tysOk [] 0 (D_i_byConstants K) [] rv_i_byConstants K Tryz.func52 (by kernel_rfl) ⟨fun _ _ _ _ _ => by kernel_rfl, trivial⟩ (fun _ => by kernel_rfl)
noncomputable def C_i_byConstants (K : Nat) : CB Tryz.prog := .f _ _ (ok_i_byConstants K)
noncomputable def as_i_choose : Ty := (.pair .bool (.pair .str (.pair .str .unit)))
noncomputable def sp_i_choose (F : (Bool × ByteArray × ByteArray × Unit) → Option ByteArray) : FnSpec := ⟨as_i_choose, [false, false, false], .str, F⟩
noncomputable def i_choose (K : Nat) (x : (Bool × ByteArray × ByteArray × Unit)) : Option ByteArray :=
    (if x.1 = true then
    some x.2.1
    else
    some x.2.2.1)
noncomputable def rv_i_choose : Lv := [(6, (.v .str))]
theorem ok_i_choose (K : Nat) : FnOk Tryz.prog 53 (sp_i_choose (i_choose K)) :=
  fn_okD tysOk [] 0 [] [] rv_i_choose K Tryz.func53 (by kernel_rfl) trivial (fun _ => by kernel_rfl)
noncomputable def C_i_choose (K : Nat) : CB Tryz.prog := .f _ _ (ok_i_choose K)
noncomputable def as_i_least : Ty := (.pair (.sl tq0) (.pair (.int .i64) .unit))
noncomputable def sp_i_least (F : ((List dq0) × Int × Unit) → Option Int) : FnSpec := ⟨as_i_least, [false, false], (.int .i64), F⟩
noncomputable def i_least_l3 {R : Type} (K : Nat) : Nat → Int → Int → (List dq0) → Int → Int → (Int → Option R) → Option R
  | 0, _, _, _, _, _, _ => none
  | k + 1, v1, v5, v8, v9, v10, kx0 =>
    (if (decide (v10 < v9)) = true then
    (if (bnds v10 (v8.length : Int)) = true then
    (i_Func_degree K ((v8.getD v10.toNat ((0 : Int), (0 : Int), ())), v1, ())).bind fun y1 =>
    i_least_l3 K k v1 (minL v5 [y1]) v8 v9 (IntKind.i64.wrap (v10 + (1 : Int))) kx0
    else
    none)
    else
    kx0 v5)
noncomputable def i_least (K : Nat) (x : ((List dq0) × Int × Unit)) : Option Int :=
    i_least_l3 K K x.2.1 (9 : Int) x.1 (x.1.length : Int) (0 : Int) (fun z2 =>
    some z2)
noncomputable def X0_i_least : Lv := [(5, (.v (.int .i64)))]
noncomputable def rv_i_least : Lv := [(4, (.v (.int .i64)))]
noncomputable def D_i_least (K : Nat) : List (PD (den (.int .i64))) := [.L 3 [(1, (.v (.int .i64))), (5, (.v (.int .i64))), (8, (.v (.sl tq0))), (9, (.v (.int .i64))), (10, (.v (.int .i64)))] [] (fun k x kx kr => i_least_l3 K k x.1 x.2.1 x.2.2.1 x.2.2.2.1 x.2.2.2.2.1 (fun z0 => kx 0 (mkSt X0_i_least (z0, ()))))]
theorem ok_i_least (K : Nat) : FnOk Tryz.prog 56 (sp_i_least (i_least K)) :=
  fn_okD tysOk [C_i_Func_degree K] 0 (D_i_least K) [(0, X0_i_least)] rv_i_least K Tryz.func56 (by kernel_rfl) ⟨⟨fun _ _ _ _ => by kernel_rfl, fun _ _ _ => rfl⟩, trivial⟩ (fun _ => by kernel_rfl)
noncomputable def C_i_least (K : Nat) : CB Tryz.prog := .f _ _ (ok_i_least K)
noncomputable def as_internal_strconv_small : Ty := (.pair (.int .i64) .unit)
noncomputable def sp_internal_strconv_small (F : (Int × Unit) → Option ByteArray) : FnSpec := ⟨as_internal_strconv_small, [false], .str, F⟩
noncomputable def internal_strconv_small (K : Nat) (x : (Int × Unit)) : Option ByteArray :=
    (if (decide (x.1 < (10 : Int))) = true then
    (if (decide (0 ≤ x.1) && decide (x.1 ≤ (IntKind.i64.wrap (x.1 + (1 : Int)))) && decide ((IntKind.i64.wrap (x.1 + (1 : Int))) ≤ ((⟨#[48, 49, 50, 51, 52, 53, 54, 55, 56, 57, 97, 98, 99, 100, 101, 102, 103, 104, 105, 106, 107, 108, 109, 110, 111, 112, 113, 114, 115, 116, 117, 118, 119, 120, 121, 122]⟩ : ByteArray).size : Int))) = true then
    let x1 := ((⟨#[48, 49, 50, 51, 52, 53, 54, 55, 56, 57, 97, 98, 99, 100, 101, 102, 103, 104, 105, 106, 107, 108, 109, 110, 111, 112, 113, 114, 115, 116, 117, 118, 119, 120, 121, 122]⟩ : ByteArray).extract x.1.toNat (IntKind.i64.wrap (x.1 + (1 : Int))).toNat)
    some x1
    else
    none)
    else
    let x2 := (IntKind.i64.wrap ((IntKind.i64.wrap (x.1 * (2 : Int))) + (2 : Int)))
    (if (decide (0 ≤ (IntKind.i64.wrap (x.1 * (2 : Int)))) && decide ((IntKind.i64.wrap (x.1 * (2 : Int))) ≤ x2) && decide (x2 ≤ ((⟨#[48, 48, 48, 49, 48, 50, 48, 51, 48, 52, 48, 53, 48, 54, 48, 55, 48, 56, 48, 57, 49, 48, 49, 49, 49, 50, 49, 51, 49, 52, 49, 53, 49, 54, 49, 55, 49, 56, 49, 57, 50, 48, 50, 49, 50, 50, 50, 51, 50, 52, 50, 53, 50, 54, 50, 55, 50, 56, 50, 57, 51, 48, 51, 49, 51, 50, 51, 51, 51, 52, 51, 53, 51, 54, 51, 55, 51, 56, 51, 57, 52, 48, 52, 49, 52, 50, 52, 51, 52, 52, 52, 53, 52, 54, 52, 55, 52, 56, 52, 57, 53, 48, 53, 49, 53, 50, 53, 51, 53, 52, 53, 53, 53, 54, 53, 55, 53, 56, 53, 57, 54, 48, 54, 49, 54, 50, 54, 51, 54, 52, 54, 53, 54, 54, 54, 55, 54, 56, 54, 57, 55, 48, 55, 49, 55, 50, 55, 51, 55, 52, 55, 53, 55, 54, 55, 55, 55, 56, 55, 57, 56, 48, 56, 49, 56, 50, 56, 51, 56, 52, 56, 53, 56, 54, 56, 55, 56, 56, 56, 57, 57, 48, 57, 49, 57, 50, 57, 51, 57, 52, 57, 53, 57, 54, 57, 55, 57, 56, 57, 57]⟩ : ByteArray).size : Int))) = true then
    let x3 := ((⟨#[48, 48, 48, 49, 48, 50, 48, 51, 48, 52, 48, 53, 48, 54, 48, 55, 48, 56, 48, 57, 49, 48, 49, 49, 49, 50, 49, 51, 49, 52, 49, 53, 49, 54, 49, 55, 49, 56, 49, 57, 50, 48, 50, 49, 50, 50, 50, 51, 50, 52, 50, 53, 50, 54, 50, 55, 50, 56, 50, 57, 51, 48, 51, 49, 51, 50, 51, 51, 51, 52, 51, 53, 51, 54, 51, 55, 51, 56, 51, 57, 52, 48, 52, 49, 52, 50, 52, 51, 52, 52, 52, 53, 52, 54, 52, 55, 52, 56, 52, 57, 53, 48, 53, 49, 53, 50, 53, 51, 53, 52, 53, 53, 53, 54, 53, 55, 53, 56, 53, 57, 54, 48, 54, 49, 54, 50, 54, 51, 54, 52, 54, 53, 54, 54, 54, 55, 54, 56, 54, 57, 55, 48, 55, 49, 55, 50, 55, 51, 55, 52, 55, 53, 55, 54, 55, 55, 55, 56, 55, 57, 56, 48, 56, 49, 56, 50, 56, 51, 56, 52, 56, 53, 56, 54, 56, 55, 56, 56, 56, 57, 57, 48, 57, 49, 57, 50, 57, 51, 57, 52, 57, 53, 57, 54, 57, 55, 57, 56, 57, 57]⟩ : ByteArray).extract (IntKind.i64.wrap (x.1 * (2 : Int))).toNat x2.toNat)
    some x3
    else
    none))
noncomputable def rv_internal_strconv_small : Lv := [(2, (.v .str))]
theorem ok_internal_strconv_small (K : Nat) : FnOk Tryz.prog 116 (sp_internal_strconv_small (internal_strconv_small K)) :=
  fn_okD tysOk [] 0 [] [] rv_internal_strconv_small K Tryz.func116 (by kernel_rfl) trivial (fun _ => by kernel_rfl)
noncomputable def C_internal_strconv_small (K : Nat) : CB Tryz.prog := .f _ _ (ok_internal_strconv_small K)
noncomputable def as_math_bits_Len64 : Ty := (.pair (.int .u64) .unit)
noncomputable def sp_math_bits_Len64 (F : (Int × Unit) → Option Int) : FnSpec := ⟨as_math_bits_Len64, [false], (.int .i64), F⟩
noncomputable def math_bits_Len64_j10 {R : Type} (K : Nat) (k : Nat) (v0 : Int) (v2 : Int) (kn : Option R) (kr : (Int → Option R)) : Option R :=
    (if (bnds (IntKind.u8.wrap v0) ((⟨#[0, 1, 2, 2, 3, 3, 3, 3, 4, 4, 4, 4, 4, 4, 4, 4, 5, 5, 5, 5, 5, 5, 5, 5, 5, 5, 5, 5, 5, 5, 5, 5, 6, 6, 6, 6, 6, 6, 6, 6, 6, 6, 6, 6, 6, 6, 6, 6, 6, 6, 6, 6, 6, 6, 6, 6, 6, 6, 6, 6, 6, 6, 6, 6, 7, 7, 7, 7, 7, 7, 7, 7, 7, 7, 7, 7, 7, 7, 7, 7, 7, 7, 7, 7, 7, 7, 7, 7, 7, 7, 7, 7, 7, 7, 7, 7, 7, 7, 7, 7, 7, 7, 7, 7, 7, 7, 7, 7, 7, 7, 7, 7, 7, 7, 7, 7, 7, 7, 7, 7, 7, 7, 7, 7, 7, 7, 7, 7, 8, 8, 8, 8, 8, 8, 8, 8, 8, 8, 8, 8, 8, 8, 8, 8, 8, 8, 8, 8, 8, 8, 8, 8, 8, 8, 8, 8, 8, 8, 8, 8, 8, 8, 8, 8, 8, 8, 8, 8, 8, 8, 8, 8, 8, 8, 8, 8, 8, 8, 8, 8, 8, 8, 8, 8, 8, 8, 8, 8, 8, 8, 8, 8, 8, 8, 8, 8, 8, 8, 8, 8, 8, 8, 8, 8, 8, 8, 8, 8, 8, 8, 8, 8, 8, 8, 8, 8, 8, 8, 8, 8, 8, 8, 8, 8, 8, 8, 8, 8, 8, 8, 8, 8, 8, 8, 8, 8, 8, 8, 8, 8, 8, 8, 8, 8, 8, 8, 8, 8, 8, 8, 8, 8, 8, 8, 8, 8]⟩ : ByteArray).size : Int)) = true then
    let x1 := (byteAt (⟨#[0, 1, 2, 2, 3, 3, 3, 3, 4, 4, 4, 4, 4, 4, 4, 4, 5, 5, 5, 5, 5, 5, 5, 5, 5, 5, 5, 5, 5, 5, 5, 5, 6, 6, 6, 6, 6, 6, 6, 6, 6, 6, 6, 6, 6, 6, 6, 6, 6, 6, 6, 6, 6, 6, 6, 6, 6, 6, 6, 6, 6, 6, 6, 6, 7, 7, 7, 7, 7, 7, 7, 7, 7, 7, 7, 7, 7, 7, 7, 7, 7, 7, 7, 7, 7, 7, 7, 7, 7, 7, 7, 7, 7, 7, 7, 7, 7, 7, 7, 7, 7, 7, 7, 7, 7, 7, 7, 7, 7, 7, 7, 7, 7, 7, 7, 7, 7, 7, 7, 7, 7, 7, 7, 7, 7, 7, 7, 7, 8, 8, 8, 8, 8, 8, 8, 8, 8, 8, 8, 8, 8, 8, 8, 8, 8, 8, 8, 8, 8, 8, 8, 8, 8, 8, 8, 8, 8, 8, 8, 8, 8, 8, 8, 8, 8, 8, 8, 8, 8, 8, 8, 8, 8, 8, 8, 8, 8, 8, 8, 8, 8, 8, 8, 8, 8, 8, 8, 8, 8, 8, 8, 8, 8, 8, 8, 8, 8, 8, 8, 8, 8, 8, 8, 8, 8, 8, 8, 8, 8, 8, 8, 8, 8, 8, 8, 8, 8, 8, 8, 8, 8, 8, 8, 8, 8, 8, 8, 8, 8, 8, 8, 8, 8, 8, 8, 8, 8, 8, 8, 8, 8, 8, 8, 8, 8, 8, 8, 8, 8, 8, 8, 8, 8, 8, 8, 8]⟩ : ByteArray) (IntKind.u8.wrap v0))
    kr (IntKind.i64.wrap (v2 + (IntKind.i64.wrap x1)))
    else
    none)
noncomputable def math_bits_Len64_j7 {R : Type} (K : Nat) (k : Nat) (v0 : Int) (v2 : Int) (kn : Option R) (kr : (Int → Option R)) : Option R :=
    (if (decide (v0 ≥ (256 : Int))) = true then
    math_bits_Len64_j10 K k (shrI .u64 v0 (8 : Int)) (IntKind.i64.wrap (v2 + (8 : Int))) none (fun z2 =>
    kr z2)
    else
    math_bits_Len64_j10 K k v0 v2 none (fun z3 =>
    kr z3))
noncomputable def math_bits_Len64_j4 {R : Type} (K : Nat) (k : Nat) (v0 : Int) (v2 : Int) (kn : Option R) (kr : (Int → Option R)) : Option R :=
    (if (decide (v0 ≥ (65536 : Int))) = true then
    math_bits_Len64_j7 K k (shrI .u64 v0 (16 : Int)) (IntKind.i64.wrap (v2 + (16 : Int))) none (fun z4 =>
    kr z4)
    else
    math_bits_Len64_j7 K k v0 v2 none (fun z5 =>
    kr z5))
noncomputable def math_bits_Len64 (K : Nat) (x : (Int × Unit)) : Option Int :=
    (if (decide (x.1 ≥ (4294967296 : Int))) = true then
    math_bits_Len64_j4 K K (shrI .u64 x.1 (32 : Int)) (32 : Int) none (fun z6 =>
    some z6)
    else
    math_bits_Len64_j4 K K x.1 (0 : Int) none (fun z7 =>
    some z7))
noncomputable def rv_math_bits_Len64 : Lv := [(2, (.v (.int .i64)))]
noncomputable def D_math_bits_Len64 (K : Nat) : List (PD (den (.int .i64))) := [.J 4 [(0, (.v (.int .u64))), (2, (.v (.int .i64)))] [] 0 (fun k x kn kx kr => math_bits_Len64_j4 K k x.1 x.2.1 (kn ()) (fun z0 => kr (mkSt rv_math_bits_Len64 (z0, ())))),
  .J 7 [(0, (.v (.int .u64))), (2, (.v (.int .i64)))] [] 0 (fun k x kn kx kr => math_bits_Len64_j7 K k x.1 x.2.1 (kn ()) (fun z0 => kr (mkSt rv_math_bits_Len64 (z0, ())))),
  .J 10 [(0, (.v (.int .u64))), (2, (.v (.int .i64)))] [] 0 (fun k x kn kx kr => math_bits_Len64_j10 K k x.1 x.2.1 (kn ()) (fun z0 => kr (mkSt rv_math_bits_Len64 (z0, ()))))]
theorem ok_math_bits_Len64 (K : Nat) : FnOk Tryz.prog 108 (sp_math_bits_Len64 (math_bits_Len64 K)) :=
  fn_okD tysOk [] 0 (D_math_bits_Len64 K) [] rv_math_bits_Len64 K Tryz.func108 (by kernel_rfl) ⟨fun _ _ _ _ _ => by kernel_rfl, ⟨fun _ _ _ _ _ => by kernel_rfl, ⟨fun _ _ _ _ _ => by kernel_rfl, trivial⟩⟩⟩ (fun _ => by kernel_rfl)
noncomputable def C_math_bits_Len64 (K : Nat) : CB Tryz.prog := .f _ _ (ok_math_bits_Len64 K)
noncomputable def as_internal_strconv_log10Pow2 : Ty := (.pair (.int .i64) .unit)
noncomputable def sp_internal_strconv_log10Pow2 (F : (Int × Unit) → Option Int) : FnSpec := ⟨as_internal_strconv_log10Pow2, [false], (.int .i64), F⟩
noncomputable def internal_strconv_log10Pow2 (K : Nat) (x : (Int × Unit)) : Option Int :=
    let x1 := (shrI .i64 (IntKind.i64.wrap (x.1 * (78913 : Int))) (18 : Int))
    some x1
noncomputable def rv_internal_strconv_log10Pow2 : Lv := [(2, (.v (.int .i64)))]
theorem ok_internal_strconv_log10Pow2 (K : Nat) : FnOk Tryz.prog 129 (sp_internal_strconv_log10Pow2 (internal_strconv_log10Pow2 K)) :=
  fn_okD tysOk [] 0 [] [] rv_internal_strconv_log10Pow2 K Tryz.func129 (by kernel_rfl) trivial (fun _ => by kernel_rfl)
noncomputable def C_internal_strconv_log10Pow2 (K : Nat) : CB Tryz.prog := .f _ _ (ok_internal_strconv_log10Pow2 K)
noncomputable def as_internal_strconv_numDigits : Ty := (.pair (.int .u64) .unit)
noncomputable def sp_internal_strconv_numDigits (F : (Int × Unit) → Option Int) : FnSpec := ⟨as_internal_strconv_numDigits, [false], (.int .i64), F⟩
noncomputable def internal_strconv_numDigits (K : Nat) (x : (Int × Unit)) : Option Int :=
    (math_bits_Len64 K (x.1, ())).bind fun y1 =>
    (internal_strconv_log10Pow2 K (y1, ())).bind fun y2 =>
    none
noncomputable def rv_internal_strconv_numDigits : Lv := []
theorem ok_internal_strconv_numDigits (K : Nat) : FnOk Tryz.prog 117 (sp_internal_strconv_numDigits (internal_strconv_numDigits K)) :=
  fn_okD tysOk [C_math_bits_Len64 K, C_internal_strconv_log10Pow2 K] 0 [] [] rv_internal_strconv_numDigits K Tryz.func117 (by kernel_rfl) trivial (fun _ => by kernel_rfl)
noncomputable def C_internal_strconv_numDigits (K : Nat) : CB Tryz.prog := .f _ _ (ok_internal_strconv_numDigits K)
noncomputable def as_internal_strconv_formatBits : Ty := (.pair (.sl (.int .u8)) (.pair (.int .u64) (.pair (.int .i64) (.pair .bool (.pair .bool .unit)))))
noncomputable def sp_internal_strconv_formatBits (F : ((List Int) × Int × Int × Bool × Bool × Unit) → Option ((List Int) × ByteArray × Unit)) : FnSpec := ⟨as_internal_strconv_formatBits, [false, false, false, false, false], (.tup (.pair (.sl (.int .u8)) (.pair .str .unit))), F⟩
noncomputable def internal_strconv_formatBits (K : Nat) (x : ((List Int) × Int × Int × Bool × Bool × Unit)) : Option ((List Int) × ByteArray × Unit) := none
theorem ok_internal_strconv_formatBits (K : Nat) : FnOk Tryz.prog 119 (sp_internal_strconv_formatBits (internal_strconv_formatBits K)) := fnOk_none
noncomputable def C_internal_strconv_formatBits (K : Nat) : CB Tryz.prog := .f _ _ (ok_internal_strconv_formatBits K)
noncomputable def as_internal_strconv_FormatInt : Ty := (.pair (.int .i64) (.pair (.int .i64) .unit))
noncomputable def sp_internal_strconv_FormatInt (F : (Int × Int × Unit) → Option ByteArray) : FnSpec := ⟨as_internal_strconv_FormatInt, [false, false], .str, F⟩
noncomputable def internal_strconv_FormatInt_j8 {R : Type} (K : Nat) (k : Nat) (v0 : Int) (v5 : (List Int)) (v6 : Int) (kn : Option R) (kr : (ByteArray → Option R)) : Option R :=
    (internal_strconv_numDigits K (v6, ())).bind fun y2 =>
    none
noncomputable def internal_strconv_FormatInt_j4 {R : Type} (K : Nat) (k : Nat) (v0 : Int) (kn : Option R) (kr : (ByteArray → Option R)) : Option R :=
    (if (decide (v0 < (0 : Int))) = true then
    internal_strconv_FormatInt_j8 K k v0 (List.replicate 24 (0 : Int)) (IntKind.u64.wrap (0 - (IntKind.u64.wrap v0))) none (fun z3 =>
    kr z3)
    else
    internal_strconv_FormatInt_j8 K k v0 (List.replicate 24 (0 : Int)) (IntKind.u64.wrap v0) none (fun z4 =>
    kr z4))
noncomputable def internal_strconv_FormatInt (K : Nat) (x : (Int × Int × Unit)) : Option ByteArray :=
    (if (decide (x.2.1 = (10 : Int))) = true then
    (if (decide ((0 : Int) ≤ x.1)) = true then
    (if (decide (x.1 < (100 : Int))) = true then
    (internal_strconv_small K (x.1, ())).bind fun y1 =>
    some y1
    else
    internal_strconv_FormatInt_j4 K K x.1 none (fun z5 =>
    some z5))
    else
    internal_strconv_FormatInt_j4 K K x.1 none (fun z6 =>
    some z6))
    else
    (internal_strconv_formatBits K (([] : List Int), (IntKind.u64.wrap x.1), x.2.1, (decide (x.1 < (0 : Int))), false, ())).bind fun y7 =>
    some y7.2.1)
noncomputable def rv_internal_strconv_FormatInt : Lv := [(4, (.v .str))]
noncomputable def D_internal_strconv_FormatInt (K : Nat) : List (PD (den .str)) := [.J 4 [(0, (.v (.int .i64)))] [] 0 (fun k x kn kx kr => internal_strconv_FormatInt_j4 K k x.1 (kn ()) (fun z0 => kr (mkSt rv_internal_strconv_FormatInt (z0, ())))),
  .J 8 [(0, (.v (.int .i64))), (5, (.bx (.v (.arr 24 (.int .u8))))), (6, (.v (.int .u64)))] [] 0 (fun k x kn kx kr => internal_strconv_FormatInt_j8 K k x.1 x.2.1 x.2.2.1 (kn ()) (fun z0 => kr (mkSt rv_internal_strconv_FormatInt (z0, ()))))]
theorem ok_internal_strconv_FormatInt (K : Nat) : FnOk Tryz.prog 97 (sp_internal_strconv_FormatInt (internal_strconv_FormatInt K)) :=
  fn_okD tysOk [C_internal_strconv_small K, C_internal_strconv_numDigits K, C_internal_strconv_formatBits K] 0 (D_internal_strconv_FormatInt K) [] rv_internal_strconv_FormatInt K Tryz.func97 (by kernel_rfl) ⟨fun _ _ _ _ _ => by kernel_rfl, ⟨fun _ _ _ _ _ => by kernel_rfl, trivial⟩⟩ (fun _ => by kernel_rfl)
noncomputable def C_internal_strconv_FormatInt (K : Nat) : CB Tryz.prog := .f _ _ (ok_internal_strconv_FormatInt K)
noncomputable def as_strconv_FormatInt : Ty := (.pair (.int .i64) (.pair (.int .i64) .unit))
noncomputable def sp_strconv_FormatInt (F : (Int × Int × Unit) → Option ByteArray) : FnSpec := ⟨as_strconv_FormatInt, [false, false], .str, F⟩
noncomputable def strconv_FormatInt (K : Nat) (x : (Int × Int × Unit)) : Option ByteArray :=
    (internal_strconv_FormatInt K (x.1, x.2.1, ())).bind fun y1 =>
    some y1
noncomputable def rv_strconv_FormatInt : Lv := [(4, (.v .str))]
theorem ok_strconv_FormatInt (K : Nat) : FnOk Tryz.prog 87 (sp_strconv_FormatInt (strconv_FormatInt K)) :=
  fn_okD tysOk [C_internal_strconv_FormatInt K] 0 [] [] rv_strconv_FormatInt K Tryz.func87 (by kernel_rfl) trivial (fun _ => by kernel_rfl)
noncomputable def C_strconv_FormatInt (K : Nat) : CB Tryz.prog := .f _ _ (ok_strconv_FormatInt K)
noncomputable def as_i_separatedName : Ty := (.pair .str (.pair .bool (.pair .bool (.pair (.int .i64) .unit))))
noncomputable def sp_i_separatedName (F : (ByteArray × Bool × Bool × Int × Unit) → Option ByteArray) : FnSpec := ⟨as_i_separatedName, [false, false, false, false], .str, F⟩
noncomputable def i_separatedName (K : Nat) (x : (ByteArray × Bool × Bool × Int × Unit)) : Option ByteArray :=
    (i_choose K (x.2.1, (⟨#[48]⟩ : ByteArray), (⟨#[49]⟩ : ByteArray), ())).bind fun y1 =>
    (i_choose K (x.2.1, (⟨#[50]⟩ : ByteArray), (⟨#[]⟩ : ByteArray), ())).bind fun y2 =>
    (i_choose K (x.2.2.1, y1, y2, ())).bind fun y3 =>
    (if (decide (x.2.2.2.1 < (9 : Int))) = true then
    (if (decide (x.1.size + y3.size ≤ 9223372036854775807)) = true then
    (if (decide ((x.1 ++ y3).size + (⟨#[94]⟩ : ByteArray).size ≤ 9223372036854775807)) = true then
    (strconv_FormatInt K (x.2.2.2.1, (10 : Int), ())).bind fun y4 =>
    (if (decide (((x.1 ++ y3) ++ (⟨#[94]⟩ : ByteArray)).size + y4.size ≤ 9223372036854775807)) = true then
    some (((x.1 ++ y3) ++ (⟨#[94]⟩ : ByteArray)) ++ y4)
    else
    none)
    else
    none)
    else
    none)
    else
    (if (decide (x.1.size + y3.size ≤ 9223372036854775807)) = true then
    some (x.1 ++ y3)
    else
    none))
noncomputable def rv_i_separatedName : Lv := [(8, (.v .str))]
theorem ok_i_separatedName (K : Nat) : FnOk Tryz.prog 57 (sp_i_separatedName (i_separatedName K)) :=
  fn_okD tysOk [C_i_choose K, C_strconv_FormatInt K] 0 [] [] rv_i_separatedName K Tryz.func57 (by kernel_rfl) trivial (fun _ => by kernel_rfl)
noncomputable def C_i_separatedName (K : Nat) : CB Tryz.prog := .f _ _ (ok_i_separatedName K)
noncomputable def as_i_cloneName : Ty := (.pair (.sl tq0) .unit)
noncomputable def sp_i_cloneName (F : ((List dq0) × Unit) → Option ByteArray) : FnSpec := ⟨as_i_cloneName, [false], .str, F⟩
noncomputable def i_cloneName_l3 {R : Type} (K : Nat) : Nat → (List dq0) → (List Bool) → Int → ((List dq0) → (List Bool) → Option R) → Option R
  | 0, _, _, _, _ => none
  | k + 1, v0, v3, v10, kx0 =>
    (if (decide (v10 < (5 : Int))) = true then
    (i_allIn K (v0, v10, ())).bind fun y1 =>
    (if (bnds v10 (5 : Int)) = true then
    let a2 := (v3.set v10.toNat y1)
    i_cloneName_l3 K k v0 a2 (IntKind.i64.wrap (v10 + (1 : Int))) kx0
    else
    none)
    else
    kx0 v0 v3)
noncomputable def i_cloneName_j20 {R : Type} (K : Nat) (k : Nat) (v0 : (List dq0)) (v5 : Bool) (v6 : Bool) (v7 : Bool) (v8 : Bool) (v9 : Bool) (kn : Bool → Bool → Option R) (kr : (ByteArray → Option R)) : Option R :=
    gN K ((if v9 = true then
    (i_byConstants K ((⟨#[76]⟩ : ByteArray), v5, v6, ())).bind fun y17 =>
    kr y17
    else
    (if v7 = true then
    (i_choose K (v5, (⟨#[68, 49]⟩ : ByteArray), (⟨#[68]⟩ : ByteArray), ())).bind fun y18 =>
    (i_choose K (v8, (⟨#[68, 50]⟩ : ByteArray), y18, ())).bind fun y19 =>
    kr y19
    else
    (i_least K (v0, (0 : Int), ())).bind fun y20 =>
    (if (decide (y20 ≥ (2 : Int))) = true then
    (i_least K (v0, (0 : Int), ())).bind fun y21 =>
    (i_separatedName K ((⟨#[83, 48]⟩ : ByteArray), v5, v8, y21, ())).bind fun y22 =>
    kr y22
    else
    (i_least K (v0, (1 : Int), ())).bind fun y23 =>
    (if (decide (y23 ≥ (2 : Int))) = true then
    (i_least K (v0, (1 : Int), ())).bind fun y24 =>
    (i_separatedName K ((⟨#[83, 49]⟩ : ByteArray), v6, v8, y24, ())).bind fun y25 =>
    kr y25
    else
    (if v8 = true then
    (i_byConstants K ((⟨#[77]⟩ : ByteArray), v5, v6, ())).bind fun y26 =>
    kr y26
    else
    kn v5 v6))))))
noncomputable def i_cloneName_j18 {R : Type} (K : Nat) (k : Nat) (v0 : (List dq0)) (v5 : Bool) (v6 : Bool) (v7 : Bool) (v8 : Bool) (v9 : Bool) (kn : Bool → Bool → Option R) (kr : (ByteArray → Option R)) : Option R :=
    gN K ((if v9 = true then
    (if v7 = true then
    kr (⟨#[76, 51]⟩ : ByteArray)
    else
    i_cloneName_j20 K k v0 v5 v6 v7 v8 v9 (fun z27 z28 =>
    kn z27 z28) (fun z29 =>
    kr z29))
    else
    i_cloneName_j20 K k v0 v5 v6 v7 v8 v9 (fun z30 z31 =>
    kn z30 z31) (fun z32 =>
    kr z32)))
noncomputable def i_cloneName_j10 {R : Type} (K : Nat) (k : Nat) (v0 : (List dq0)) (v5 : Bool) (v6 : Bool) (v7 : Bool) (v8 : Bool) (v9 : Bool) (kn : Bool → Bool → Option R) (kr : (ByteArray → Option R)) : Option R :=
    gN K ((i_allAre K (v0, (fun y9 => i_Func_isUnary K (y9.1, ())), ())).bind fun y8 =>
    (if y8 = true then
    (i_choose K (v7, (⟨#[78, 50]⟩ : ByteArray), (⟨#[78]⟩ : ByteArray), ())).bind fun y10 =>
    kr y10
    else
    (i_allAre K (v0, (fun y12 => i_Func_isDisjunction K (y12.1, ())), ())).bind fun y11 =>
    (if y11 = true then
    (i_byConstants K ((⟨#[86]⟩ : ByteArray), v5, v6, ())).bind fun y13 =>
    kr y13
    else
    (i_allAre K (v0, (fun y15 => i_Func_isConjunction K (y15.1, ())), ())).bind fun y14 =>
    (if y14 = true then
    (i_byConstants K ((⟨#[69]⟩ : ByteArray), v5, v6, ())).bind fun y16 =>
    kr y16
    else
    (if v9 = true then
    (if v5 = true then
    (if v6 = true then
    kr (⟨#[76, 50]⟩ : ByteArray)
    else
    i_cloneName_j18 K k v0 v5 v6 v7 v8 v9 (fun z33 z34 =>
    kn z33 z34) (fun z35 =>
    kr z35))
    else
    i_cloneName_j18 K k v0 v5 v6 v7 v8 v9 (fun z36 z37 =>
    kn z36 z37) (fun z38 =>
    kr z38))
    else
    i_cloneName_j18 K k v0 v5 v6 v7 v8 v9 (fun z39 z40 =>
    kn z39 z40) (fun z41 =>
    kr z41))))))
noncomputable def i_cloneName_j30 {R : Type} (K : Nat) (k : Nat) (v5 : Bool) (v6 : Bool) (kn : Option R) (kr : (ByteArray → Option R)) : Option R :=
    (if v5 = true then
    (i_byConstants K ((⟨#[82]⟩ : ByteArray), v5, v6, ())).bind fun y44 =>
    (i_choose K (true, y44, (⟨#[66, 70]⟩ : ByteArray), ())).bind fun y45 =>
    kr y45
    else
    (i_byConstants K ((⟨#[82]⟩ : ByteArray), v5, v6, ())).bind fun y46 =>
    (i_choose K (v6, y46, (⟨#[66, 70]⟩ : ByteArray), ())).bind fun y47 =>
    kr y47)
noncomputable def i_cloneName (K : Nat) (x : ((List dq0) × Unit)) : Option ByteArray :=
    i_cloneName_l3 K K x.1 (List.replicate 5 false) (0 : Int) (fun z3 z4 =>
    (if (bnds (0 : Int) (5 : Int)) = true then
    (if (bnds (1 : Int) (5 : Int)) = true then
    (if (bnds (2 : Int) (5 : Int)) = true then
    (if (bnds (3 : Int) (5 : Int)) = true then
    (if (bnds (4 : Int) (5 : Int)) = true then
    (i_allAre K (z3, (fun y6 => i_Func_isUnary K (y6.1, ())), ())).bind fun y5 =>
    (if y5 = true then
    (if (z4.getD (3 : Int).toNat false) = true then
    (i_byConstants K ((⟨#[73]⟩ : ByteArray), (z4.getD (0 : Int).toNat false), (z4.getD (1 : Int).toNat false), ())).bind fun y7 =>
    some y7
    else
    i_cloneName_j10 K K z3 (z4.getD (0 : Int).toNat false) (z4.getD (1 : Int).toNat false) (z4.getD (2 : Int).toNat false) (z4.getD (3 : Int).toNat false) (z4.getD (4 : Int).toNat false) (fun z42 z43 =>
    i_cloneName_j30 K K z42 z43 none (fun z48 =>
    some z48)) (fun z49 =>
    some z49))
    else
    i_cloneName_j10 K K z3 (z4.getD (0 : Int).toNat false) (z4.getD (1 : Int).toNat false) (z4.getD (2 : Int).toNat false) (z4.getD (3 : Int).toNat false) (z4.getD (4 : Int).toNat false) (fun z50 z51 =>
    i_cloneName_j30 K K z50 z51 none (fun z52 =>
    some z52)) (fun z53 =>
    some z53))
    else
    none)
    else
    none)
    else
    none)
    else
    none)
    else
    none))
noncomputable def X0_i_cloneName : Lv := [(0, (.v (.sl tq0))), (3, (.bx (.v (.arr 5 .bool))))]
noncomputable def rv_i_cloneName : Lv := [(2, (.v .str))]
noncomputable def D_i_cloneName (K : Nat) : List (PD (den .str)) := [.L 3 [(0, (.v (.sl tq0))), (3, (.bx (.v (.arr 5 .bool)))), (10, (.v (.int .i64)))] [] (fun k x kx kr => i_cloneName_l3 K k x.1 x.2.1 x.2.2.1 (fun z0 z1 => kx 0 (mkSt X0_i_cloneName (z0, z1, ())))),
  .J 10 [(0, (.v (.sl tq0))), (5, (.v .bool)), (6, (.v .bool)), (7, (.v .bool)), (8, (.v .bool)), (9, (.v .bool))] [(5, (.v .bool)), (6, (.v .bool))] K (fun k x kn kx kr => i_cloneName_j10 K k x.1 x.2.1 x.2.2.1 x.2.2.2.1 x.2.2.2.2.1 x.2.2.2.2.2.1 (fun z0 z1 => kn (z0, z1, ())) (fun z0 => kr (mkSt rv_i_cloneName (z0, ())))),
  .J 18 [(0, (.v (.sl tq0))), (5, (.v .bool)), (6, (.v .bool)), (7, (.v .bool)), (8, (.v .bool)), (9, (.v .bool))] [(5, (.v .bool)), (6, (.v .bool))] K (fun k x kn kx kr => i_cloneName_j18 K k x.1 x.2.1 x.2.2.1 x.2.2.2.1 x.2.2.2.2.1 x.2.2.2.2.2.1 (fun z0 z1 => kn (z0, z1, ())) (fun z0 => kr (mkSt rv_i_cloneName (z0, ())))),
  .J 20 [(0, (.v (.sl tq0))), (5, (.v .bool)), (6, (.v .bool)), (7, (.v .bool)), (8, (.v .bool)), (9, (.v .bool))] [(5, (.v .bool)), (6, (.v .bool))] K (fun k x kn kx kr => i_cloneName_j20 K k x.1 x.2.1 x.2.2.1 x.2.2.2.1 x.2.2.2.2.1 x.2.2.2.2.2.1 (fun z0 z1 => kn (z0, z1, ())) (fun z0 => kr (mkSt rv_i_cloneName (z0, ())))),
  .J 30 [(5, (.v .bool)), (6, (.v .bool))] [] 0 (fun k x kn kx kr => i_cloneName_j30 K k x.1 x.2.1 (kn ()) (fun z0 => kr (mkSt rv_i_cloneName (z0, ()))))]
theorem ok_i_cloneName (K : Nat) : FnOk Tryz.prog 18 (sp_i_cloneName (i_cloneName K)) :=
  fn_okD tysOk [C_i_allAre K, C_i_allIn K, C_i_Func_isUnary K, C_i_byConstants K, C_i_choose K, C_i_Func_isDisjunction K, C_i_Func_isConjunction K, C_i_least K, C_i_separatedName K] 0 (D_i_cloneName K) [(0, X0_i_cloneName)] rv_i_cloneName K Tryz.func18 (by kernel_rfl) ⟨⟨fun _ _ _ _ => by kernel_rfl, fun _ _ _ => rfl⟩, ⟨fun _ _ _ _ _ => by kernel_rfl, ⟨fun _ _ _ _ _ => by kernel_rfl, ⟨fun _ _ _ _ _ => by kernel_rfl, ⟨fun _ _ _ _ _ => by kernel_rfl, trivial⟩⟩⟩⟩⟩ (fun _ => by kernel_rfl)
noncomputable def C_i_cloneName (K : Nat) : CB Tryz.prog := .f _ _ (ok_i_cloneName K)
noncomputable def as_slices_Clone_impl_Func : Ty := (.pair (.sl tq0) .unit)
noncomputable def sp_slices_Clone_impl_Func (F : ((List dq0) × Unit) → Option (List dq0)) : FnSpec := ⟨as_slices_Clone_impl_Func, [false], (.sl tq0), F⟩
noncomputable def slices_Clone_impl_Func (K : Nat) (x : List (Int × Int × Unit) × Unit) : Option (List (Int × Int × Unit)) := if x.1.length ≤ lim then some x.1 else none
noncomputable def ren_slices_Clone_impl_Func : Go.Shelf.Ren := ⟨fun _ => 60, fun k => bif Nat.beq k 22 then 34 else bif Nat.beq k 23 then 31 else 4, fun k => k⟩
theorem lays_slices_Clone_impl_Func : SlLaysE0.n41 Tryz.prog ren_slices_Clone_impl_Func :=
  ⟨by kernel_rfl, ⟨Tryz.f60.name, by kernel_rfl, by kernel_rfl⟩, Tryz.underlying4, Tryz.isAgg4, Tryz.sizeOf4, Tryz.zeroValue4, Tryz.underlying34, Tryz.isAgg34, Tryz.sizeOf34, Tryz.zeroValue34⟩
theorem ok_slices_Clone_impl_Func (K : Nat) : FnOk Tryz.prog 60 (sp_slices_Clone_impl_Func (slices_Clone_impl_Func K)) := clone_ok (ty := lk tys) lays_slices_Clone_impl_Func (tysOk 31 _ rfl) rfl (z := .val (.st (.pair (.int .i64) (.pair (.int .i64) .unit))) ((0 : Int), (0 : Int), ())) rfl rfl (by decide)
noncomputable def C_slices_Clone_impl_Func (K : Nat) : CB Tryz.prog := .f _ _ (ok_slices_Clone_impl_Func K)
noncomputable def as_i_isInNamed : Ty := (.pair tq0 (.pair .str (.pair (.sl tq0) .unit)))
noncomputable def sp_i_isInNamed (F : (dq0 × ByteArray × (List dq0) × Unit) → Option Bool) : FnSpec := ⟨as_i_isInNamed, [false, false, false], .bool, F⟩
noncomputable def i_isInNamed (K : Nat) (x : (dq0 × ByteArray × (List dq0) × Unit)) : Option Bool :=
    (slices_Clone_impl_Func K (x.2.2.1, ())).bind fun y1 =>
    (if (decide (y1.length + ([x.1]).length ≤ lim)) = true then
    let l2 := (y1 ++ [x.1])
    (i_cloneName K (l2, ())).bind fun y3 =>
    some (cmpS .eql y3 x.2.1)
    else
    none)
noncomputable def rv_i_isInNamed : Lv := [(6, (.v .bool))]
theorem ok_i_isInNamed (K : Nat) : FnOk Tryz.prog 22 (sp_i_isInNamed (i_isInNamed K)) :=
  fn_okD tysOk [C_i_cloneName K, C_slices_Clone_impl_Func K] 0 [] [] rv_i_isInNamed K Tryz.func22 (by kernel_rfl) trivial (fun _ => by kernel_rfl)
noncomputable def C_i_isInNamed (K : Nat) : CB Tryz.prog := .f _ _ (ok_i_isInNamed K)
noncomputable def as_i_IsInNamed : Ty := (.pair tq0 (.pair .str .unit))
noncomputable def sp_i_IsInNamed (F : (dq0 × ByteArray × Unit) → Option (Bool × Int × Unit)) : FnSpec := ⟨as_i_IsInNamed, [false, false], (.tup (.pair .bool (.pair (.int .i64) .unit))), F⟩
noncomputable def i_IsInNamed (K : Nat) (x : (dq0 × ByteArray × Unit)) : Option (Bool × Int × Unit) :=
    (i_IsFunc K (x.1, ())).bind fun y1 =>
    (if (!y1) = true then
    some (false, (1 : Int), ())
    else
    (i_generators K (x.2.1, ())).bind fun y2 =>
    (if (!y2.2.1) = true then
    some (false, (6 : Int), ())
    else
    (i_isInNamed K (x.1, x.2.1, y2.1, ())).bind fun y3 =>
    some (y3, (0 : Int), ())))
noncomputable def rv_i_IsInNamed : Lv := [(4, (.v .bool)), (5, (.v (.int .i64)))]
theorem ok_i_IsInNamed (K : Nat) : FnOk Tryz.prog 12 (sp_i_IsInNamed (i_IsInNamed K)) :=
  fn_okD tysOk [C_i_generators K, C_i_isInNamed K, C_i_IsFunc K] 0 [] [] rv_i_IsInNamed K Tryz.func12 (by kernel_rfl) trivial (fun _ => by kernel_rfl)
noncomputable def C_i_IsInNamed (K : Nat) : CB Tryz.prog := .f _ _ (ok_i_IsInNamed K)
noncomputable def as_s_l01Rows : Ty := (.pair (.int .i64) .unit)
noncomputable def sp_s_l01Rows (F : (Int × Unit) → Option Int) : FnSpec := ⟨as_s_l01Rows, [false], (.int .i64), F⟩
noncomputable def s_l01Rows (K : Nat) (x : (Int × Unit)) : Option Int :=
    (if (decide ((0 : Int) ≤ (IntKind.u64.wrap x.1))) = true then
    some (shlI .i64 (1 : Int) (IntKind.u64.wrap x.1))
    else
    none)
noncomputable def rv_s_l01Rows : Lv := [(2, (.v (.int .i64)))]
theorem ok_s_l01Rows (K : Nat) : FnOk Tryz.prog 26 (sp_s_l01Rows (s_l01Rows K)) :=
  fn_okD tysOk [] 0 [] [] rv_s_l01Rows K Tryz.func26 (by kernel_rfl) trivial (fun _ => by kernel_rfl)
noncomputable def C_s_l01Rows (K : Nat) : CB Tryz.prog := .f _ _ (ok_s_l01Rows K)
noncomputable def as_s_l01At : Ty := (.pair tq0 (.pair (.int .i64) .unit))
noncomputable def sp_s_l01At (F : (dq0 × Int × Unit) → Option Int) : FnSpec := ⟨as_s_l01At, [false, false], (.int .i64), F⟩
noncomputable def s_l01At (K : Nat) (x : (dq0 × Int × Unit)) : Option Int :=
    (if (decide ((0 : Int) ≤ (IntKind.u64.wrap x.2.1))) = true then
    let x1 := (bitI .and .i64 (shrI .i64 x.1.2.1 (IntKind.u64.wrap x.2.1)) (1 : Int))
    some x1
    else
    none)
noncomputable def rv_s_l01At : Lv := [(4, (.v (.int .i64)))]
theorem ok_s_l01At (K : Nat) : FnOk Tryz.prog 27 (sp_s_l01At (s_l01At K)) :=
  fn_okD tysOk [] 0 [] [] rv_s_l01At K Tryz.func27 (by kernel_rfl) trivial (fun _ => by kernel_rfl)
noncomputable def C_s_l01At (K : Nat) : CB Tryz.prog := .f _ _ (ok_s_l01At K)
noncomputable def as_s_l01Of : Ty := (.pair (.int .i64) (.pair (.sl (.int .i64)) .unit))
noncomputable def sp_s_l01Of (F : (Int × (List Int) × Unit) → Option dq0) : FnSpec := ⟨as_s_l01Of, [false, false], tq0, F⟩
noncomputable def s_l01Of_l3 {R : Type} (K : Nat) : Nat → Int → (List Int) → dq0 → dq0 → Int → (dq0 → dq0 → Option R) → Option R
  | 0, _, _, _, _, _, _ => none
  | k + 1, v0, v1, v4, v5, v6, kx0 =>
    (s_l01Rows K (v0, ())).bind fun y1 =>
    (if (decide (v6 < y1)) = true then
    (if (bnds v6 (v1.length : Int)) = true then
    (if (decide ((0 : Int) ≤ (IntKind.u64.wrap v6))) = true then
    let x2 := (shlI .i64 (v1.getD v6.toNat (0 : Int)) (IntKind.u64.wrap v6))
    s_l01Of_l3 K k v0 v1 v4 (v5.1, (IntKind.i64.wrap (v5.2.1 + x2)), ()) (IntKind.i64.wrap (v6 + (1 : Int))) kx0
    else
    none)
    else
    none)
    else
    kx0 v4 v5)
noncomputable def s_l01Of (K : Nat) (x : (Int × (List Int) × Unit)) : Option dq0 :=
    s_l01Of_l3 K K x.1 x.2.1 ((0 : Int), (0 : Int), ()) (x.1, ((0 : Int), (0 : Int), ()).2.1, ()) (0 : Int) (fun z3 z4 =>
    some z4)
noncomputable def X0_s_l01Of : Lv := [(4, (.bx (.v tq0))), (5, (.bx (.v tq0)))]
noncomputable def rv_s_l01Of : Lv := [(4, (.bx (.v tq0)))]
noncomputable def D_s_l01Of (K : Nat) : List (PD (den tq0)) := [.L 3 [(0, (.v (.int .i64))), (1, (.v (.sl (.int .i64)))), (4, (.bx (.v tq0))), (5, (.bx (.v tq0))), (6, (.v (.int .i64)))] [] (fun k x kx kr => s_l01Of_l3 K k x.1 x.2.1 x.2.2.1 x.2.2.2.1 x.2.2.2.2.1 (fun z0 z1 => kx 0 (mkSt X0_s_l01Of (z0, z1, ()))))]
theorem ok_s_l01Of (K : Nat) : FnOk Tryz.prog 28 (sp_s_l01Of (s_l01Of K)) :=
  fn_okD tysOk [C_s_l01Rows K] 0 (D_s_l01Of K) [(0, X0_s_l01Of)] rv_s_l01Of K Tryz.func28 (by kernel_rfl) ⟨⟨fun _ _ _ _ => by kernel_rfl, fun _ _ _ => rfl⟩, trivial⟩ (fun _ => by kernel_rfl)
noncomputable def C_s_l01Of (K : Nat) : CB Tryz.prog := .f _ _ (ok_s_l01Of K)
noncomputable def as_s_l01Dual : Ty := (.pair tq0 .unit)
noncomputable def sp_s_l01Dual (F : (dq0 × Unit) → Option dq0) : FnSpec := ⟨as_s_l01Dual, [false], tq0, F⟩
noncomputable def s_l01Dual_l3 {R : Type} (K : Nat) : Nat → dq0 → dq0 → (List Int) → Int → Int → (dq0 → dq0 → (List Int) → Option R) → Option R
  | 0, _, _, _, _, _, _ => none
  | k + 1, v1, v2, v3, v4, v5, kx0 =>
    (if (decide (v5 < v4)) = true then
    let x3 := (IntKind.i64.wrap ((IntKind.i64.wrap (v4 - (1 : Int))) - v5))
    (s_l01At K (v1, x3, ())).bind fun y4 =>
    let l5 := [(IntKind.i64.wrap ((1 : Int) - y4))]
    (if (decide (v3.length + l5.length ≤ lim)) = true then
    let l6 := (v3 ++ l5)
    s_l01Dual_l3 K k v1 v2 l6 v4 (IntKind.i64.wrap (v5 + (1 : Int))) kx0
    else
    none)
    else
    kx0 v1 v2 v3)
noncomputable def s_l01Dual (K : Nat) (x : (dq0 × Unit)) : Option dq0 :=
    let l1 := ([] : List Int)
    (s_l01Rows K (x.1.1, ())).bind fun y2 =>
    s_l01Dual_l3 K K x.1 ((0 : Int), (0 : Int), ()) l1 y2 (0 : Int) (fun z7 z8 z9 =>
    (s_l01Of K (z7.1, z9, ())).bind fun y10 =>
    some y10)
noncomputable def X0_s_l01Dual : Lv := [(1, (.bx (.v tq0))), (2, (.bx (.v tq0))), (3, (.r (.int .i64)))]
noncomputable def rv_s_l01Dual : Lv := [(2, (.bx (.v tq0)))]
noncomputable def D_s_l01Dual (K : Nat) : List (PD (den tq0)) := [.L 3 [(1, (.bx (.v tq0))), (2, (.bx (.v tq0))), (3, (.r (.int .i64))), (4, (.v (.int .i64))), (5, (.v (.int .i64)))] [] (fun k x kx kr => s_l01Dual_l3 K k x.1 x.2.1 x.2.2.1 x.2.2.2.1 x.2.2.2.2.1 (fun z0 z1 z2 => kx 0 (mkSt X0_s_l01Dual (z0, z1, z2, ()))))]
theorem ok_s_l01Dual (K : Nat) : FnOk Tryz.prog 14 (sp_s_l01Dual (s_l01Dual K)) :=
  fn_okD tysOk [C_s_l01Rows K, C_s_l01At K, C_s_l01Of K] 0 (D_s_l01Dual K) [(0, X0_s_l01Dual)] rv_s_l01Dual K Tryz.func14 (by kernel_rfl) ⟨⟨fun _ _ _ _ => by kernel_rfl, fun _ _ _ => rfl⟩, trivial⟩ (fun _ => by kernel_rfl)
noncomputable def C_s_l01Dual (K : Nat) : CB Tryz.prog := .f _ _ (ok_s_l01Dual K)
noncomputable def as_s_l08Base : Ty := (.pair .str .unit)
noncomputable def sp_s_l08Base (F : (ByteArray × Unit) → Option ((List dq0) × Bool × Unit)) : FnSpec := ⟨as_s_l08Base, [false], (.tup (.pair (.sl tq0) (.pair .bool .unit))), F⟩
noncomputable def s_l08Base_j69 {R : Type} (K : Nat) (k : Nat) (v0 : ByteArray) (v4 : dq0) (v5 : dq0) (v15 : (List dq0)) (kn : Option R) (kr : ((List dq0) → Bool → Option R)) : Option R :=
    (if (decide (0 ≤ (1 : Int)) && decide ((1 : Int) ≤ (v0.size : Int)) && decide ((v0.size : Int) ≤ (v0.size : Int))) = true then
    let x33 := (cmpS .eql (v0.extract (1 : Int).toNat (v0.size : Int).toNat) (⟨#[]⟩ : ByteArray))
    (if x33 = true then
    let l34 := [v4, v5]
    (if (decide (v15.length + l34.length ≤ lim)) = true then
    let l35 := (v15 ++ l34)
    kr l35 true
    else
    none)
    else
    let x36 := (cmpS .eql (v0.extract (1 : Int).toNat (v0.size : Int).toNat) (⟨#[48]⟩ : ByteArray))
    (if x36 = true then
    (if (decide (v15.length + ([v4]).length ≤ lim)) = true then
    let l37 := (v15 ++ [v4])
    kr l37 true
    else
    none)
    else
    let x38 := (cmpS .eql (v0.extract (1 : Int).toNat (v0.size : Int).toNat) (⟨#[49]⟩ : ByteArray))
    (if x38 = true then
    (if (decide (v15.length + ([v5]).length ≤ lim)) = true then
    let l39 := (v15 ++ [v5])
    kr l39 true
    else
    none)
    else
    let x40 := (cmpS .eql (v0.extract (1 : Int).toNat (v0.size : Int).toNat) (⟨#[50]⟩ : ByteArray))
    (if x40 = true then
    kr v15 true
    else
    kr ([] : List dq0) false))))
    else
    none)
noncomputable def s_l08Base_j61 {R : Type} (K : Nat) (k : Nat) (v0 : ByteArray) (v4 : dq0) (v5 : dq0) (v6 : dq0) (v7 : dq0) (v11 : dq0) (kn : Option R) (kr : ((List dq0) → Bool → Option R)) : Option R :=
    (if (bnds (0 : Int) (v0.size : Int)) = true then
    (if (decide ((byteAt v0 (0 : Int)) = (69 : Int))) = true then
    s_l08Base_j69 K k v0 v4 v5 ([v6]) none (fun z41 z42 =>
    kr z41 z42)
    else
    (if (decide ((byteAt v0 (0 : Int)) = (73 : Int))) = true then
    s_l08Base_j69 K k v0 v4 v5 ([v11]) none (fun z43 z44 =>
    kr z43 z44)
    else
    (if (decide ((byteAt v0 (0 : Int)) = (86 : Int))) = true then
    s_l08Base_j69 K k v0 v4 v5 ([v7]) none (fun z45 z46 =>
    kr z45 z46)
    else
    kr ([] : List dq0) false)))
    else
    none)
noncomputable def s_l08Base (K : Nat) (x : (ByteArray × Unit)) : Option ((List dq0) × Bool × Unit) :=
    let x1 := (((0 : Int), ((0 : Int), (0 : Int), ()).2.1, ()).1, (0 : Int), ())
    let x2 := (((0 : Int), ((0 : Int), (0 : Int), ()).2.1, ()).1, (1 : Int), ())
    let x3 := (((2 : Int), ((0 : Int), (0 : Int), ()).2.1, ()).1, (8 : Int), ())
    let x4 := (((2 : Int), ((0 : Int), (0 : Int), ()).2.1, ()).1, (14 : Int), ())
    let x5 := (((2 : Int), ((0 : Int), (0 : Int), ()).2.1, ()).1, (6 : Int), ())
    let x6 := (((2 : Int), ((0 : Int), (0 : Int), ()).2.1, ()).1, (9 : Int), ())
    let x7 := (((1 : Int), ((0 : Int), (0 : Int), ()).2.1, ()).1, (1 : Int), ())
    let x8 := (((1 : Int), ((0 : Int), (0 : Int), ()).2.1, ()).1, (2 : Int), ())
    let x9 := (((3 : Int), ((0 : Int), (0 : Int), ()).2.1, ()).1, (234 : Int), ())
    let x10 := (((3 : Int), ((0 : Int), (0 : Int), ()).2.1, ()).1, (168 : Int), ())
    let x11 := (((3 : Int), ((0 : Int), (0 : Int), ()).2.1, ()).1, (174 : Int), ())
    (if (cmpS .eql x.1 (⟨#[66, 70]⟩ : ByteArray)) = true then
    let l12 := [x3, x7]
    some (l12, true, ())
    else
    (if (cmpS .eql x.1 (⟨#[82, 48]⟩ : ByteArray)) = true then
    let l13 := [x3, x5]
    some (l13, true, ())
    else
    (if (cmpS .eql x.1 (⟨#[82, 49]⟩ : ByteArray)) = true then
    let l14 := [x4, x6]
    some (l14, true, ())
    else
    (if (cmpS .eql x.1 (⟨#[82, 50]⟩ : ByteArray)) = true then
    let x15 := (((3 : Int), ((0 : Int), (0 : Int), ()).2.1, ()).1, (130 : Int), ())
    let l16 := [x4, x15]
    some (l16, true, ())
    else
    (if (cmpS .eql x.1 (⟨#[77]⟩ : ByteArray)) = true then
    let l17 := [x4, x3, x1, x2]
    some (l17, true, ())
    else
    (if (cmpS .eql x.1 (⟨#[77, 48]⟩ : ByteArray)) = true then
    let l18 := [x4, x3, x1]
    some (l18, true, ())
    else
    (if (cmpS .eql x.1 (⟨#[77, 49]⟩ : ByteArray)) = true then
    let l19 := [x4, x3, x2]
    some (l19, true, ())
    else
    (if (cmpS .eql x.1 (⟨#[77, 50]⟩ : ByteArray)) = true then
    let l20 := [x4, x3]
    some (l20, true, ())
    else
    (if (cmpS .eql x.1 (⟨#[68]⟩ : ByteArray)) = true then
    let x21 := (((3 : Int), ((0 : Int), (0 : Int), ()).2.1, ()).1, (43 : Int), ())
    some ([x21], true, ())
    else
    (if (cmpS .eql x.1 (⟨#[68, 49]⟩ : ByteArray)) = true then
    let x22 := (((3 : Int), ((0 : Int), (0 : Int), ()).2.1, ()).1, (142 : Int), ())
    some ([x22], true, ())
    else
    (if (cmpS .eql x.1 (⟨#[68, 50]⟩ : ByteArray)) = true then
    let x23 := (((3 : Int), ((0 : Int), (0 : Int), ()).2.1, ()).1, (232 : Int), ())
    some ([x23], true, ())
    else
    (if (cmpS .eql x.1 (⟨#[76]⟩ : ByteArray)) = true then
    let l24 := [x5, x2]
    some (l24, true, ())
    else
    (if (cmpS .eql x.1 (⟨#[76, 48]⟩ : ByteArray)) = true then
    some ([x5], true, ())
    else
    (if (cmpS .eql x.1 (⟨#[76, 49]⟩ : ByteArray)) = true then
    some ([x6], true, ())
    else
    (if (cmpS .eql x.1 (⟨#[76, 50]⟩ : ByteArray)) = true then
    let x25 := (((3 : Int), ((0 : Int), (0 : Int), ()).2.1, ()).1, (150 : Int), ())
    some ([x25], true, ())
    else
    (if (cmpS .eql x.1 (⟨#[76, 51]⟩ : ByteArray)) = true then
    let x26 := (((3 : Int), ((0 : Int), (0 : Int), ()).2.1, ()).1, (105 : Int), ())
    some ([x26], true, ())
    else
    (if (cmpS .eql x.1 (⟨#[78]⟩ : ByteArray)) = true then
    let l27 := [x7, x2]
    some (l27, true, ())
    else
    (if (cmpS .eql x.1 (⟨#[78, 50]⟩ : ByteArray)) = true then
    some ([x7], true, ())
    else
    (if (cmpS .eql x.1 (⟨#[83, 48]⟩ : ByteArray)) = true then
    let x28 := (((2 : Int), ((0 : Int), (0 : Int), ()).2.1, ()).1, (13 : Int), ())
    some ([x28], true, ())
    else
    (if (cmpS .eql x.1 (⟨#[83, 48, 50]⟩ : ByteArray)) = true then
    some ([x11], true, ())
    else
    (if (cmpS .eql x.1 (⟨#[83, 48, 48]⟩ : ByteArray)) = true then
    some ([x9], true, ())
    else
    (if (cmpS .eql x.1 (⟨#[83, 48, 49]⟩ : ByteArray)) = true then
    let l29 := [x9, x2]
    some (l29, true, ())
    else
    (if (cmpS .eql x.1 (⟨#[83, 49]⟩ : ByteArray)) = true then
    let x30 := (((2 : Int), ((0 : Int), (0 : Int), ()).2.1, ()).1, (2 : Int), ())
    some ([x30], true, ())
    else
    (if (cmpS .eql x.1 (⟨#[83, 49, 50]⟩ : ByteArray)) = true then
    (s_l01Dual K (x11, ())).bind fun y31 =>
    some ([y31], true, ())
    else
    (if (cmpS .eql x.1 (⟨#[83, 49, 48]⟩ : ByteArray)) = true then
    some ([x10], true, ())
    else
    (if (cmpS .eql x.1 (⟨#[83, 49, 49]⟩ : ByteArray)) = true then
    let l32 := [x10, x1]
    some (l32, true, ())
    else
    (if (decide ((x.1.size : Int) = (0 : Int))) = true then
    some (([] : List dq0), false, ())
    else
    (if (decide ((x.1.size : Int) > (2 : Int))) = true then
    some (([] : List dq0), false, ())
    else
    s_l08Base_j61 K K x.1 x1 x2 x3 x4 x8 none (fun z47 z48 =>
    some (z47, z48, ()))))))))))))))))))))))))))))))
noncomputable def rv_s_l08Base : Lv := [(2, (.r tq0)), (3, (.v .bool))]
noncomputable def D_s_l08Base (K : Nat) : List (PD (den (.tup (.pair (.sl tq0) (.pair .bool .unit))))) := [.J 61 [(0, (.v .str)), (4, (.bx (.v tq0))), (5, (.bx (.v tq0))), (6, (.bx (.v tq0))), (7, (.bx (.v tq0))), (11, (.bx (.v tq0)))] [] 0 (fun k x kn kx kr => s_l08Base_j61 K k x.1 x.2.1 x.2.2.1 x.2.2.2.1 x.2.2.2.2.1 x.2.2.2.2.2.1 (kn ()) (fun z0 z1 => kr (mkSt rv_s_l08Base (z0, z1, ())))),
  .J 69 [(0, (.v .str)), (4, (.bx (.v tq0))), (5, (.bx (.v tq0))), (15, (.r tq0))] [] 0 (fun k x kn kx kr => s_l08Base_j69 K k x.1 x.2.1 x.2.2.1 x.2.2.2.1 (kn ()) (fun z0 z1 => kr (mkSt rv_s_l08Base (z0, z1, ()))))]
theorem ok_s_l08Base (K : Nat) : FnOk Tryz.prog 25 (sp_s_l08Base (s_l08Base K)) :=
  fn_okD tysOk [C_s_l01Dual K] 0 (D_s_l08Base K) [] rv_s_l08Base K Tryz.func25 (by kernel_rfl) ⟨fun _ _ _ _ _ => by kernel_rfl, ⟨fun _ _ _ _ _ => by kernel_rfl, trivial⟩⟩ (fun _ => by kernel_rfl)
noncomputable def C_s_l08Base (K : Nat) : CB Tryz.prog := .f _ _ (ok_s_l08Base K)
noncomputable def as_s_l08Generators : Ty := (.pair .str .unit)
noncomputable def sp_s_l08Generators (F : (ByteArray × Unit) → Option ((List dq0) × Bool × Unit)) : FnSpec := ⟨as_s_l08Generators, [false], (.tup (.pair (.sl tq0) (.pair .bool .unit))), F⟩
noncomputable def s_l08Generators_j3 {R : Type} (K : Nat) (k : Nat) (v0 : ByteArray) (kn : Option R) (kr : ((List dq0) → Bool → Option R)) : Option R :=
    gN K ((s_l08Base K (v0, ())).bind fun y2 =>
    kr y2.1 y2.2.1)
noncomputable def s_l08Generators_l19 {R : Type} (K : Nat) : Nat → (List dq0) → Int → Int → Int → Int → Int → Int → ((List dq0) → Int → Int → Int → Int → Int → Option R) → Option R
  | 0, _, _, _, _, _, _, _, _ => none
  | k + 1, v5, v7, v8, v9, v10, v11, v12, kx2 =>
    (if (decide (v12 < v7)) = true then
    (if (decide ((0 : Int) ≤ (IntKind.u64.wrap v12))) = true then
    let x13 := (bitI .and .i64 (shrI .i64 v10 (IntKind.u64.wrap v12)) (1 : Int))
    s_l08Generators_l19 K k v5 v7 v8 v9 v10 (IntKind.i64.wrap (v11 + x13)) (IntKind.i64.wrap (v12 + (1 : Int))) kx2
    else
    none)
    else
    kx2 v5 v7 v8 v9 v10 v11)
noncomputable def s_l08Generators_l15 {R : Type} (K : Nat) : Nat → (List dq0) → Int → Int → Int → Int → ((List dq0) → Int → Int → Option R) → Option R
  | 0, _, _, _, _, _, _ => none
  | k + 1, v5, v7, v8, v9, v10, kx0 =>
    (s_l01Rows K (v7, ())).bind fun y12 =>
    (if (decide (v10 < y12)) = true then
    s_l08Generators_l19 K k v5 v7 v8 v9 v10 (0 : Int) (0 : Int) (fun z14 z15 z16 z17 z18 z19 =>
    (if (decide (z19 ≥ z16)) = true then
    (if (decide ((0 : Int) ≤ (IntKind.u64.wrap z18))) = true then
    let x20 := (bitI .or .i64 z17 (shlI .i64 (1 : Int) (IntKind.u64.wrap z18)))
    s_l08Generators_l15 K k z14 z15 z16 x20 (IntKind.i64.wrap (z18 + (1 : Int))) kx0
    else
    none)
    else
    s_l08Generators_l15 K k z14 z15 z16 z17 (IntKind.i64.wrap (z18 + (1 : Int))) kx0))
    else
    kx0 v5 v7 v9)
noncomputable def s_l08Generators_j13 {R : Type} (K : Nat) (k : Nat) (v5 : (List dq0)) (v7 : Int) (v8 : Int) (kn : Option R) (kr : ((List dq0) → Bool → Option R)) : Option R :=
    s_l08Generators_l15 K k v5 v7 v8 (0 : Int) (0 : Int) (fun z21 z22 z23 =>
    let l24 := [((z22, ((0 : Int), (0 : Int), ()).2.1, ()).1, z23, ())]
    (if (decide (z21.length + l24.length ≤ lim)) = true then
    let l25 := (z21 ++ l24)
    kr l25 true
    else
    none))
noncomputable def s_l08Generators_j10 {R : Type} (K : Nat) (k : Nat) (v0 : ByteArray) (v5 : (List dq0)) (v7 : Int) (kn : Option R) (kr : ((List dq0) → Bool → Option R)) : Option R :=
    (if (bnds (1 : Int) (v0.size : Int)) = true then
    (if (decide ((byteAt v0 (1 : Int)) = (49 : Int))) = true then
    s_l08Generators_j13 K k v5 v7 (IntKind.i64.wrap (v7 - (1 : Int))) none (fun z26 z27 =>
    kr z26 z27)
    else
    s_l08Generators_j13 K k v5 v7 (2 : Int) none (fun z28 z29 =>
    kr z28 z29))
    else
    none)
noncomputable def s_l08Generators_j8 {R : Type} (K : Nat) (k : Nat) (v0 : ByteArray) (v4 : Int) (v5 : (List dq0)) (v6 : Bool) (v7 : Int) (kn : Option R) (kr : ((List dq0) → Bool → Option R)) : Option R :=
    (if (!v6) = true then
    kr ([] : List dq0) false
    else
    (if (bnds (0 : Int) (v0.size : Int)) = true then
    (if (!decide ((byteAt v0 (0 : Int)) = (83 : Int))) = true then
    kr ([] : List dq0) false
    else
    (if (bnds (IntKind.i64.wrap (v4 + (1 : Int))) (v0.size : Int)) = true then
    let x10 := (!decide ((byteAt v0 (IntKind.i64.wrap (v4 + (1 : Int)))) = (50 : Int)))
    (if x10 = true then
    (if (bnds (IntKind.i64.wrap (v4 + (1 : Int))) (v0.size : Int)) = true then
    let x11 := (!decide ((byteAt v0 (IntKind.i64.wrap (v4 + (1 : Int)))) = (51 : Int)))
    (if x11 = true then
    kr ([] : List dq0) false
    else
    s_l08Generators_j10 K k v0 v5 v7 none (fun z30 z31 =>
    kr z30 z31))
    else
    none)
    else
    s_l08Generators_j10 K k v0 v5 v7 none (fun z32 z33 =>
    kr z32 z33))
    else
    none))
    else
    none))
noncomputable def s_l08Generators_j4 {R : Type} (K : Nat) (k : Nat) (v0 : ByteArray) (v4 : Int) (kn : Option R) (kr : ((List dq0) → Bool → Option R)) : Option R :=
    (if (decide (0 ≤ (0 : Int)) && decide ((0 : Int) ≤ v4) && decide (v4 ≤ (v0.size : Int))) = true then
    (s_l08Base K ((v0.extract (0 : Int).toNat v4.toNat), ())).bind fun y8 =>
    (if (bnds (IntKind.i64.wrap (v4 + (1 : Int))) (v0.size : Int)) = true then
    let x9 := (decide ((byteAt v0 (IntKind.i64.wrap (v4 + (1 : Int)))) = (51 : Int)))
    (if x9 = true then
    s_l08Generators_j8 K k v0 v4 y8.1 y8.2.1 (4 : Int) none (fun z34 z35 =>
    kr z34 z35)
    else
    s_l08Generators_j8 K k v0 v4 y8.1 y8.2.1 (3 : Int) none (fun z36 z37 =>
    kr z36 z37))
    else
    none)
    else
    none)
noncomputable def s_l08Generators (K : Nat) (x : (ByteArray × Unit)) : Option ((List dq0) × Bool × Unit) :=
    let x1 := (decide ((IntKind.i64.wrap ((x.1.size : Int) - (2 : Int))) < (2 : Int)))
    (if x1 = true then
    s_l08Generators_j3 K K x.1 none (fun z3 z4 =>
    some (z3, z4, ()))
    else
    (if (bnds (IntKind.i64.wrap ((x.1.size : Int) - (2 : Int))) (x.1.size : Int)) = true then
    let x5 := (byteAt x.1 (IntKind.i64.wrap ((x.1.size : Int) - (2 : Int))))
    (if (!decide (x5 = (94 : Int))) = true then
    s_l08Generators_j3 K K x.1 none (fun z6 z7 =>
    some (z6, z7, ()))
    else
    s_l08Generators_j4 K K x.1 (IntKind.i64.wrap ((x.1.size : Int) - (2 : Int))) none (fun z38 z39 =>
    some (z38, z39, ())))
    else
    none))
noncomputable def X0_s_l08Generators : Lv := [(5, (.r tq0)), (7, (.v (.int .i64))), (9, (.v (.int .i64)))]
noncomputable def X2_s_l08Generators : Lv := [(5, (.r tq0)), (7, (.v (.int .i64))), (8, (.v (.int .i64))), (9, (.v (.int .i64))), (10, (.v (.int .i64))), (11, (.v (.int .i64)))]
noncomputable def rv_s_l08Generators : Lv := [(2, (.r tq0)), (3, (.v .bool))]
noncomputable def D_s_l08Generators (K : Nat) : List (PD (den (.tup (.pair (.sl tq0) (.pair .bool .unit))))) := [.J 3 [(0, (.v .str))] [] K (fun k x kn kx kr => s_l08Generators_j3 K k x.1 (kn ()) (fun z0 z1 => kr (mkSt rv_s_l08Generators (z0, z1, ())))),
  .J 4 [(0, (.v .str)), (4, (.v (.int .i64)))] [] 0 (fun k x kn kx kr => s_l08Generators_j4 K k x.1 x.2.1 (kn ()) (fun z0 z1 => kr (mkSt rv_s_l08Generators (z0, z1, ())))),
  .J 8 [(0, (.v .str)), (4, (.v (.int .i64))), (5, (.r tq0)), (6, (.v .bool)), (7, (.v (.int .i64)))] [] 0 (fun k x kn kx kr => s_l08Generators_j8 K k x.1 x.2.1 x.2.2.1 x.2.2.2.1 x.2.2.2.2.1 (kn ()) (fun z0 z1 => kr (mkSt rv_s_l08Generators (z0, z1, ())))),
  .J 10 [(0, (.v .str)), (5, (.r tq0)), (7, (.v (.int .i64)))] [] 0 (fun k x kn kx kr => s_l08Generators_j10 K k x.1 x.2.1 x.2.2.1 (kn ()) (fun z0 z1 => kr (mkSt rv_s_l08Generators (z0, z1, ())))),
  .J 13 [(5, (.r tq0)), (7, (.v (.int .i64))), (8, (.v (.int .i64)))] [] 0 (fun k x kn kx kr => s_l08Generators_j13 K k x.1 x.2.1 x.2.2.1 (kn ()) (fun z0 z1 => kr (mkSt rv_s_l08Generators (z0, z1, ())))),
  .L 15 [(5, (.r tq0)), (7, (.v (.int .i64))), (8, (.v (.int .i64))), (9, (.v (.int .i64))), (10, (.v (.int .i64)))] [] (fun k x kx kr => s_l08Generators_l15 K k x.1 x.2.1 x.2.2.1 x.2.2.2.1 x.2.2.2.2.1 (fun z0 z1 z2 => kx 0 (mkSt X0_s_l08Generators (z0, z1, z2, ())))),
  .L 19 [(5, (.r tq0)), (7, (.v (.int .i64))), (8, (.v (.int .i64))), (9, (.v (.int .i64))), (10, (.v (.int .i64))), (11, (.v (.int .i64))), (12, (.v (.int .i64)))] [] (fun k x kx kr => s_l08Generators_l19 K k x.1 x.2.1 x.2.2.1 x.2.2.2.1 x.2.2.2.2.1 x.2.2.2.2.2.1 x.2.2.2.2.2.2.1 (fun z0 z1 z2 z3 z4 z5 => kx 2 (mkSt X2_s_l08Generators (z0, z1, z2, z3, z4, z5, ()))))]
theorem ok_s_l08Generators (K : Nat) : FnOk Tryz.prog 13 (sp_s_l08Generators (s_l08Generators K)) :=
  fn_okD tysOk [C_s_l08Base K, C_s_l01Rows K] 0 (D_s_l08Generators K) [(0, X0_s_l08Generators), (2, X2_s_l08Generators)] rv_s_l08Generators K Tryz.func13 (by kernel_rfl) ⟨fun _ _ _ _ _ => by kernel_rfl, ⟨fun _ _ _ _ _ => by kernel_rfl, ⟨fun _ _ _ _ _ => by kernel_rfl, ⟨fun _ _ _ _ _ => by kernel_rfl, ⟨fun _ _ _ _ _ => by kernel_rfl, ⟨⟨fun _ _ _ _ => by kernel_rfl, fun _ _ _ => rfl⟩, ⟨⟨fun _ _ _ _ => by kernel_rfl, fun _ _ _ => rfl⟩, trivial⟩⟩⟩⟩⟩⟩⟩ (fun _ => by kernel_rfl)
noncomputable def C_s_l08Generators (K : Nat) : CB Tryz.prog := .f _ _ (ok_s_l08Generators K)
noncomputable def as_s_l02In : Ty := (.pair tq0 (.pair (.int .i64) .unit))
noncomputable def sp_s_l02In (F : (dq0 × Int × Unit) → Option Bool) : FnSpec := ⟨as_s_l02In, [false, false], .bool, F⟩
noncomputable def s_l02In_l9 {R : Type} (K : Nat) : Nat → dq0 → Int → Int → (Option R) → (Bool → Option R) → Option R
  | 0, _, _, _, _, _ => none
  | k + 1, v2, v5, v6, kx1, kr =>
    (if (decide (v6 < v5)) = true then
    (s_l01At K (v2, v6, ())).bind fun y4 =>
    let x5 := (IntKind.i64.wrap ((IntKind.i64.wrap (v5 - (1 : Int))) - v6))
    (s_l01At K (v2, x5, ())).bind fun y6 =>
    (if (decide (y4 = y6)) = true then
    kr false
    else
    s_l02In_l9 K k v2 v5 (IntKind.i64.wrap (v6 + (1 : Int))) kx1 kr)
    else
    kx1)
noncomputable def s_l02In_l19 {R : Type} (K : Nat) : Nat → dq0 → Int → Int → Int → (dq0 → Int → Int → Option R) → (Bool → Option R) → Option R
  | 0, _, _, _, _, _, _ => none
  | k + 1, v2, v5, v7, v8, kx5, kr =>
    (if (decide (v8 < v2.1)) = true then
    (if (decide ((0 : Int) ≤ (IntKind.u64.wrap v8))) = true then
    let x8 := (bitI .and .i64 v7 (shlI .i64 (1 : Int) (IntKind.u64.wrap v8)))
    (if (decide (x8 = (0 : Int))) = true then
    (s_l01At K (v2, v7, ())).bind fun y9 =>
    (if (decide (y9 = (1 : Int))) = true then
    let x10 := (bitI .or .i64 v7 (shlI .i64 (1 : Int) (IntKind.u64.wrap v8)))
    (s_l01At K (v2, x10, ())).bind fun y11 =>
    (if (decide (y11 = (0 : Int))) = true then
    kr false
    else
    s_l02In_l19 K k v2 v5 v7 (IntKind.i64.wrap (v8 + (1 : Int))) kx5 kr)
    else
    s_l02In_l19 K k v2 v5 v7 (IntKind.i64.wrap (v8 + (1 : Int))) kx5 kr)
    else
    s_l02In_l19 K k v2 v5 v7 (IntKind.i64.wrap (v8 + (1 : Int))) kx5 kr)
    else
    none)
    else
    kx5 v2 v5 v7)
noncomputable def s_l02In_l16 {R : Type} (K : Nat) : Nat → dq0 → Int → Int → (Option R) → (Bool → Option R) → Option R
  | 0, _, _, _, _, _ => none
  | k + 1, v2, v5, v7, kx3, kr =>
    (if (decide (v7 < v5)) = true then
    s_l02In_l19 K k v2 v5 v7 (0 : Int) (fun z12 z13 z14 =>
    s_l02In_l16 K k z12 z13 (IntKind.i64.wrap (z14 + (1 : Int))) kx3 kr) (fun z15 =>
    kr z15)
    else
    kx3)
noncomputable def s_l02In_l31 {R : Type} (K : Nat) : Nat → dq0 → Int → Int → Int → Bool → Int → (dq0 → Int → Int → Option R) → (Bool → Option R) → Option R
  | 0, _, _, _, _, _, _, _, _ => none
  | k + 1, v2, v5, v10, v11, v12, v13, kx9, kr =>
    (if (decide (v13 < v5)) = true then
    (s_l01At K (v2, v13, ())).bind fun y19 =>
    (s_l01At K (v2, (bitI .xor .i64 v13 v11), ())).bind fun y20 =>
    (if (!((!decide (y19 = y20)) == v12)) = true then
    kr false
    else
    s_l02In_l31 K k v2 v5 v10 v11 v12 (IntKind.i64.wrap (v13 + (1 : Int))) kx9 kr)
    else
    kx9 v2 v5 v10)
noncomputable def s_l02In_l26 {R : Type} (K : Nat) : Nat → dq0 → Int → Int → (Option R) → (Bool → Option R) → Option R
  | 0, _, _, _, _, _ => none
  | k + 1, v2, v5, v10, kx7, kr =>
    (if (decide (v10 < v2.1)) = true then
    (if (decide ((0 : Int) ≤ (IntKind.u64.wrap v10))) = true then
    (s_l01At K (v2, (0 : Int), ())).bind fun y17 =>
    (s_l01At K (v2, (shlI .i64 (1 : Int) (IntKind.u64.wrap v10)), ())).bind fun y18 =>
    s_l02In_l31 K k v2 v5 v10 (shlI .i64 (1 : Int) (IntKind.u64.wrap v10)) (!decide (y17 = y18)) (0 : Int) (fun z21 z22 z23 =>
    s_l02In_l26 K k z21 z22 (IntKind.i64.wrap (z23 + (1 : Int))) kx7 kr) (fun z24 =>
    kr z24)
    else
    none)
    else
    kx7)
noncomputable def s_l02In (K : Nat) (x : (dq0 × Int × Unit)) : Option Bool :=
    (s_l01Rows K (x.1.1, ())).bind fun y1 =>
    (if (decide (x.2.1 = (0 : Int))) = true then
    (s_l01At K (x.1, (0 : Int), ())).bind fun y2 =>
    some (decide (y2 = (0 : Int)))
    else
    (if (decide (x.2.1 = (1 : Int))) = true then
    (s_l01At K (x.1, (IntKind.i64.wrap (y1 - (1 : Int))), ())).bind fun y3 =>
    some (decide (y3 = (1 : Int)))
    else
    (if (decide (x.2.1 = (2 : Int))) = true then
    s_l02In_l9 K K x.1 y1 (0 : Int) (some true) (fun z7 =>
    some z7)
    else
    (if (decide (x.2.1 = (3 : Int))) = true then
    s_l02In_l16 K K x.1 y1 (0 : Int) (some true) (fun z16 =>
    some z16)
    else
    s_l02In_l26 K K x.1 y1 (0 : Int) (some true) (fun z25 =>
    some z25)))))
noncomputable def X1_s_l02In : Lv := []
noncomputable def X3_s_l02In : Lv := []
noncomputable def X5_s_l02In : Lv := [(2, (.bx (.v tq0))), (5, (.v (.int .i64))), (7, (.v (.int .i64)))]
noncomputable def X7_s_l02In : Lv := []
noncomputable def X9_s_l02In : Lv := [(2, (.bx (.v tq0))), (5, (.v (.int .i64))), (10, (.v (.int .i64)))]
noncomputable def rv_s_l02In : Lv := [(4, (.v .bool))]
noncomputable def D_s_l02In (K : Nat) : List (PD (den .bool)) := [.L 9 [(2, (.bx (.v tq0))), (5, (.v (.int .i64))), (6, (.v (.int .i64)))] [] (fun k x kx kr => s_l02In_l9 K k x.1 x.2.1 x.2.2.1 (kx 1 (mkSt X1_s_l02In ())) (fun z0 => kr (mkSt rv_s_l02In (z0, ())))),
  .L 16 [(2, (.bx (.v tq0))), (5, (.v (.int .i64))), (7, (.v (.int .i64)))] [] (fun k x kx kr => s_l02In_l16 K k x.1 x.2.1 x.2.2.1 (kx 3 (mkSt X3_s_l02In ())) (fun z0 => kr (mkSt rv_s_l02In (z0, ())))),
  .L 19 [(2, (.bx (.v tq0))), (5, (.v (.int .i64))), (7, (.v (.int .i64))), (8, (.v (.int .i64)))] [] (fun k x kx kr => s_l02In_l19 K k x.1 x.2.1 x.2.2.1 x.2.2.2.1 (fun z0 z1 z2 => kx 5 (mkSt X5_s_l02In (z0, z1, z2, ()))) (fun z0 => kr (mkSt rv_s_l02In (z0, ())))),
  .L 26 [(2, (.bx (.v tq0))), (5, (.v (.int .i64))), (10, (.v (.int .i64)))] [] (fun k x kx kr => s_l02In_l26 K k x.1 x.2.1 x.2.2.1 (kx 7 (mkSt X7_s_l02In ())) (fun z0 => kr (mkSt rv_s_l02In (z0, ())))),
  .L 31 [(2, (.bx (.v tq0))), (5, (.v (.int .i64))), (10, (.v (.int .i64))), (11, (.v (.int .i64))), (12, (.v .bool)), (13, (.v (.int .i64)))] [] (fun k x kx kr => s_l02In_l31 K k x.1 x.2.1 x.2.2.1 x.2.2.2.1 x.2.2.2.2.1 x.2.2.2.2.2.1 (fun z0 z1 z2 => kx 9 (mkSt X9_s_l02In (z0, z1, z2, ()))) (fun z0 => kr (mkSt rv_s_l02In (z0, ()))))]
theorem ok_s_l02In (K : Nat) : FnOk Tryz.prog 66 (sp_s_l02In (s_l02In K)) :=
  fn_okD tysOk [C_s_l01Rows K, C_s_l01At K] 0 (D_s_l02In K) [(1, X1_s_l02In), (3, X3_s_l02In), (5, X5_s_l02In), (7, X7_s_l02In), (9, X9_s_l02In)] rv_s_l02In K Tryz.func66 (by kernel_rfl) ⟨⟨fun _ _ _ _ => by kernel_rfl, fun _ _ _ => rfl⟩, ⟨⟨fun _ _ _ _ => by kernel_rfl, fun _ _ _ => rfl⟩, ⟨⟨fun _ _ _ _ => by kernel_rfl, fun _ _ _ => rfl⟩, ⟨⟨fun _ _ _ _ => by kernel_rfl, fun _ _ _ => rfl⟩, ⟨⟨fun _ _ _ _ => by kernel_rfl, fun _ _ _ => rfl⟩, trivial⟩⟩⟩⟩⟩ (fun _ => by kernel_rfl)
noncomputable def C_s_l02In (K : Nat) : CB Tryz.prog := .f _ _ (ok_s_l02In K)
noncomputable def as_s_l02Classes : Ty := (.pair (.sl tq0) (.pair (.int .i64) .unit))
noncomputable def sp_s_l02Classes (F : ((List dq0) × Int × Unit) → Option Int) : FnSpec := ⟨as_s_l02Classes, [false, false], (.int .i64), F⟩
noncomputable def s_l02Classes_l7 {R : Type} (K : Nat) : Nat → (List dq0) → Int → Int → Int → Bool → Int → ((List dq0) → Int → Int → Int → Bool → Option R) → Option R
  | 0, _, _, _, _, _, _, _ => none
  | k + 1, v0, v1, v5, v6, v7, v8, kx2 =>
    (if (decide (v8 < (v0.length : Int))) = true then
    (if v7 = true then
    (if (decide ((0 : Int) ≤ (IntKind.u64.wrap v8))) = true then
    let x1 := (bitI .and .i64 (shrI .i64 v1 (IntKind.u64.wrap v8)) (1 : Int))
    (if (decide (x1 = (0 : Int))) = true then
    s_l02Classes_l7 K k v0 v1 v5 v6 true (IntKind.i64.wrap (v8 + (1 : Int))) kx2
    else
    (if (bnds v8 (v0.length : Int)) = true then
    (s_l02In K ((v0.getD v8.toNat ((0 : Int), (0 : Int), ())), v6, ())).bind fun y2 =>
    s_l02Classes_l7 K k v0 v1 v5 v6 y2 (IntKind.i64.wrap (v8 + (1 : Int))) kx2
    else
    none))
    else
    none)
    else
    s_l02Classes_l7 K k v0 v1 v5 v6 false (IntKind.i64.wrap (v8 + (1 : Int))) kx2)
    else
    kx2 v0 v1 v5 v6 v7)
noncomputable def s_l02Classes_l3 {R : Type} (K : Nat) : Nat → (List dq0) → Int → Int → Int → (Int → Option R) → Option R
  | 0, _, _, _, _, _ => none
  | k + 1, v0, v1, v5, v6, kx0 =>
    (if (decide (v6 < (5 : Int))) = true then
    s_l02Classes_l7 K k v0 v1 v5 v6 true (0 : Int) (fun z3 z4 z5 z6 z7 =>
    (if z7 = true then
    (if (decide ((0 : Int) ≤ (IntKind.u64.wrap z6))) = true then
    let x8 := (bitI .or .i64 z5 (shlI .i64 (1 : Int) (IntKind.u64.wrap z6)))
    s_l02Classes_l3 K k z3 z4 x8 (IntKind.i64.wrap (z6 + (1 : Int))) kx0
    else
    none)
    else
    s_l02Classes_l3 K k z3 z4 z5 (IntKind.i64.wrap (z6 + (1 : Int))) kx0))
    else
    kx0 v5)
noncomputable def s_l02Classes (K : Nat) (x : ((List dq0) × Int × Unit)) : Option Int :=
    s_l02Classes_l3 K K x.1 x.2.1 (0 : Int) (0 : Int) (fun z9 =>
    some z9)
noncomputable def X0_s_l02Classes : Lv := [(5, (.v (.int .i64)))]
noncomputable def X2_s_l02Classes : Lv := [(0, (.v (.sl tq0))), (1, (.v (.int .i64))), (5, (.v (.int .i64))), (6, (.v (.int .i64))), (7, (.v .bool))]
noncomputable def rv_s_l02Classes : Lv := [(4, (.v (.int .i64)))]
noncomputable def D_s_l02Classes (K : Nat) : List (PD (den (.int .i64))) := [.L 3 [(0, (.v (.sl tq0))), (1, (.v (.int .i64))), (5, (.v (.int .i64))), (6, (.v (.int .i64)))] [] (fun k x kx kr => s_l02Classes_l3 K k x.1 x.2.1 x.2.2.1 x.2.2.2.1 (fun z0 => kx 0 (mkSt X0_s_l02Classes (z0, ())))),
  .L 7 [(0, (.v (.sl tq0))), (1, (.v (.int .i64))), (5, (.v (.int .i64))), (6, (.v (.int .i64))), (7, (.v .bool)), (8, (.v (.int .i64)))] [] (fun k x kx kr => s_l02Classes_l7 K k x.1 x.2.1 x.2.2.1 x.2.2.2.1 x.2.2.2.2.1 x.2.2.2.2.2.1 (fun z0 z1 z2 z3 z4 => kx 2 (mkSt X2_s_l02Classes (z0, z1, z2, z3, z4, ()))))]
theorem ok_s_l02Classes (K : Nat) : FnOk Tryz.prog 29 (sp_s_l02Classes (s_l02Classes K)) :=
  fn_okD tysOk [C_s_l02In K] 0 (D_s_l02Classes K) [(0, X0_s_l02Classes), (2, X2_s_l02Classes)] rv_s_l02Classes K Tryz.func29 (by kernel_rfl) ⟨⟨fun _ _ _ _ => by kernel_rfl, fun _ _ _ => rfl⟩, ⟨⟨fun _ _ _ _ => by kernel_rfl, fun _ _ _ => rfl⟩, trivial⟩⟩ (fun _ => by kernel_rfl)
noncomputable def C_s_l02Classes (K : Nat) : CB Tryz.prog := .f _ _ (ok_s_l02Classes K)
noncomputable def as_s_l02Whole : Ty := (.pair (.sl tq0) .unit)
noncomputable def sp_s_l02Whole (F : ((List dq0) × Unit) → Option Int) : FnSpec := ⟨as_s_l02Whole, [false], (.int .i64), F⟩
noncomputable def s_l02Whole (K : Nat) (x : ((List dq0) × Unit)) : Option Int :=
    (if (decide ((0 : Int) ≤ (IntKind.u64.wrap (x.1.length : Int)))) = true then
    let x1 := (IntKind.i64.wrap ((shlI .i64 (1 : Int) (IntKind.u64.wrap (x.1.length : Int))) - (1 : Int)))
    some x1
    else
    none)
noncomputable def rv_s_l02Whole : Lv := [(2, (.v (.int .i64)))]
theorem ok_s_l02Whole (K : Nat) : FnOk Tryz.prog 30 (sp_s_l02Whole (s_l02Whole K)) :=
  fn_okD tysOk [] 0 [] [] rv_s_l02Whole K Tryz.func30 (by kernel_rfl) trivial (fun _ => by kernel_rfl)
noncomputable def C_s_l02Whole (K : Nat) : CB Tryz.prog := .f _ _ (ok_s_l02Whole K)
noncomputable def as_s_l01Fix : Ty := (.pair tq0 (.pair (.int .i64) (.pair (.int .i64) .unit)))
noncomputable def sp_s_l01Fix (F : (dq0 × Int × Int × Unit) → Option dq0) : FnSpec := ⟨as_s_l01Fix, [false, false, false], tq0, F⟩
noncomputable def s_l01Fix_l3 {R : Type} (K : Nat) : Nat → Int → Int → dq0 → dq0 → (List Int) → Int → (dq0 → dq0 → (List Int) → Option R) → Option R
  | 0, _, _, _, _, _, _, _ => none
  | k + 1, v1, v2, v3, v6, v7, v8, kx0 =>
    (s_l01Rows K (v3.1, ())).bind fun y2 =>
    (if (decide (v8 < y2)) = true then
    (if (decide ((0 : Int) ≤ (IntKind.u64.wrap v1))) = true then
    let x3 := (bitI .and .i64 (shrI .i64 v8 (IntKind.u64.wrap v1)) (1 : Int))
    (if (decide (x3 = v2)) = true then
    (s_l01At K (v3, v8, ())).bind fun y4 =>
    (if (decide (v7.length + ([y4]).length ≤ lim)) = true then
    let l5 := (v7 ++ [y4])
    s_l01Fix_l3 K k v1 v2 v3 v6 l5 (IntKind.i64.wrap (v8 + (1 : Int))) kx0
    else
    none)
    else
    s_l01Fix_l3 K k v1 v2 v3 v6 v7 (IntKind.i64.wrap (v8 + (1 : Int))) kx0)
    else
    none)
    else
    kx0 v3 v6 v7)
noncomputable def s_l01Fix (K : Nat) (x : (dq0 × Int × Int × Unit)) : Option dq0 :=
    let l1 := ([] : List Int)
    s_l01Fix_l3 K K x.2.1 x.2.2.1 x.1 ((0 : Int), (0 : Int), ()) l1 (0 : Int) (fun z6 z7 z8 =>
    (s_l01Of K ((IntKind.i64.wrap (z6.1 - (1 : Int))), z8, ())).bind fun y9 =>
    some y9)
noncomputable def X0_s_l01Fix : Lv := [(3, (.bx (.v tq0))), (6, (.bx (.v tq0))), (7, (.r (.int .i64)))]
noncomputable def rv_s_l01Fix : Lv := [(6, (.bx (.v tq0)))]
noncomputable def D_s_l01Fix (K : Nat) : List (PD (den tq0)) := [.L 3 [(1, (.v (.int .i64))), (2, (.v (.int .i64))), (3, (.bx (.v tq0))), (6, (.bx (.v tq0))), (7, (.r (.int .i64))), (8, (.v (.int .i64)))] [] (fun k x kx kr => s_l01Fix_l3 K k x.1 x.2.1 x.2.2.1 x.2.2.2.1 x.2.2.2.2.1 x.2.2.2.2.2.1 (fun z0 z1 z2 => kx 0 (mkSt X0_s_l01Fix (z0, z1, z2, ()))))]
theorem ok_s_l01Fix (K : Nat) : FnOk Tryz.prog 67 (sp_s_l01Fix (s_l01Fix K)) :=
  fn_okD tysOk [C_s_l01Rows K, C_s_l01At K, C_s_l01Of K] 0 (D_s_l01Fix K) [(0, X0_s_l01Fix)] rv_s_l01Fix K Tryz.func67 (by kernel_rfl) ⟨⟨fun _ _ _ _ => by kernel_rfl, fun _ _ _ => rfl⟩, trivial⟩ (fun _ => by kernel_rfl)
noncomputable def C_s_l01Fix (K : Nat) : CB Tryz.prog := .f _ _ (ok_s_l01Fix K)
noncomputable def as_s_l01Essential : Ty := (.pair tq0 .unit)
noncomputable def sp_s_l01Essential (F : (dq0 × Unit) → Option (List Int)) : FnSpec := ⟨as_s_l01Essential, [false], (.sl (.int .i64)), F⟩
noncomputable def s_l01Essential_l3 {R : Type} (K : Nat) : Nat → dq0 → (List Int) → Int → ((List Int) → Option R) → Option R
  | 0, _, _, _, _ => none
  | k + 1, v1, v3, v4, kx0 =>
    (if (decide (v4 < v1.1)) = true then
    (s_l01Fix K (v1, v4, (0 : Int), ())).bind fun y2 =>
    (s_l01Fix K (v1, v4, (1 : Int), ())).bind fun y3 =>
    (if (!(eqD (.pair (.int .i64) (.pair (.int .i64) .unit)) y2 y3)) = true then
    (if (decide (v3.length + ([v4]).length ≤ lim)) = true then
    let l4 := (v3 ++ [v4])
    s_l01Essential_l3 K k v1 l4 (IntKind.i64.wrap (v4 + (1 : Int))) kx0
    else
    none)
    else
    s_l01Essential_l3 K k v1 v3 (IntKind.i64.wrap (v4 + (1 : Int))) kx0)
    else
    kx0 v3)
noncomputable def s_l01Essential (K : Nat) (x : (dq0 × Unit)) : Option (List Int) :=
    let l1 := ([] : List Int)
    s_l01Essential_l3 K K x.1 l1 (0 : Int) (fun z5 =>
    some z5)
noncomputable def X0_s_l01Essential : Lv := [(3, (.r (.int .i64)))]
noncomputable def rv_s_l01Essential : Lv := [(2, (.r (.int .i64)))]
noncomputable def D_s_l01Essential (K : Nat) : List (PD (den (.sl (.int .i64)))) := [.L 3 [(1, (.bx (.v tq0))), (3, (.r (.int .i64))), (4, (.v (.int .i64)))] [] (fun k x kx kr => s_l01Essential_l3 K k x.1 x.2.1 x.2.2.1 (fun z0 => kx 0 (mkSt X0_s_l01Essential (z0, ()))))]
theorem ok_s_l01Essential (K : Nat) : FnOk Tryz.prog 31 (sp_s_l01Essential (s_l01Essential K)) :=
  fn_okD tysOk [C_s_l01Fix K] 0 (D_s_l01Essential K) [(0, X0_s_l01Essential)] rv_s_l01Essential K Tryz.func31 (by kernel_rfl) ⟨⟨fun _ _ _ _ => by kernel_rfl, fun _ _ _ => rfl⟩, trivial⟩ (fun _ => by kernel_rfl)
noncomputable def C_s_l01Essential (K : Nat) : CB Tryz.prog := .f _ _ (ok_s_l01Essential K)
noncomputable def as_s_l01All : Ty := (.pair (.int .i64) .unit)
noncomputable def sp_s_l01All (F : (Int × Unit) → Option Int) : FnSpec := ⟨as_s_l01All, [false], (.int .i64), F⟩
noncomputable def s_l01All (K : Nat) (x : (Int × Unit)) : Option Int :=
    (s_l01Rows K (x.1, ())).bind fun y1 =>
    (if (decide ((0 : Int) ≤ (IntKind.u64.wrap y1))) = true then
    let x2 := (IntKind.i64.wrap ((shlI .i64 (1 : Int) (IntKind.u64.wrap y1)) - (1 : Int)))
    some x2
    else
    none)
noncomputable def rv_s_l01All : Lv := [(2, (.v (.int .i64)))]
theorem ok_s_l01All (K : Nat) : FnOk Tryz.prog 62 (sp_s_l01All (s_l01All K)) :=
  fn_okD tysOk [C_s_l01Rows K] 0 [] [] rv_s_l01All K Tryz.func62 (by kernel_rfl) trivial (fun _ => by kernel_rfl)
noncomputable def C_s_l01All (K : Nat) : CB Tryz.prog := .f _ _ (ok_s_l01All K)
noncomputable def as_s_l08Joined : Ty := (.pair tq0 (.pair .bool .unit))
noncomputable def sp_s_l08Joined (F : (dq0 × Bool × Unit) → Option Bool) : FnSpec := ⟨as_s_l08Joined, [false, false], .bool, F⟩
noncomputable def s_l08Joined_l9 {R : Type} (K : Nat) : Nat → Bool → dq0 → (List Int) → Int → Int → Int → (Bool → dq0 → (List Int) → Int → Int → Option R) → Option R
  | 0, _, _, _, _, _, _, _ => none
  | k + 1, v1, v2, v5, v6, v7, v8, kx2 =>
    (if (decide (v8 < (v5.length : Int))) = true then
    (if (bnds v8 (v5.length : Int)) = true then
    (if (decide ((0 : Int) ≤ (IntKind.u64.wrap (v5.getD v8.toNat (0 : Int))))) = true then
    let x4 := (shrI .i64 v6 (IntKind.u64.wrap (v5.getD v8.toNat (0 : Int))))
    (if (decide ((bitI .and .i64 x4 (1 : Int)) = (1 : Int))) = true then
    s_l08Joined_l9 K k v1 v2 v5 v6 (IntKind.i64.wrap (v7 + (1 : Int))) (IntKind.i64.wrap (v8 + (1 : Int))) kx2
    else
    s_l08Joined_l9 K k v1 v2 v5 v6 v7 (IntKind.i64.wrap (v8 + (1 : Int))) kx2)
    else
    none)
    else
    none)
    else
    kx2 v1 v2 v5 v6 v7)
noncomputable def s_l08Joined_j16 {R : Type} (K : Nat) (k : Nat) (v1 : Bool) (v2 : dq0) (v5 : (List Int)) (v6 : Int) (v9 : Bool) (kn : Bool → dq0 → (List Int) → Int → Option R) (kr : (Bool → Option R)) : Option R :=
    (s_l01At K (v2, v6, ())).bind fun y10 =>
    (if (!(v9 == (decide (y10 = (1 : Int))))) = true then
    kr false
    else
    kn v1 v2 v5 v6)
noncomputable def s_l08Joined_l5 {R : Type} (K : Nat) : Nat → Bool → dq0 → (List Int) → Int → (Option R) → (Bool → Option R) → Option R
  | 0, _, _, _, _, _, _ => none
  | k + 1, v1, v2, v5, v6, kx0, kr =>
    (s_l01Rows K (v2.1, ())).bind fun y3 =>
    (if (decide (v6 < y3)) = true then
    s_l08Joined_l9 K k v1 v2 v5 v6 (0 : Int) (0 : Int) (fun z5 z6 z7 z8 z9 =>
    (if z5 = true then
    s_l08Joined_j16 K k z5 z6 z7 z8 (decide (z9 = (z7.length : Int))) (fun z11 z12 z13 z14 =>
    s_l08Joined_l5 K k z11 z12 z13 (IntKind.i64.wrap (z14 + (1 : Int))) kx0 kr) (fun z15 =>
    kr z15)
    else
    s_l08Joined_j16 K k z5 z6 z7 z8 (decide (z9 > (0 : Int))) (fun z16 z17 z18 z19 =>
    s_l08Joined_l5 K k z16 z17 z18 (IntKind.i64.wrap (z19 + (1 : Int))) kx0 kr) (fun z20 =>
    kr z20)))
    else
    kx0)
noncomputable def s_l08Joined_j3 {R : Type} (K : Nat) (k : Nat) (v1 : Bool) (v2 : dq0) (kn : Option R) (kr : (Bool → Option R)) : Option R :=
    (s_l01Essential K (v2, ())).bind fun y2 =>
    s_l08Joined_l5 K k v1 v2 y2 (0 : Int) (kr true) (fun z21 =>
    kr z21)
noncomputable def s_l08Joined (K : Nat) (x : (dq0 × Bool × Unit)) : Option Bool :=
    (if (decide (x.1.2.1 = (0 : Int))) = true then
    some true
    else
    (s_l01All K (x.1.1, ())).bind fun y1 =>
    (if (decide (x.1.2.1 = y1)) = true then
    some true
    else
    s_l08Joined_j3 K K x.2.1 x.1 none (fun z22 =>
    some z22)))
noncomputable def X0_s_l08Joined : Lv := []
noncomputable def X2_s_l08Joined : Lv := [(1, (.v .bool)), (2, (.bx (.v tq0))), (5, (.r (.int .i64))), (6, (.v (.int .i64))), (7, (.v (.int .i64)))]
noncomputable def rv_s_l08Joined : Lv := [(4, (.v .bool))]
noncomputable def D_s_l08Joined (K : Nat) : List (PD (den .bool)) := [.J 3 [(1, (.v .bool)), (2, (.bx (.v tq0)))] [] 0 (fun k x kn kx kr => s_l08Joined_j3 K k x.1 x.2.1 (kn ()) (fun z0 => kr (mkSt rv_s_l08Joined (z0, ())))),
  .L 5 [(1, (.v .bool)), (2, (.bx (.v tq0))), (5, (.r (.int .i64))), (6, (.v (.int .i64)))] [] (fun k x kx kr => s_l08Joined_l5 K k x.1 x.2.1 x.2.2.1 x.2.2.2.1 (kx 0 (mkSt X0_s_l08Joined ())) (fun z0 => kr (mkSt rv_s_l08Joined (z0, ())))),
  .L 9 [(1, (.v .bool)), (2, (.bx (.v tq0))), (5, (.r (.int .i64))), (6, (.v (.int .i64))), (7, (.v (.int .i64))), (8, (.v (.int .i64)))] [] (fun k x kx kr => s_l08Joined_l9 K k x.1 x.2.1 x.2.2.1 x.2.2.2.1 x.2.2.2.2.1 x.2.2.2.2.2.1 (fun z0 z1 z2 z3 z4 => kx 2 (mkSt X2_s_l08Joined (z0, z1, z2, z3, z4, ())))),
  .J 16 [(1, (.v .bool)), (2, (.bx (.v tq0))), (5, (.r (.int .i64))), (6, (.v (.int .i64))), (9, (.v .bool))] [(1, (.v .bool)), (2, (.bx (.v tq0))), (5, (.r (.int .i64))), (6, (.v (.int .i64)))] 0 (fun k x kn kx kr => s_l08Joined_j16 K k x.1 x.2.1 x.2.2.1 x.2.2.2.1 x.2.2.2.2.1 (fun z0 z1 z2 z3 => kn (z0, z1, z2, z3, ())) (fun z0 => kr (mkSt rv_s_l08Joined (z0, ()))))]
theorem ok_s_l08Joined (K : Nat) : FnOk Tryz.prog 32 (sp_s_l08Joined (s_l08Joined K)) :=
  fn_okD tysOk [C_s_l01Rows K, C_s_l01At K, C_s_l01Essential K, C_s_l01All K] 0 (D_s_l08Joined K) [(0, X0_s_l08Joined), (2, X2_s_l08Joined)] rv_s_l08Joined K Tryz.func32 (by kernel_rfl) ⟨fun _ _ _ _ _ => by kernel_rfl, ⟨⟨fun _ _ _ _ => by kernel_rfl, fun _ _ _ => rfl⟩, ⟨⟨fun _ _ _ _ => by kernel_rfl, fun _ _ _ => rfl⟩, ⟨fun _ _ _ _ _ => by kernel_rfl, trivial⟩⟩⟩⟩ (fun _ => by kernel_rfl)
noncomputable def C_s_l08Joined (K : Nat) : CB Tryz.prog := .f _ _ (ok_s_l08Joined K)
noncomputable def s_l08Apart_j9 {R : Type} (K : Nat) (r : ((List Int) × Int × Int × Int × Int × Int × Unit) → Option Bool) (k : Nat) (v0 : (List Int)) (v1 : Int) (v2 : Int) (v3 : Int) (v5 : Int) (v13 : Int) (v14 : Int) (kn : (List Int) → Int → Int → Int → Int → Int → Option R) (kr : (Bool → Option R)) : Option R :=
    (r (v0, v1, v2, (IntKind.i64.wrap (v3 - (1 : Int))), (IntKind.i64.wrap (v13 + (1 : Int))), (bitI .and .i64 v5 v14), ())).bind fun y3 =>
    (if (!y3) = true then
    kr false
    else
    kn v0 v1 v2 v3 v5 v13)
noncomputable def s_l08Apart_l4 {R : Type} (K : Nat) (r : ((List Int) × Int × Int × Int × Int × Int × Unit) → Option Bool) : Nat → (List Int) → Int → Int → Int → Int → Int → (Option R) → (Bool → Option R) → Option R
  | 0, _, _, _, _, _, _, _, _ => none
  | k + 1, v0, v1, v2, v3, v5, v13, kx0, kr =>
    (if (decide (v13 < (v0.length : Int))) = true then
    (if (bnds v13 (v0.length : Int)) = true then
    (if (decide (v2 = (0 : Int))) = true then
    (s_l01Rows K (v1, ())).bind fun y1 =>
    let x2 := (IntKind.i64.wrap ((IntKind.i64.wrap (y1 - (1 : Int))) - (v0.getD v13.toNat (0 : Int))))
    s_l08Apart_j9 K r k v0 v1 v2 v3 v5 v13 x2 (fun z4 z5 z6 z7 z8 z9 =>
    s_l08Apart_l4 K r k z4 z5 z6 z7 z8 (IntKind.i64.wrap (z9 + (1 : Int))) kx0 kr) (fun z10 =>
    kr z10)
    else
    s_l08Apart_j9 K r k v0 v1 v2 v3 v5 v13 (v0.getD v13.toNat (0 : Int)) (fun z11 z12 z13 z14 z15 z16 =>
    s_l08Apart_l4 K r k z11 z12 z13 z14 z15 (IntKind.i64.wrap (z16 + (1 : Int))) kx0 kr) (fun z17 =>
    kr z17))
    else
    none)
    else
    kx0)
noncomputable def s_l08Apart_b (K : Nat) (r : ((List Int) × Int × Int × Int × Int × Int × Unit) → Option Bool) (x : ((List Int) × Int × Int × Int × Int × Int × Unit)) : Option Bool :=
    (if (decide (x.2.2.2.1 = (0 : Int))) = true then
    some (!decide (x.2.2.2.2.2.1 = (0 : Int)))
    else
    s_l08Apart_l4 K r K x.1 x.2.1 x.2.2.1 x.2.2.2.1 x.2.2.2.2.2.1 x.2.2.2.2.1 (some true) (fun z18 =>
    some z18))
noncomputable def s_l08Apart (K : Nat) : Nat → ((List Int) × Int × Int × Int × Int × Int × Unit) → Option Bool
  | 0 => fun _ => none
  | k + 1 => s_l08Apart_b K (s_l08Apart K k)
noncomputable def X0_s_l08Apart : Lv := []
noncomputable def rv_s_l08Apart : Lv := [(12, (.v .bool))]
noncomputable def D_s_l08Apart (K : Nat) (r : ((List Int) × Int × Int × Int × Int × Int × Unit) → Option Bool) : List (PD (den .bool)) := [.L 4 [(0, (.v (.sl (.int .i64)))), (1, (.v (.int .i64))), (2, (.v (.int .i64))), (3, (.v (.int .i64))), (5, (.v (.int .i64))), (13, (.v (.int .i64)))] [] (fun k x kx kr => s_l08Apart_l4 K r k x.1 x.2.1 x.2.2.1 x.2.2.2.1 x.2.2.2.2.1 x.2.2.2.2.2.1 (kx 0 (mkSt X0_s_l08Apart ())) (fun z0 => kr (mkSt rv_s_l08Apart (z0, ())))),
  .J 9 [(0, (.v (.sl (.int .i64)))), (1, (.v (.int .i64))), (2, (.v (.int .i64))), (3, (.v (.int .i64))), (5, (.v (.int .i64))), (13, (.v (.int .i64))), (14, (.v (.int .i64)))] [(0, (.v (.sl (.int .i64)))), (1, (.v (.int .i64))), (2, (.v (.int .i64))), (3, (.v (.int .i64))), (5, (.v (.int .i64))), (13, (.v (.int .i64)))] 0 (fun k x kn kx kr => s_l08Apart_j9 K r k x.1 x.2.1 x.2.2.1 x.2.2.2.1 x.2.2.2.2.1 x.2.2.2.2.2.1 x.2.2.2.2.2.2.1 (fun z0 z1 z2 z3 z4 z5 => kn (z0, z1, z2, z3, z4, z5, ())) (fun z0 => kr (mkSt rv_s_l08Apart (z0, ()))))]
theorem okb_s_l08Apart (K : Nat) (r : ((List Int) × Int × Int × Int × Int × Int × Unit) → Option Bool) (hr : FnOk Tryz.prog 68 (sp_s_l08Apart r)) : FnOk Tryz.prog 68 (sp_s_l08Apart (s_l08Apart_b K r)) :=
  fn_okD tysOk [C_s_l01Rows K, .f _ (sp_s_l08Apart (r)) (hr)] 0 (D_s_l08Apart K r) [(0, X0_s_l08Apart)] rv_s_l08Apart K Tryz.func68 (by kernel_rfl) ⟨⟨fun _ _ _ _ => by kernel_rfl, fun _ _ _ => rfl⟩, ⟨fun _ _ _ _ _ => by kernel_rfl, trivial⟩⟩ (fun _ => by kernel_rfl)
theorem ok_s_l08Apart (K : Nat) : ∀ k, FnOk Tryz.prog 68 (sp_s_l08Apart (s_l08Apart K k))
  | 0 => fnOk_none
  | k + 1 => okb_s_l08Apart K (s_l08Apart K k) (ok_s_l08Apart K k)
noncomputable def as_s_l08Degree : Ty := (.pair tq0 (.pair (.int .i64) .unit))
noncomputable def sp_s_l08Degree (F : (dq0 × Int × Unit) → Option Int) : FnSpec := ⟨as_s_l08Degree, [false, false], (.int .i64), F⟩
noncomputable def s_l08Degree_l3 {R : Type} (K : Nat) : Nat → Int → dq0 → (List Int) → Int → (Int → dq0 → (List Int) → Option R) → Option R
  | 0, _, _, _, _, _ => none
  | k + 1, v1, v2, v5, v6, kx0 =>
    (s_l01Rows K (v2.1, ())).bind fun y2 =>
    (if (decide (v6 < y2)) = true then
    (s_l01At K (v2, v6, ())).bind fun y3 =>
    (if (decide (y3 = v1)) = true then
    (if (decide (v5.length + ([v6]).length ≤ lim)) = true then
    let l4 := (v5 ++ [v6])
    s_l08Degree_l3 K k v1 v2 l4 (IntKind.i64.wrap (v6 + (1 : Int))) kx0
    else
    none)
    else
    s_l08Degree_l3 K k v1 v2 v5 (IntKind.i64.wrap (v6 + (1 : Int))) kx0)
    else
    kx0 v1 v2 v5)
noncomputable def s_l08Degree_l8 {R : Type} (K : Nat) : Nat → Int → dq0 → (List Int) → Int → (Option R) → (Int → Option R) → Option R
  | 0, _, _, _, _, _, _ => none
  | k + 1, v1, v2, v5, v7, kx2, kr =>
    (if (decide (v7 ≤ (minL (v5.length : Int) [(4 : Int)]))) = true then
    (s_l01Rows K (v2.1, ())).bind fun y8 =>
    (s_l08Apart K K (v5, v2.1, v1, v7, (0 : Int), (IntKind.i64.wrap (y8 - (1 : Int))), ())).bind fun y9 =>
    (if (!y9) = true then
    kr (IntKind.i64.wrap (v7 - (1 : Int)))
    else
    s_l08Degree_l8 K k v1 v2 v5 (IntKind.i64.wrap (v7 + (1 : Int))) kx2 kr)
    else
    kx2)
noncomputable def s_l08Degree (K : Nat) (x : (dq0 × Int × Unit)) : Option Int :=
    let l1 := ([] : List Int)
    s_l08Degree_l3 K K x.2.1 x.1 l1 (0 : Int) (fun z5 z6 z7 =>
    s_l08Degree_l8 K K z5 z6 z7 (1 : Int) (some (9 : Int)) (fun z10 =>
    some z10))
noncomputable def X0_s_l08Degree : Lv := [(1, (.v (.int .i64))), (2, (.bx (.v tq0))), (5, (.r (.int .i64)))]
noncomputable def X2_s_l08Degree : Lv := []
noncomputable def rv_s_l08Degree : Lv := [(4, (.v (.int .i64)))]
noncomputable def D_s_l08Degree (K : Nat) : List (PD (den (.int .i64))) := [.L 3 [(1, (.v (.int .i64))), (2, (.bx (.v tq0))), (5, (.r (.int .i64))), (6, (.v (.int .i64)))] [] (fun k x kx kr => s_l08Degree_l3 K k x.1 x.2.1 x.2.2.1 x.2.2.2.1 (fun z0 z1 z2 => kx 0 (mkSt X0_s_l08Degree (z0, z1, z2, ())))),
  .L 8 [(1, (.v (.int .i64))), (2, (.bx (.v tq0))), (5, (.r (.int .i64))), (7, (.v (.int .i64)))] [] (fun k x kx kr => s_l08Degree_l8 K k x.1 x.2.1 x.2.2.1 x.2.2.2.1 (kx 2 (mkSt X2_s_l08Degree ())) (fun z0 => kr (mkSt rv_s_l08Degree (z0, ()))))]
theorem ok_s_l08Degree (K : Nat) : FnOk Tryz.prog 33 (sp_s_l08Degree (s_l08Degree K)) :=
  fn_okD tysOk [C_s_l01Rows K, C_s_l01At K, .f _ (sp_s_l08Apart (s_l08Apart K K)) (ok_s_l08Apart K K)] 0 (D_s_l08Degree K) [(0, X0_s_l08Degree), (2, X2_s_l08Degree)] rv_s_l08Degree K Tryz.func33 (by kernel_rfl) ⟨⟨fun _ _ _ _ => by kernel_rfl, fun _ _ _ => rfl⟩, ⟨⟨fun _ _ _ _ => by kernel_rfl, fun _ _ _ => rfl⟩, trivial⟩⟩ (fun _ => by kernel_rfl)
noncomputable def C_s_l08Degree (K : Nat) : CB Tryz.prog := .f _ _ (ok_s_l08Degree K)
noncomputable def as_s_l08Four : Ty := (.pair (.int .i64) (.pair .str (.pair .str (.pair .str (.pair .str .unit)))))
noncomputable def sp_s_l08Four (F : (Int × ByteArray × ByteArray × ByteArray × ByteArray × Unit) → Option ByteArray) : FnSpec := ⟨as_s_l08Four, [false, false, false, false, false], .str, F⟩
noncomputable def s_l08Four (K : Nat) (x : (Int × ByteArray × ByteArray × ByteArray × ByteArray × Unit)) : Option ByteArray :=
    (if (decide ((bitI .and .i64 x.1 (3 : Int)) = (3 : Int))) = true then
    some x.2.1
    else
    (if (decide ((bitI .and .i64 x.1 (3 : Int)) = (1 : Int))) = true then
    some x.2.2.1
    else
    (if (decide ((bitI .and .i64 x.1 (3 : Int)) = (2 : Int))) = true then
    some x.2.2.2.1
    else
    some x.2.2.2.2.1)))
noncomputable def rv_s_l08Four : Lv := [(10, (.v .str))]
theorem ok_s_l08Four (K : Nat) : FnOk Tryz.prog 34 (sp_s_l08Four (s_l08Four K)) :=
  fn_okD tysOk [] 0 [] [] rv_s_l08Four K Tryz.func34 (by kernel_rfl) trivial (fun _ => by kernel_rfl)
noncomputable def C_s_l08Four (K : Nat) : CB Tryz.prog := .f _ _ (ok_s_l08Four K)
noncomputable def s_l01Dec_b (K : Nat) (r : (Int × Unit) → Option ByteArray) (x : (Int × Unit)) : Option ByteArray :=
    (if (decide (x.1 < (0 : Int))) = true then
    (r ((IntKind.i64.wrap (0 - x.1)), ())).bind fun y1 =>
    (if (decide ((⟨#[45]⟩ : ByteArray).size + y1.size ≤ 9223372036854775807)) = true then
    some ((⟨#[45]⟩ : ByteArray) ++ y1)
    else
    none)
    else
    (if (decide (x.1 < (10 : Int))) = true then
    let l2 := [(IntKind.u8.wrap (IntKind.i64.wrap ((48 : Int) + x.1)))]
    some (bytesOf l2)
    else
    (r ((IntKind.i64.wrap (Int.tdiv x.1 (10 : Int))), ())).bind fun y3 =>
    let x4 := (IntKind.u8.wrap (IntKind.i64.wrap ((48 : Int) + (Int.tmod x.1 (10 : Int)))))
    (if (decide (y3.size + (bytesOf ([x4])).size ≤ 9223372036854775807)) = true then
    some (y3 ++ (bytesOf ([x4])))
    else
    none)))
noncomputable def s_l01Dec (K : Nat) : Nat → (Int × Unit) → Option ByteArray
  | 0 => fun _ => none
  | k + 1 => s_l01Dec_b K (s_l01Dec K k)
noncomputable def rv_s_l01Dec : Lv := [(2, (.v .str))]
theorem okb_s_l01Dec (K : Nat) (r : (Int × Unit) → Option ByteArray) (hr : FnOk Tryz.prog 69 (sp_s_l01Dec r)) : FnOk Tryz.prog 69 (sp_s_l01Dec (s_l01Dec_b K r)) :=
  fn_okD tysOk [.f _ (sp_s_l01Dec (r)) (hr)] 0 [] [] rv_s_l01Dec K Tryz.func69 (by kernel_rfl) trivial (fun _ => by kernel_rfl)
theorem ok_s_l01Dec (K : Nat) : ∀ k, FnOk Tryz.prog 69 (sp_s_l01Dec (s_l01Dec K k))
  | 0 => fnOk_none
  | k + 1 => okb_s_l01Dec K (s_l01Dec K k) (ok_s_l01Dec K k)
noncomputable def as_s_l08Degrees : Ty := (.pair .str (.pair (.int .i64) .unit))
noncomputable def sp_s_l08Degrees (F : (ByteArray × Int × Unit) → Option ByteArray) : FnSpec := ⟨as_s_l08Degrees, [false, false], .str, F⟩
noncomputable def s_l08Degrees (K : Nat) (x : (ByteArray × Int × Unit)) : Option ByteArray :=
    (if (decide (x.2.1 = (9 : Int))) = true then
    some x.1
    else
    (if (decide (x.1.size + (⟨#[94]⟩ : ByteArray).size ≤ 9223372036854775807)) = true then
    (s_l01Dec K K (x.2.1, ())).bind fun y1 =>
    (if (decide ((x.1 ++ (⟨#[94]⟩ : ByteArray)).size + y1.size ≤ 9223372036854775807)) = true then
    some ((x.1 ++ (⟨#[94]⟩ : ByteArray)) ++ y1)
    else
    none)
    else
    none))
noncomputable def rv_s_l08Degrees : Lv := [(4, (.v .str))]
theorem ok_s_l08Degrees (K : Nat) : FnOk Tryz.prog 35 (sp_s_l08Degrees (s_l08Degrees K)) :=
  fn_okD tysOk [.f _ (sp_s_l01Dec (s_l01Dec K K)) (ok_s_l01Dec K K)] 0 [] [] rv_s_l08Degrees K Tryz.func35 (by kernel_rfl) trivial (fun _ => by kernel_rfl)
noncomputable def C_s_l08Degrees (K : Nat) : CB Tryz.prog := .f _ _ (ok_s_l08Degrees K)
noncomputable def as_s_l08Kind : Ty := (.pair .bool (.pair .bool (.pair .str (.pair .str (.pair .str (.pair .str .unit))))))
noncomputable def sp_s_l08Kind (F : (Bool × Bool × ByteArray × ByteArray × ByteArray × ByteArray × Unit) → Option ByteArray) : FnSpec := ⟨as_s_l08Kind, [false, false, false, false, false, false], .str, F⟩
noncomputable def s_l08Kind_j3 {R : Type} (K : Nat) (k : Nat) (v0 : Bool) (v1 : Bool) (v3 : ByteArray) (v4 : ByteArray) (v5 : ByteArray) (kn : ByteArray → Option R) (kr : (ByteArray → Option R)) : Option R :=
    gN K ((if v1 = true then
    kr v3
    else
    (if v0 = true then
    kr v4
    else
    kn v5)))
noncomputable def s_l08Kind (K : Nat) (x : (Bool × Bool × ByteArray × ByteArray × ByteArray × ByteArray × Unit)) : Option ByteArray :=
    (if x.1 = true then
    (if x.2.1 = true then
    some x.2.2.1
    else
    s_l08Kind_j3 K K x.1 x.2.1 x.2.2.2.1 x.2.2.2.2.1 x.2.2.2.2.2.1 (fun z1 =>
    some z1) (fun z2 =>
    some z2))
    else
    s_l08Kind_j3 K K x.1 x.2.1 x.2.2.2.1 x.2.2.2.2.1 x.2.2.2.2.2.1 (fun z3 =>
    some z3) (fun z4 =>
    some z4))
noncomputable def rv_s_l08Kind : Lv := [(12, (.v .str))]
noncomputable def D_s_l08Kind (K : Nat) : List (PD (den .str)) := [.J 3 [(0, (.v .bool)), (1, (.v .bool)), (3, (.v .str)), (4, (.v .str)), (5, (.v .str))] [(5, (.v .str))] K (fun k x kn kx kr => s_l08Kind_j3 K k x.1 x.2.1 x.2.2.1 x.2.2.2.1 x.2.2.2.2.1 (fun z0 => kn (z0, ())) (fun z0 => kr (mkSt rv_s_l08Kind (z0, ()))))]
theorem ok_s_l08Kind (K : Nat) : FnOk Tryz.prog 36 (sp_s_l08Kind (s_l08Kind K)) :=
  fn_okD tysOk [] 0 (D_s_l08Kind K) [] rv_s_l08Kind K Tryz.func36 (by kernel_rfl) ⟨fun _ _ _ _ _ => by kernel_rfl, trivial⟩ (fun _ => by kernel_rfl)
noncomputable def C_s_l08Kind (K : Nat) : CB Tryz.prog := .f _ _ (ok_s_l08Kind K)
noncomputable def as_s_l08Name : Ty := (.pair (.sl tq0) .unit)
noncomputable def sp_s_l08Name (F : ((List dq0) × Unit) → Option ByteArray) : FnSpec := ⟨as_s_l08Name, [false], .str, F⟩
noncomputable def s_l08Name_j9 {R : Type} (K : Nat) (k : Nat) (v0 : (List dq0)) (v3 : Int) (v4 : Bool) (v5 : Bool) (v6 : Bool) (v7 : Int) (v8 : Int) (v9 : Int) (kn : (List dq0) → Int → Bool → Bool → Bool → Int → Int → Int → Option R)  : Option R :=
    (if (bnds v9 (v0.length : Int)) = true then
    (s_l08Degree K ((v0.getD v9.toNat ((0 : Int), (0 : Int), ())), (0 : Int), ())).bind fun y6 =>
    (if (bnds v9 (v0.length : Int)) = true then
    (s_l08Degree K ((v0.getD v9.toNat ((0 : Int), (0 : Int), ())), (1 : Int), ())).bind fun y7 =>
    kn v0 v3 v4 v5 v6 (minL v7 [y6]) (minL v8 [y7]) v9
    else
    none)
    else
    none)
noncomputable def s_l08Name_j8 {R : Type} (K : Nat) (k : Nat) (v0 : (List dq0)) (v3 : Int) (v4 : Bool) (v5 : Bool) (v6 : Bool) (v7 : Int) (v8 : Int) (v9 : Int) (kn : (List dq0) → Int → Bool → Bool → Bool → Int → Int → Int → Option R)  : Option R :=
    (if v6 = true then
    (if (bnds v9 (v0.length : Int)) = true then
    (s_l08Joined K ((v0.getD v9.toNat ((0 : Int), (0 : Int), ())), true, ())).bind fun y5 =>
    s_l08Name_j9 K k v0 v3 v4 v5 y5 v7 v8 v9 (fun z8 z9 z10 z11 z12 z13 z14 z15 =>
    kn z8 z9 z10 z11 z12 z13 z14 z15)
    else
    none)
    else
    s_l08Name_j9 K k v0 v3 v4 v5 false v7 v8 v9 (fun z16 z17 z18 z19 z20 z21 z22 z23 =>
    kn z16 z17 z18 z19 z20 z21 z22 z23))
noncomputable def s_l08Name_j7 {R : Type} (K : Nat) (k : Nat) (v0 : (List dq0)) (v3 : Int) (v4 : Bool) (v5 : Bool) (v6 : Bool) (v7 : Int) (v8 : Int) (v9 : Int) (kn : (List dq0) → Int → Bool → Bool → Bool → Int → Int → Int → Option R)  : Option R :=
    (if v5 = true then
    (if (bnds v9 (v0.length : Int)) = true then
    (s_l08Joined K ((v0.getD v9.toNat ((0 : Int), (0 : Int), ())), false, ())).bind fun y4 =>
    s_l08Name_j8 K k v0 v3 v4 y4 v6 v7 v8 v9 (fun z24 z25 z26 z27 z28 z29 z30 z31 =>
    kn z24 z25 z26 z27 z28 z29 z30 z31)
    else
    none)
    else
    s_l08Name_j8 K k v0 v3 v4 false v6 v7 v8 v9 (fun z32 z33 z34 z35 z36 z37 z38 z39 =>
    kn z32 z33 z34 z35 z36 z37 z38 z39))
noncomputable def s_l08Name_j5 {R : Type} (K : Nat) (k : Nat) (v0 : (List dq0)) (v3 : Int) (v4 : Bool) (v5 : Bool) (v6 : Bool) (v7 : Int) (v8 : Int) (v9 : Int) (kn : (List dq0) → Int → Bool → Bool → Bool → Int → Int → Int → Option R)  : Option R :=
    kn v0 v3 v4 v5 v6 v7 v8 (IntKind.i64.wrap (v9 + (1 : Int)))
noncomputable def s_l08Name_l4 {R : Type} (K : Nat) : Nat → (List dq0) → Int → Bool → Bool → Bool → Int → Int → Int → (Int → Bool → Bool → Bool → Int → Int → Option R) → Option R
  | 0, _, _, _, _, _, _, _, _, _ => none
  | k + 1, v0, v3, v4, v5, v6, v7, v8, v9, kx0 =>
    (if (decide (v9 < (v0.length : Int))) = true then
    (if v4 = true then
    (if (bnds v9 (v0.length : Int)) = true then
    (s_l01Essential K ((v0.getD v9.toNat ((0 : Int), (0 : Int), ())), ())).bind fun y3 =>
    s_l08Name_j7 K k v0 v3 (decide ((y3.length : Int) ≤ (1 : Int))) v5 v6 v7 v8 v9 (fun z40 z41 z42 z43 z44 z45 z46 z47 =>
    s_l08Name_j5 K k z40 z41 z42 z43 z44 z45 z46 z47 (fun z48 z49 z50 z51 z52 z53 z54 z55 =>
    s_l08Name_l4 K k z48 z49 z50 z51 z52 z53 z54 z55 kx0))
    else
    none)
    else
    s_l08Name_j7 K k v0 v3 false v5 v6 v7 v8 v9 (fun z56 z57 z58 z59 z60 z61 z62 z63 =>
    s_l08Name_j5 K k z56 z57 z58 z59 z60 z61 z62 z63 (fun z64 z65 z66 z67 z68 z69 z70 z71 =>
    s_l08Name_l4 K k z64 z65 z66 z67 z68 z69 z70 z71 kx0)))
    else
    kx0 v3 v4 v5 v6 v7 v8)
noncomputable def s_l08Name_j32 {R : Type} (K : Nat) (k : Nat) (v3 : Int) (v7 : Int) (v8 : Int) (v10 : Bool) (v11 : Bool) (kn : Int → Option R) (kr : (ByteArray → Option R)) : Option R :=
    gN K ((if v10 = true then
    kr (⟨#[68]⟩ : ByteArray)
    else
    (if (decide (v7 ≥ (2 : Int))) = true then
    (s_l08Kind K ((!decide ((bitI .and .i64 v3 (1 : Int)) = (0 : Int))), v11, (⟨#[83, 48, 48]⟩ : ByteArray), (⟨#[83, 48, 49]⟩ : ByteArray), (⟨#[83, 48, 50]⟩ : ByteArray), (⟨#[83, 48]⟩ : ByteArray), ())).bind fun y82 =>
    (s_l08Degrees K (y82, v7, ())).bind fun y83 =>
    kr y83
    else
    (if (decide (v8 ≥ (2 : Int))) = true then
    (s_l08Kind K ((!decide ((bitI .and .i64 v3 (2 : Int)) = (0 : Int))), v11, (⟨#[83, 49, 48]⟩ : ByteArray), (⟨#[83, 49, 49]⟩ : ByteArray), (⟨#[83, 49, 50]⟩ : ByteArray), (⟨#[83, 49]⟩ : ByteArray), ())).bind fun y84 =>
    (s_l08Degrees K (y84, v8, ())).bind fun y85 =>
    kr y85
    else
    (if v11 = true then
    (s_l08Four K (v3, (⟨#[77, 50]⟩ : ByteArray), (⟨#[77, 48]⟩ : ByteArray), (⟨#[77, 49]⟩ : ByteArray), (⟨#[77]⟩ : ByteArray), ())).bind fun y86 =>
    kr y86
    else
    kn v3)))))
noncomputable def s_l08Name_j30 {R : Type} (K : Nat) (k : Nat) (v3 : Int) (v7 : Int) (v8 : Int) (v10 : Bool) (v11 : Bool) (kn : Int → Option R) (kr : (ByteArray → Option R)) : Option R :=
    gN K ((if v10 = true then
    (if (!decide ((bitI .and .i64 v3 (1 : Int)) = (0 : Int))) = true then
    kr (⟨#[68, 49]⟩ : ByteArray)
    else
    s_l08Name_j32 K k v3 v7 v8 v10 v11 (fun z87 =>
    kn z87) (fun z88 =>
    kr z88))
    else
    s_l08Name_j32 K k v3 v7 v8 v10 v11 (fun z89 =>
    kn z89) (fun z90 =>
    kr z90)))
noncomputable def s_l08Name_j26 {R : Type} (K : Nat) (k : Nat) (v3 : Int) (v7 : Int) (v8 : Int) (v10 : Bool) (v11 : Bool) (v12 : Bool) (kn : Int → Option R) (kr : (ByteArray → Option R)) : Option R :=
    gN K ((if v12 = true then
    (s_l08Four K (v3, (⟨#[76, 50]⟩ : ByteArray), (⟨#[76, 48]⟩ : ByteArray), (⟨#[76, 49]⟩ : ByteArray), (⟨#[76]⟩ : ByteArray), ())).bind fun y81 =>
    kr y81
    else
    (if v10 = true then
    (if v11 = true then
    kr (⟨#[68, 50]⟩ : ByteArray)
    else
    s_l08Name_j30 K k v3 v7 v8 v10 v11 (fun z91 =>
    kn z91) (fun z92 =>
    kr z92))
    else
    s_l08Name_j30 K k v3 v7 v8 v10 v11 (fun z93 =>
    kn z93) (fun z94 =>
    kr z94))))
noncomputable def s_l08Name_j24 {R : Type} (K : Nat) (k : Nat) (v3 : Int) (v7 : Int) (v8 : Int) (v10 : Bool) (v11 : Bool) (v12 : Bool) (kn : Int → Option R) (kr : (ByteArray → Option R)) : Option R :=
    gN K ((if v12 = true then
    (if v10 = true then
    kr (⟨#[76, 51]⟩ : ByteArray)
    else
    s_l08Name_j26 K k v3 v7 v8 v10 v11 v12 (fun z95 =>
    kn z95) (fun z96 =>
    kr z96))
    else
    s_l08Name_j26 K k v3 v7 v8 v10 v11 v12 (fun z97 =>
    kn z97) (fun z98 =>
    kr z98)))
noncomputable def s_l08Name_j16 {R : Type} (K : Nat) (k : Nat) (v3 : Int) (v4 : Bool) (v5 : Bool) (v6 : Bool) (v7 : Int) (v8 : Int) (v10 : Bool) (v11 : Bool) (v12 : Bool) (kn : Int → Option R) (kr : (ByteArray → Option R)) : Option R :=
    gN K ((if v4 = true then
    kr (⟨#[78]⟩ : ByteArray)
    else
    (if v5 = true then
    (s_l08Four K (v3, (⟨#[86, 50]⟩ : ByteArray), (⟨#[86, 48]⟩ : ByteArray), (⟨#[86, 49]⟩ : ByteArray), (⟨#[86]⟩ : ByteArray), ())).bind fun y79 =>
    kr y79
    else
    (if v6 = true then
    (s_l08Four K (v3, (⟨#[69, 50]⟩ : ByteArray), (⟨#[69, 48]⟩ : ByteArray), (⟨#[69, 49]⟩ : ByteArray), (⟨#[69]⟩ : ByteArray), ())).bind fun y80 =>
    kr y80
    else
    (if v12 = true then
    (if (decide ((bitI .and .i64 v3 (3 : Int)) = (3 : Int))) = true then
    kr (⟨#[76, 50]⟩ : ByteArray)
    else
    s_l08Name_j24 K k v3 v7 v8 v10 v11 v12 (fun z99 =>
    kn z99) (fun z100 =>
    kr z100))
    else
    s_l08Name_j24 K k v3 v7 v8 v10 v11 v12 (fun z101 =>
    kn z101) (fun z102 =>
    kr z102))))))
noncomputable def s_l08Name_j14 {R : Type} (K : Nat) (k : Nat) (v3 : Int) (v4 : Bool) (v5 : Bool) (v6 : Bool) (v7 : Int) (v8 : Int) (v10 : Bool) (v11 : Bool) (v12 : Bool) (kn : Int → Option R) (kr : (ByteArray → Option R)) : Option R :=
    gN K ((if v4 = true then
    (if v10 = true then
    kr (⟨#[78, 50]⟩ : ByteArray)
    else
    s_l08Name_j16 K k v3 v4 v5 v6 v7 v8 v10 v11 v12 (fun z103 =>
    kn z103) (fun z104 =>
    kr z104))
    else
    s_l08Name_j16 K k v3 v4 v5 v6 v7 v8 v10 v11 v12 (fun z105 =>
    kn z105) (fun z106 =>
    kr z106)))
noncomputable def s_l08Name_j40 {R : Type} (K : Nat) (k : Nat) (v3 : Int) (kn : Option R) (kr : (ByteArray → Option R)) : Option R :=
    (s_l08Four K (v3, (⟨#[82, 50]⟩ : ByteArray), (⟨#[82, 48]⟩ : ByteArray), (⟨#[82, 49]⟩ : ByteArray), (⟨#[66, 70]⟩ : ByteArray), ())).bind fun y108 =>
    kr y108
noncomputable def s_l08Name (K : Nat) (x : ((List dq0) × Unit)) : Option ByteArray :=
    (s_l02Whole K (x.1, ())).bind fun y1 =>
    (s_l02Classes K (x.1, y1, ())).bind fun y2 =>
    s_l08Name_l4 K K x.1 y2 true true true (9 : Int) (9 : Int) (0 : Int) (fun z72 z73 z74 z75 z76 z77 =>
    (if z73 = true then
    (if (!decide ((bitI .and .i64 z72 (8 : Int)) = (0 : Int))) = true then
    (s_l08Four K (z72, (⟨#[73, 50]⟩ : ByteArray), (⟨#[73, 48]⟩ : ByteArray), (⟨#[73, 49]⟩ : ByteArray), (⟨#[73]⟩ : ByteArray), ())).bind fun y78 =>
    some y78
    else
    s_l08Name_j14 K K z72 z73 z74 z75 z76 z77 (!decide ((bitI .and .i64 z72 (4 : Int)) = (0 : Int))) (!decide ((bitI .and .i64 z72 (8 : Int)) = (0 : Int))) (!decide ((bitI .and .i64 z72 (16 : Int)) = (0 : Int))) (fun z107 =>
    s_l08Name_j40 K K z107 none (fun z109 =>
    some z109)) (fun z110 =>
    some z110))
    else
    s_l08Name_j14 K K z72 z73 z74 z75 z76 z77 (!decide ((bitI .and .i64 z72 (4 : Int)) = (0 : Int))) (!decide ((bitI .and .i64 z72 (8 : Int)) = (0 : Int))) (!decide ((bitI .and .i64 z72 (16 : Int)) = (0 : Int))) (fun z111 =>
    s_l08Name_j40 K K z111 none (fun z112 =>
    some z112)) (fun z113 =>
    some z113)))
noncomputable def X0_s_l08Name : Lv := [(3, (.v (.int .i64))), (4, (.v .bool)), (5, (.v .bool)), (6, (.v .bool)), (7, (.v (.int .i64))), (8, (.v (.int .i64)))]
noncomputable def rv_s_l08Name : Lv := [(2, (.v .str))]
noncomputable def D_s_l08Name (K : Nat) : List (PD (den .str)) := [.L 4 [(0, (.v (.sl tq0))), (3, (.v (.int .i64))), (4, (.v .bool)), (5, (.v .bool)), (6, (.v .bool)), (7, (.v (.int .i64))), (8, (.v (.int .i64))), (9, (.v (.int .i64)))] [] (fun k x kx kr => s_l08Name_l4 K k x.1 x.2.1 x.2.2.1 x.2.2.2.1 x.2.2.2.2.1 x.2.2.2.2.2.1 x.2.2.2.2.2.2.1 x.2.2.2.2.2.2.2.1 (fun z0 z1 z2 z3 z4 z5 => kx 0 (mkSt X0_s_l08Name (z0, z1, z2, z3, z4, z5, ())))),
  .J 7 [(0, (.v (.sl tq0))), (3, (.v (.int .i64))), (4, (.v .bool)), (5, (.v .bool)), (6, (.v .bool)), (7, (.v (.int .i64))), (8, (.v (.int .i64))), (9, (.v (.int .i64)))] [(0, (.v (.sl tq0))), (3, (.v (.int .i64))), (4, (.v .bool)), (5, (.v .bool)), (6, (.v .bool)), (7, (.v (.int .i64))), (8, (.v (.int .i64))), (9, (.v (.int .i64)))] 0 (fun k x kn kx kr => s_l08Name_j7 K k x.1 x.2.1 x.2.2.1 x.2.2.2.1 x.2.2.2.2.1 x.2.2.2.2.2.1 x.2.2.2.2.2.2.1 x.2.2.2.2.2.2.2.1 (fun z0 z1 z2 z3 z4 z5 z6 z7 => kn (z0, z1, z2, z3, z4, z5, z6, z7, ()))),
  .J 8 [(0, (.v (.sl tq0))), (3, (.v (.int .i64))), (4, (.v .bool)), (5, (.v .bool)), (6, (.v .bool)), (7, (.v (.int .i64))), (8, (.v (.int .i64))), (9, (.v (.int .i64)))] [(0, (.v (.sl tq0))), (3, (.v (.int .i64))), (4, (.v .bool)), (5, (.v .bool)), (6, (.v .bool)), (7, (.v (.int .i64))), (8, (.v (.int .i64))), (9, (.v (.int .i64)))] 0 (fun k x kn kx kr => s_l08Name_j8 K k x.1 x.2.1 x.2.2.1 x.2.2.2.1 x.2.2.2.2.1 x.2.2.2.2.2.1 x.2.2.2.2.2.2.1 x.2.2.2.2.2.2.2.1 (fun z0 z1 z2 z3 z4 z5 z6 z7 => kn (z0, z1, z2, z3, z4, z5, z6, z7, ()))),
  .J 9 [(0, (.v (.sl tq0))), (3, (.v (.int .i64))), (4, (.v .bool)), (5, (.v .bool)), (6, (.v .bool)), (7, (.v (.int .i64))), (8, (.v (.int .i64))), (9, (.v (.int .i64)))] [(0, (.v (.sl tq0))), (3, (.v (.int .i64))), (4, (.v .bool)), (5, (.v .bool)), (6, (.v .bool)), (7, (.v (.int .i64))), (8, (.v (.int .i64))), (9, (.v (.int .i64)))] 0 (fun k x kn kx kr => s_l08Name_j9 K k x.1 x.2.1 x.2.2.1 x.2.2.2.1 x.2.2.2.2.1 x.2.2.2.2.2.1 x.2.2.2.2.2.2.1 x.2.2.2.2.2.2.2.1 (fun z0 z1 z2 z3 z4 z5 z6 z7 => kn (z0, z1, z2, z3, z4, z5, z6, z7, ()))),
  .J 5 [(0, (.v (.sl tq0))), (3, (.v (.int .i64))), (4, (.v .bool)), (5, (.v .bool)), (6, (.v .bool)), (7, (.v (.int .i64))), (8, (.v (.int .i64))), (9, (.v (.int .i64)))] [(0, (.v (.sl tq0))), (3, (.v (.int .i64))), (4, (.v .bool)), (5, (.v .bool)), (6, (.v .bool)), (7, (.v (.int .i64))), (8, (.v (.int .i64))), (9, (.v (.int .i64)))] 0 (fun k x kn kx kr => s_l08Name_j5 K k x.1 x.2.1 x.2.2.1 x.2.2.2.1 x.2.2.2.2.1 x.2.2.2.2.2.1 x.2.2.2.2.2.2.1 x.2.2.2.2.2.2.2.1 (fun z0 z1 z2 z3 z4 z5 z6 z7 => kn (z0, z1, z2, z3, z4, z5, z6, z7, ()))),
  .J 14 [(3, (.v (.int .i64))), (4, (.v .bool)), (5, (.v .bool)), (6, (.v .bool)), (7, (.v (.int .i64))), (8, (.v (.int .i64))), (10, (.v .bool)), (11, (.v .bool)), (12, (.v .bool))] [(3, (.v (.int .i64)))] K (fun k x kn kx kr => s_l08Name_j14 K k x.1 x.2.1 x.2.2.1 x.2.2.2.1 x.2.2.2.2.1 x.2.2.2.2.2.1 x.2.2.2.2.2.2.1 x.2.2.2.2.2.2.2.1 x.2.2.2.2.2.2.2.2.1 (fun z0 => kn (z0, ())) (fun z0 => kr (mkSt rv_s_l08Name (z0, ())))),
  .J 16 [(3, (.v (.int .i64))), (4, (.v .bool)), (5, (.v .bool)), (6, (.v .bool)), (7, (.v (.int .i64))), (8, (.v (.int .i64))), (10, (.v .bool)), (11, (.v .bool)), (12, (.v .bool))] [(3, (.v (.int .i64)))] K (fun k x kn kx kr => s_l08Name_j16 K k x.1 x.2.1 x.2.2.1 x.2.2.2.1 x.2.2.2.2.1 x.2.2.2.2.2.1 x.2.2.2.2.2.2.1 x.2.2.2.2.2.2.2.1 x.2.2.2.2.2.2.2.2.1 (fun z0 => kn (z0, ())) (fun z0 => kr (mkSt rv_s_l08Name (z0, ())))),
  .J 24 [(3, (.v (.int .i64))), (7, (.v (.int .i64))), (8, (.v (.int .i64))), (10, (.v .bool)), (11, (.v .bool)), (12, (.v .bool))] [(3, (.v (.int .i64)))] K (fun k x kn kx kr => s_l08Name_j24 K k x.1 x.2.1 x.2.2.1 x.2.2.2.1 x.2.2.2.2.1 x.2.2.2.2.2.1 (fun z0 => kn (z0, ())) (fun z0 => kr (mkSt rv_s_l08Name (z0, ())))),
  .J 26 [(3, (.v (.int .i64))), (7, (.v (.int .i64))), (8, (.v (.int .i64))), (10, (.v .bool)), (11, (.v .bool)), (12, (.v .bool))] [(3, (.v (.int .i64)))] K (fun k x kn kx kr => s_l08Name_j26 K k x.1 x.2.1 x.2.2.1 x.2.2.2.1 x.2.2.2.2.1 x.2.2.2.2.2.1 (fun z0 => kn (z0, ())) (fun z0 => kr (mkSt rv_s_l08Name (z0, ())))),
  .J 30 [(3, (.v (.int .i64))), (7, (.v (.int .i64))), (8, (.v (.int .i64))), (10, (.v .bool)), (11, (.v .bool))] [(3, (.v (.int .i64)))] K (fun k x kn kx kr => s_l08Name_j30 K k x.1 x.2.1 x.2.2.1 x.2.2.2.1 x.2.2.2.2.1 (fun z0 => kn (z0, ())) (fun z0 => kr (mkSt rv_s_l08Name (z0, ())))),
  .J 32 [(3, (.v (.int .i64))), (7, (.v (.int .i64))), (8, (.v (.int .i64))), (10, (.v .bool)), (11, (.v .bool))] [(3, (.v (.int .i64)))] K (fun k x kn kx kr => s_l08Name_j32 K k x.1 x.2.1 x.2.2.1 x.2.2.2.1 x.2.2.2.2.1 (fun z0 => kn (z0, ())) (fun z0 => kr (mkSt rv_s_l08Name (z0, ())))),
  .J 40 [(3, (.v (.int .i64)))] [] 0 (fun k x kn kx kr => s_l08Name_j40 K k x.1 (kn ()) (fun z0 => kr (mkSt rv_s_l08Name (z0, ()))))]
theorem ok_s_l08Name (K : Nat) : FnOk Tryz.prog 15 (sp_s_l08Name (s_l08Name K)) :=
  fn_okD tysOk [C_s_l02Classes K, C_s_l02Whole K, C_s_l01Essential K, C_s_l08Joined K, C_s_l08Degree K, C_s_l08Four K, C_s_l08Degrees K, C_s_l08Kind K] 0 (D_s_l08Name K) [(0, X0_s_l08Name)] rv_s_l08Name K Tryz.func15 (by kernel_rfl) ⟨⟨fun _ _ _ _ => by kernel_rfl, fun _ _ _ => rfl⟩, ⟨fun _ _ _ _ _ => by kernel_rfl, ⟨fun _ _ _ _ _ => by kernel_rfl, ⟨fun _ _ _ _ _ => by kernel_rfl, ⟨fun _ _ _ _ _ => by kernel_rfl, ⟨fun _ _ _ _ _ => by kernel_rfl, ⟨fun _ _ _ _ _ => by kernel_rfl, ⟨fun _ _ _ _ _ => by kernel_rfl, ⟨fun _ _ _ _ _ => by kernel_rfl, ⟨fun _ _ _ _ _ => by kernel_rfl, ⟨fun _ _ _ _ _ => by kernel_rfl, ⟨fun _ _ _ _ _ => by kernel_rfl, trivial⟩⟩⟩⟩⟩⟩⟩⟩⟩⟩⟩⟩ (fun _ => by kernel_rfl)
noncomputable def C_s_l08Name (K : Nat) : CB Tryz.prog := .f _ _ (ok_s_l08Name K)
noncomputable def as_s_l08In : Ty := (.pair tq0 (.pair .str .unit))
noncomputable def sp_s_l08In (F : (dq0 × ByteArray × Unit) → Option Bool) : FnSpec := ⟨as_s_l08In, [false, false], .bool, F⟩
noncomputable def s_l08In (K : Nat) (x : (dq0 × ByteArray × Unit)) : Option Bool :=
    (s_l08Generators K (x.2.1, ())).bind fun y1 =>
    (if (decide (y1.1.length + ([x.1]).length ≤ lim)) = true then
    let l2 := (y1.1 ++ [x.1])
    (s_l08Name K (l2, ())).bind fun y3 =>
    some (cmpS .eql y3 x.2.1)
    else
    none)
noncomputable def rv_s_l08In : Lv := [(4, (.v .bool))]
theorem ok_s_l08In (K : Nat) : FnOk Tryz.prog 19 (sp_s_l08In (s_l08In K)) :=
  fn_okD tysOk [C_s_l08Generators K, C_s_l08Name K] 0 [] [] rv_s_l08In K Tryz.func19 (by kernel_rfl) trivial (fun _ => by kernel_rfl)
noncomputable def C_s_l08In (K : Nat) : CB Tryz.prog := .f _ _ (ok_s_l08In K)
noncomputable def as_s_l01In : Ty := (.pair (.int .i64) (.pair (.int .i64) (.pair (.int .i64) .unit)))
noncomputable def sp_s_l01In (F : (Int × Int × Int × Unit) → Option Bool) : FnSpec := ⟨as_s_l01In, [false, false, false], .bool, F⟩
noncomputable def s_l01In (K : Nat) (x : (Int × Int × Int × Unit)) : Option Bool :=
    (if (decide (x.1 ≥ x.2.1)) = true then
    some (decide (x.1 ≤ x.2.2.1))
    else
    some false)
noncomputable def rv_s_l01In : Lv := [(6, (.v .bool))]
theorem ok_s_l01In (K : Nat) : FnOk Tryz.prog 61 (sp_s_l01In (s_l01In K)) :=
  fn_okD tysOk [] 0 [] [] rv_s_l01In K Tryz.func61 (by kernel_rfl) trivial (fun _ => by kernel_rfl)
noncomputable def C_s_l01In (K : Nat) : CB Tryz.prog := .f _ _ (ok_s_l01In K)
noncomputable def as_s_l01Is : Ty := (.pair tq0 .unit)
noncomputable def sp_s_l01Is (F : (dq0 × Unit) → Option Bool) : FnSpec := ⟨as_s_l01Is, [false], .bool, F⟩
noncomputable def s_l01Is (K : Nat) (x : (dq0 × Unit)) : Option Bool :=
    (s_l01In K (x.1.1, (0 : Int), (4 : Int), ())).bind fun y1 =>
    (if y1 = true then
    (s_l01All K (x.1.1, ())).bind fun y2 =>
    (s_l01In K (x.1.2.1, (0 : Int), y2, ())).bind fun y3 =>
    some y3
    else
    some false)
noncomputable def rv_s_l01Is : Lv := [(2, (.v .bool))]
theorem ok_s_l01Is (K : Nat) : FnOk Tryz.prog 23 (sp_s_l01Is (s_l01Is K)) :=
  fn_okD tysOk [C_s_l01In K, C_s_l01All K] 0 [] [] rv_s_l01Is K Tryz.func23 (by kernel_rfl) trivial (fun _ => by kernel_rfl)
noncomputable def C_s_l01Is (K : Nat) : CB Tryz.prog := .f _ _ (ok_s_l01Is K)
noncomputable def as_s_IsInNamed : Ty := (.pair tq0 (.pair .str .unit))
noncomputable def sp_s_IsInNamed (F : (dq0 × ByteArray × Unit) → Option (Bool × Int × Unit)) : FnSpec := ⟨as_s_IsInNamed, [false, false], (.tup (.pair .bool (.pair (.int .i64) .unit))), F⟩
noncomputable def s_IsInNamed (K : Nat) (x : (dq0 × ByteArray × Unit)) : Option (Bool × Int × Unit) :=
    (s_l01Is K (x.1, ())).bind fun y1 =>
    (if (!y1) = true then
    some (false, (1 : Int), ())
    else
    (s_l08Generators K (x.2.1, ())).bind fun y2 =>
    (if (!y2.2.1) = true then
    some (false, (6 : Int), ())
    else
    (s_l08In K (x.1, x.2.1, ())).bind fun y3 =>
    some (y3, (0 : Int), ())))
noncomputable def rv_s_IsInNamed : Lv := [(4, (.v .bool)), (5, (.v (.int .i64)))]
theorem ok_s_IsInNamed (K : Nat) : FnOk Tryz.prog 10 (sp_s_IsInNamed (s_IsInNamed K)) :=
  fn_okD tysOk [C_s_l08Generators K, C_s_l08In K, C_s_l01Is K] 0 [] [] rv_s_IsInNamed K Tryz.func10 (by kernel_rfl) trivial (fun _ => by kernel_rfl)
noncomputable def C_s_IsInNamed (K : Nat) : CB Tryz.prog := .f _ _ (ok_s_IsInNamed K)
noncomputable def as_w_toFunc : Ty := (.pair tq0 .unit)
noncomputable def sp_w_toFunc (F : (dq0 × Unit) → Option dq0) : FnSpec := ⟨as_w_toFunc, [false], tq0, F⟩
noncomputable def w_toFunc (K : Nat) (x : (dq0 × Unit)) : Option dq0 :=
    some ((x.1.1, ((0 : Int), (0 : Int), ()).2.1, ()).1, x.1.2.1, ())
noncomputable def rv_w_toFunc : Lv := [(2, (.bx (.v tq0)))]
theorem ok_w_toFunc (K : Nat) : FnOk Tryz.prog 11 (sp_w_toFunc (w_toFunc K)) :=
  fn_okD tysOk [] 0 [] [] rv_w_toFunc K Tryz.func11 (by kernel_rfl) trivial (fun _ => by kernel_rfl)
noncomputable def C_w_toFunc (K : Nat) : CB Tryz.prog := .f _ _ (ok_w_toFunc K)
noncomputable def as_w_FnExactIsInNamed : Ty := (.pair tq0 (.pair .str .unit))
noncomputable def sp_w_FnExactIsInNamed (F : (dq0 × ByteArray × Unit) → Option Bool) : FnSpec := ⟨as_w_FnExactIsInNamed, [false, false], .bool, F⟩
noncomputable def w_FnExactIsInNamed (K : Nat) (x : (dq0 × ByteArray × Unit)) : Option Bool :=
    (if (decide ((x.2.1.size : Int) > (1048576 : Int))) = true then
    some true
    else
    (w_toFunc K (x.1, ())).bind fun y1 =>
    (s_IsInNamed K (y1, x.2.1, ())).bind fun y2 =>
    (w_toFunc K (x.1, ())).bind fun y3 =>
    (i_IsInNamed K (y3, x.2.1, ())).bind fun y4 =>
    (if (!(y4.1 == y2.1)) = true then
    some false
    else
    (if (!decide (y4.2.1 = y2.2.1)) = true then
    some false
    else
    some true)))
noncomputable def rv_w_FnExactIsInNamed : Lv := [(4, (.v .bool))]
theorem ok_w_FnExactIsInNamed (K : Nat) : FnOk Tryz.prog 5 (sp_w_FnExactIsInNamed (w_FnExactIsInNamed K)) :=
  fn_okD tysOk [C_s_IsInNamed K, C_w_toFunc K, C_i_IsInNamed K] 0 [] [] rv_w_FnExactIsInNamed K Tryz.func5 (by kernel_rfl) trivial (fun _ => by kernel_rfl)
noncomputable def C_w_FnExactIsInNamed (K : Nat) : CB Tryz.prog := .f _ _ (ok_w_FnExactIsInNamed K)
end Go.Proofs.YtfmenkglnkenpaaGreatDoor.E
