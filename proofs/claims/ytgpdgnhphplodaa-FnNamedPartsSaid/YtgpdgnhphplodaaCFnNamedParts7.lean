/-
  What the Go functions that FnNamedParts reaches hand back, each as a plain function with a proof that the call does so, and plain lemmas on them. Conditions: those of each theorem.
-/
import Derived.Test.YtgpdgnhphplodaaCFnNamedParts6
namespace Go.Proofs.Ytgpdgnhphplodaa.E
open Go Go.Proofs Go.Proofs.Ytgpdgnhphplodaa Go.RowKit Go.Maps Go.Sort
set_option maxRecDepth 100000
set_option linter.unusedVariables false
def allT : List (List UInt8) := [[66, 70], [68], [68, 49], [68, 50], [69], [69, 48], [69, 49], [69, 50], [73], [73, 48], [73, 49], [73, 50], [76], [76, 48], [76, 49], [76, 50], [76, 51], [77], [77, 48], [77, 49], [77, 50], [78], [78, 50], [82, 48], [82, 49], [82, 50], [83, 48], [83, 48, 48], [83, 48, 48, 94, 50], [83, 48, 48, 94, 51], [83, 48, 49], [83, 48, 49, 94, 50], [83, 48, 49, 94, 51], [83, 48, 50], [83, 48, 50, 94, 50], [83, 48, 50, 94, 51], [83, 48, 94, 50], [83, 48, 94, 51], [83, 49], [83, 49, 48], [83, 49, 48, 94, 50], [83, 49, 48, 94, 51], [83, 49, 49], [83, 49, 49, 94, 50], [83, 49, 49, 94, 51], [83, 49, 50], [83, 49, 50, 94, 50], [83, 49, 50, 94, 51], [83, 49, 94, 50], [83, 49, 94, 51], [86], [86, 48], [86, 49], [86, 50]]
theorem allT_eq : (keysT ++ moreT).mergeSort leB = allT :=
  (mergeSort_of_perm (by decide +kernel : (keysT ++ moreT).Perm allT)).trans (List.mergeSort_of_pairwise (by decide +kernel))
def allNames : List ByteArray := [(⟨#[66, 70]⟩ : ByteArray), (⟨#[68]⟩ : ByteArray), (⟨#[68, 49]⟩ : ByteArray), (⟨#[68, 50]⟩ : ByteArray), (⟨#[69]⟩ : ByteArray), (⟨#[69, 48]⟩ : ByteArray), (⟨#[69, 49]⟩ : ByteArray), (⟨#[69, 50]⟩ : ByteArray), (⟨#[73]⟩ : ByteArray), (⟨#[73, 48]⟩ : ByteArray), (⟨#[73, 49]⟩ : ByteArray), (⟨#[73, 50]⟩ : ByteArray), (⟨#[76]⟩ : ByteArray), (⟨#[76, 48]⟩ : ByteArray), (⟨#[76, 49]⟩ : ByteArray), (⟨#[76, 50]⟩ : ByteArray), (⟨#[76, 51]⟩ : ByteArray), (⟨#[77]⟩ : ByteArray), (⟨#[77, 48]⟩ : ByteArray), (⟨#[77, 49]⟩ : ByteArray), (⟨#[77, 50]⟩ : ByteArray), (⟨#[78]⟩ : ByteArray), (⟨#[78, 50]⟩ : ByteArray), (⟨#[82, 48]⟩ : ByteArray), (⟨#[82, 49]⟩ : ByteArray), (⟨#[82, 50]⟩ : ByteArray), (⟨#[83, 48]⟩ : ByteArray), (⟨#[83, 48, 48]⟩ : ByteArray), (⟨#[83, 48, 48, 94, 50]⟩ : ByteArray), (⟨#[83, 48, 48, 94, 51]⟩ : ByteArray), (⟨#[83, 48, 49]⟩ : ByteArray), (⟨#[83, 48, 49, 94, 50]⟩ : ByteArray), (⟨#[83, 48, 49, 94, 51]⟩ : ByteArray), (⟨#[83, 48, 50]⟩ : ByteArray), (⟨#[83, 48, 50, 94, 50]⟩ : ByteArray), (⟨#[83, 48, 50, 94, 51]⟩ : ByteArray), (⟨#[83, 48, 94, 50]⟩ : ByteArray), (⟨#[83, 48, 94, 51]⟩ : ByteArray), (⟨#[83, 49]⟩ : ByteArray), (⟨#[83, 49, 48]⟩ : ByteArray), (⟨#[83, 49, 48, 94, 50]⟩ : ByteArray), (⟨#[83, 49, 48, 94, 51]⟩ : ByteArray), (⟨#[83, 49, 49]⟩ : ByteArray), (⟨#[83, 49, 49, 94, 50]⟩ : ByteArray), (⟨#[83, 49, 49, 94, 51]⟩ : ByteArray), (⟨#[83, 49, 50]⟩ : ByteArray), (⟨#[83, 49, 50, 94, 50]⟩ : ByteArray), (⟨#[83, 49, 50, 94, 51]⟩ : ByteArray), (⟨#[83, 49, 94, 50]⟩ : ByteArray), (⟨#[83, 49, 94, 51]⟩ : ByteArray), (⟨#[86]⟩ : ByteArray), (⟨#[86, 48]⟩ : ByteArray), (⟨#[86, 49]⟩ : ByteArray), (⟨#[86, 50]⟩ : ByteArray)]
theorem allNames_eq : allNames.map Value.string = allT.map encStr := by kernel_rfl
theorem names_ok : FnOk Try.prog 6 ⟨.unit, [], .sl .str, fun _ => some allNames⟩ := by
  refine ⟨fun _ => ?_, fun h => by cases h⟩
  intro w vs x y hx hy
  have hv : vs = [] := hx
  subst hv
  have hy : some allNames = some y := hy
  cases hy
  refine cf_of_calls Try.func6 (c := bodyOf Try.f6) (by kernel_rfl) (by kernel_rfl) ?_
  refine (cn_test w).mono ?_
  rintro e w' ⟨v, rfl, g, cap, n, rfl, hown, hbel⟩
  rw [allT_eq, ← allNames_eq] at hown
  refine ⟨_, rfl, ?_⟩
  obtain ⟨ho1, ho2⟩ := hown
  have hn : n = 54 := by
    have h : (allNames.map Value.string).length = n * 1 := ho1
    have h2 : (allNames.map Value.string).length = 54 := by kernel_rfl
    omega
  subst hn
  rcases ho2 with ⟨h, _⟩ | ⟨g', cap', cur, h, hg, hcur, hle, hmx, hcs, htk⟩
  · cases h
  cases h
  refine ⟨[g], ⟨_, rfl, .inr ⟨g, 0, 54, cap, cur, _, List.replicate 54 [], rfl, ?_, rfl, hcur, hle, ?_, by simp, fun j y bi hy hbi => ?_⟩⟩, by simp, fun b hb => ?_, hbel⟩
  · congr 1
  · show 0 + cap * 1 ≤ cur.size
    omega
  · have hbi' : bi = [] := List.eq_of_mem_replicate (List.mem_of_getElem? hbi)
    subst hbi'
    have hl : (allNames : List ByteArray).length = 54 := by kernel_rfl
    have hj : j < 54 := by
      have := (List.getElem?_eq_some_iff.1 hy).1
      omega
    have e1 : cur.toList[j]? = some (.string y) := by
      have h := congrArg (·[j]?) htk
      simp only [List.getElem?_take, List.getElem?_map] at h
      rw [if_pos (by omega)] at h
      rw [h]
      have hy : allNames[j]? = some y := hy
      rw [hy]; rfl
    have hs : (Ty.str).sz = 1 := rfl
    rw [hs, Nat.mul_one, Nat.zero_add, seg_one e1]
    exact ⟨rfl, rfl⟩
  · simp only [List.mem_singleton] at hb; subst hb
    exact ⟨hg, (Array.getElem?_eq_some_iff.1 hcur).1⟩
end Go.Proofs.Ytgpdgnhphplodaa.E
namespace Go.Proofs.Ytgpdgnhphplodaa.E
open Go Go.Proofs Go.Proofs.Ytgpdgnhphplodaa
set_option maxRecDepth 100000
set_option linter.unusedVariables false
noncomputable def as_i_CloneNames : Ty := .unit
noncomputable def sp_i_CloneNames (F : Unit → Option (List ByteArray)) : FnSpec := ⟨as_i_CloneNames, [], (.sl .str), F⟩
noncomputable def i_CloneNames (K : Nat) (x : Unit) : Option (List ByteArray) := some allNames
theorem ok_i_CloneNames (K : Nat) : FnOk Try.prog 6 (sp_i_CloneNames (i_CloneNames K)) := names_ok
noncomputable def as_w_big : Ty := (.pair (.sl (.int .u8)) .unit)
noncomputable def sp_w_big (F : ((List Int) × Unit) → Option Bool) : FnSpec := ⟨as_w_big, [false], .bool, F⟩
noncomputable def w_big (K : Nat) (x : ((List Int) × Unit)) : Option Bool :=
    some (decide ((x.1.length : Int) > (4096 : Int)))
noncomputable def rv_w_big : Lv := [(2, (.v .bool))]
noncomputable def sg_w_big {R : Type} (K : Nat) (k : Nat) : List (Nat × SegS R) := []
noncomputable def su_w_big : List (Nat × Unit) := []
noncomputable def en_w_big {R : Type} (K : Nat) (k : Nat) : Env R := { L := lk [], X := lk [], S := lk (sg_w_big K k), rv := rv_w_big }
noncomputable def cf_w_big (K : Nat) : Cfg := { ty := lk tys, fn := lk [], fs := lk [], prot := 0, nt := Try.f10.ntmps }
theorem e_w_big (K : Nat) (x : den as_w_big) : w_big K x = evFn (cf_w_big K) as_w_big [false] .bool (en_w_big K K) Try.f10.results.toList (bodyOf Try.f10) x := by kernel_rfl
theorem ok_w_big (K : Nat) : FnOk Try.prog 10 (sp_w_big (w_big K)) :=
  fn_ok (cf := cf_w_big K) (en := en_w_big K K) (c := bodyOf Try.f10) Try.func10 (by kernel_rfl) (by kernel_rfl) tysOk (fns_ok (l := []) trivial) (shs_ok (l := []) trivial) (by kernel_rfl) rfl (Nat.le_of_ble_eq_true (by kernel_rfl)) (by kernel_rfl) (of_decide_eq_true (by kernel_rfl)) (by decide) (fun C hP O => lpOk_of (en := en_w_big K K) (S := hasK su_w_big) (fun i => hasK_lk (sg_w_big K K) i) _ (by rw [show partsOf (hasK su_w_big) (bodyOf Try.f10) = [] from by kernel_rfl]; exact trivial)) (fun x y h => by rw [← e_w_big]; exact h)
noncomputable def as_s_l08Base : Ty := (.pair .str .unit)
noncomputable def sp_s_l08Base (F : (ByteArray × Unit) → Option ((List (Int × Int × Unit)) × Bool × Unit)) : FnSpec := ⟨as_s_l08Base, [false], (.tup (.pair (.sl (.st (.pair (.int .i64) (.pair (.int .i64) .unit)))) (.pair .bool .unit))), F⟩
noncomputable def s_l08Base_j69 {R : Type} (K : Nat) (k : Nat) (v0 : ByteArray) (v4 : (Int × Int × Unit)) (v5 : (Int × Int × Unit)) (v15 : (List (Int × Int × Unit))) (kn : Option R) (kr : ((List (Int × Int × Unit)) → Bool → Option R)) : Option R :=
    (if (decide (0 ≤ (1 : Int)) && decide ((1 : Int) ≤ (v0.size : Int)) && decide ((v0.size : Int) ≤ (v0.size : Int))) = true then
    let x33 := (cmpS .eql (v0.extract (1 : Int).toNat (v0.size : Int).toNat) (⟨#[]⟩ : ByteArray))
    (if x33 = true then
    let l34 := [v4, v5]
    (if (decide (v15.length + l34.length ≤ lim)) = true then
    let l35 := (v15 ++ l34)
    kr l35 true
    else
    none)
    else
    let x36 := (cmpS .eql (v0.extract (1 : Int).toNat (v0.size : Int).toNat) (⟨#[48]⟩ : ByteArray))
    (if x36 = true then
    (if (decide (v15.length + ([v4]).length ≤ lim)) = true then
    let l37 := (v15 ++ [v4])
    kr l37 true
    else
    none)
    else
    let x38 := (cmpS .eql (v0.extract (1 : Int).toNat (v0.size : Int).toNat) (⟨#[49]⟩ : ByteArray))
    (if x38 = true then
    (if (decide (v15.length + ([v5]).length ≤ lim)) = true then
    let l39 := (v15 ++ [v5])
    kr l39 true
    else
    none)
    else
    let x40 := (cmpS .eql (v0.extract (1 : Int).toNat (v0.size : Int).toNat) (⟨#[50]⟩ : ByteArray))
    (if x40 = true then
    kr v15 true
    else
    kr ([] : List (Int × Int × Unit)) false))))
    else
    none)
noncomputable def s_l08Base_j61 {R : Type} (K : Nat) (k : Nat) (v0 : ByteArray) (v4 : (Int × Int × Unit)) (v5 : (Int × Int × Unit)) (v6 : (Int × Int × Unit)) (v7 : (Int × Int × Unit)) (v11 : (Int × Int × Unit)) (kn : Option R) (kr : ((List (Int × Int × Unit)) → Bool → Option R)) : Option R :=
    (if (bnds (0 : Int) (v0.size : Int)) = true then
    (if (decide ((byteAt v0 (0 : Int)) = (69 : Int))) = true then
    s_l08Base_j69 K k v0 v4 v5 ([v6]) none (fun z41 z42 =>
    kr z41 z42)
    else
    (if (decide ((byteAt v0 (0 : Int)) = (73 : Int))) = true then
    s_l08Base_j69 K k v0 v4 v5 ([v11]) none (fun z43 z44 =>
    kr z43 z44)
    else
    (if (decide ((byteAt v0 (0 : Int)) = (86 : Int))) = true then
    s_l08Base_j69 K k v0 v4 v5 ([v7]) none (fun z45 z46 =>
    kr z45 z46)
    else
    kr ([] : List (Int × Int × Unit)) false)))
    else
    none)
noncomputable def s_l08Base (K : Nat) (x : (ByteArray × Unit)) : Option ((List (Int × Int × Unit)) × Bool × Unit) :=
    let x1 := (((0 : Int), ((0 : Int), (0 : Int), ()).2.1, ()).1, (0 : Int), ())
    let x2 := (((0 : Int), ((0 : Int), (0 : Int), ()).2.1, ()).1, (1 : Int), ())
    let x3 := (((2 : Int), ((0 : Int), (0 : Int), ()).2.1, ()).1, (8 : Int), ())
    let x4 := (((2 : Int), ((0 : Int), (0 : Int), ()).2.1, ()).1, (14 : Int), ())
    let x5 := (((2 : Int), ((0 : Int), (0 : Int), ()).2.1, ()).1, (6 : Int), ())
    let x6 := (((2 : Int), ((0 : Int), (0 : Int), ()).2.1, ()).1, (9 : Int), ())
    let x7 := (((1 : Int), ((0 : Int), (0 : Int), ()).2.1, ()).1, (1 : Int), ())
    let x8 := (((1 : Int), ((0 : Int), (0 : Int), ()).2.1, ()).1, (2 : Int), ())
    let x9 := (((3 : Int), ((0 : Int), (0 : Int), ()).2.1, ()).1, (234 : Int), ())
    let x10 := (((3 : Int), ((0 : Int), (0 : Int), ()).2.1, ()).1, (168 : Int), ())
    let x11 := (((3 : Int), ((0 : Int), (0 : Int), ()).2.1, ()).1, (174 : Int), ())
    (if (cmpS .eql x.1 (⟨#[66, 70]⟩ : ByteArray)) = true then
    let l12 := [x3, x7]
    some (l12, true, ())
    else
    (if (cmpS .eql x.1 (⟨#[82, 48]⟩ : ByteArray)) = true then
    let l13 := [x3, x5]
    some (l13, true, ())
    else
    (if (cmpS .eql x.1 (⟨#[82, 49]⟩ : ByteArray)) = true then
    let l14 := [x4, x6]
    some (l14, true, ())
    else
    (if (cmpS .eql x.1 (⟨#[82, 50]⟩ : ByteArray)) = true then
    let x15 := (((3 : Int), ((0 : Int), (0 : Int), ()).2.1, ()).1, (130 : Int), ())
    let l16 := [x4, x15]
    some (l16, true, ())
    else
    (if (cmpS .eql x.1 (⟨#[77]⟩ : ByteArray)) = true then
    let l17 := [x4, x3, x1, x2]
    some (l17, true, ())
    else
    (if (cmpS .eql x.1 (⟨#[77, 48]⟩ : ByteArray)) = true then
    let l18 := [x4, x3, x1]
    some (l18, true, ())
    else
    (if (cmpS .eql x.1 (⟨#[77, 49]⟩ : ByteArray)) = true then
    let l19 := [x4, x3, x2]
    some (l19, true, ())
    else
    (if (cmpS .eql x.1 (⟨#[77, 50]⟩ : ByteArray)) = true then
    let l20 := [x4, x3]
    some (l20, true, ())
    else
    (if (cmpS .eql x.1 (⟨#[68]⟩ : ByteArray)) = true then
    let x21 := (((3 : Int), ((0 : Int), (0 : Int), ()).2.1, ()).1, (43 : Int), ())
    some ([x21], true, ())
    else
    (if (cmpS .eql x.1 (⟨#[68, 49]⟩ : ByteArray)) = true then
    let x22 := (((3 : Int), ((0 : Int), (0 : Int), ()).2.1, ()).1, (142 : Int), ())
    some ([x22], true, ())
    else
    (if (cmpS .eql x.1 (⟨#[68, 50]⟩ : ByteArray)) = true then
    let x23 := (((3 : Int), ((0 : Int), (0 : Int), ()).2.1, ()).1, (232 : Int), ())
    some ([x23], true, ())
    else
    (if (cmpS .eql x.1 (⟨#[76]⟩ : ByteArray)) = true then
    let l24 := [x5, x2]
    some (l24, true, ())
    else
    (if (cmpS .eql x.1 (⟨#[76, 48]⟩ : ByteArray)) = true then
    some ([x5], true, ())
    else
    (if (cmpS .eql x.1 (⟨#[76, 49]⟩ : ByteArray)) = true then
    some ([x6], true, ())
    else
    (if (cmpS .eql x.1 (⟨#[76, 50]⟩ : ByteArray)) = true then
    let x25 := (((3 : Int), ((0 : Int), (0 : Int), ()).2.1, ()).1, (150 : Int), ())
    some ([x25], true, ())
    else
    (if (cmpS .eql x.1 (⟨#[76, 51]⟩ : ByteArray)) = true then
    let x26 := (((3 : Int), ((0 : Int), (0 : Int), ()).2.1, ()).1, (105 : Int), ())
    some ([x26], true, ())
    else
    (if (cmpS .eql x.1 (⟨#[78]⟩ : ByteArray)) = true then
    let l27 := [x7, x2]
    some (l27, true, ())
    else
    (if (cmpS .eql x.1 (⟨#[78, 50]⟩ : ByteArray)) = true then
    some ([x7], true, ())
    else
    (if (cmpS .eql x.1 (⟨#[83, 48]⟩ : ByteArray)) = true then
    let x28 := (((2 : Int), ((0 : Int), (0 : Int), ()).2.1, ()).1, (13 : Int), ())
    some ([x28], true, ())
    else
    (if (cmpS .eql x.1 (⟨#[83, 48, 50]⟩ : ByteArray)) = true then
    some ([x11], true, ())
    else
    (if (cmpS .eql x.1 (⟨#[83, 48, 48]⟩ : ByteArray)) = true then
    some ([x9], true, ())
    else
    (if (cmpS .eql x.1 (⟨#[83, 48, 49]⟩ : ByteArray)) = true then
    let l29 := [x9, x2]
    some (l29, true, ())
    else
    (if (cmpS .eql x.1 (⟨#[83, 49]⟩ : ByteArray)) = true then
    let x30 := (((2 : Int), ((0 : Int), (0 : Int), ()).2.1, ()).1, (2 : Int), ())
    some ([x30], true, ())
    else
    (if (cmpS .eql x.1 (⟨#[83, 49, 50]⟩ : ByteArray)) = true then
    (s_l01Dual K (x11, ())).bind fun y31 =>
    some ([y31], true, ())
    else
    (if (cmpS .eql x.1 (⟨#[83, 49, 48]⟩ : ByteArray)) = true then
    some ([x10], true, ())
    else
    (if (cmpS .eql x.1 (⟨#[83, 49, 49]⟩ : ByteArray)) = true then
    let l32 := [x10, x1]
    some (l32, true, ())
    else
    (if (decide ((x.1.size : Int) = (0 : Int))) = true then
    some (([] : List (Int × Int × Unit)), false, ())
    else
    (if (decide ((x.1.size : Int) > (2 : Int))) = true then
    some (([] : List (Int × Int × Unit)), false, ())
    else
    s_l08Base_j61 K K x.1 x1 x2 x3 x4 x8 none (fun z47 z48 =>
    some (z47, z48, ()))))))))))))))))))))))))))))))
noncomputable def lv_s_l08Base_J61 : Lv := [(0, (.v .str)), (4, (.bx (.v (.st (.pair (.int .i64) (.pair (.int .i64) .unit)))))), (5, (.bx (.v (.st (.pair (.int .i64) (.pair (.int .i64) .unit)))))), (6, (.bx (.v (.st (.pair (.int .i64) (.pair (.int .i64) .unit)))))), (7, (.bx (.v (.st (.pair (.int .i64) (.pair (.int .i64) .unit)))))), (11, (.bx (.v (.st (.pair (.int .i64) (.pair (.int .i64) .unit))))))]
noncomputable def lv_s_l08Base_J69 : Lv := [(0, (.v .str)), (4, (.bx (.v (.st (.pair (.int .i64) (.pair (.int .i64) .unit)))))), (5, (.bx (.v (.st (.pair (.int .i64) (.pair (.int .i64) .unit)))))), (15, (.r (.st (.pair (.int .i64) (.pair (.int .i64) .unit)))))]
noncomputable def lv_s_l08Base_N61 : Lv := []
noncomputable def lv_s_l08Base_N69 : Lv := []
noncomputable def rv_s_l08Base : Lv := [(2, (.r (.st (.pair (.int .i64) (.pair (.int .i64) .unit))))), (3, (.v .bool))]
noncomputable def gs_l08Base_j69 {R : Type} (K : Nat) (k : Nat) (x : den lv_s_l08Base_J69.ty) (kn : den lv_s_l08Base_N69.ty → Option R) (kx : Nat → St → Option R) (kr : St → Option R) : Option R := s_l08Base_j69 K k x.1 x.2.1 x.2.2.1 x.2.2.2.1 (kn ()) (fun z0 z1 => kr (mkSt rv_s_l08Base (z0, z1, ())))
noncomputable def gs_l08Base_j61 {R : Type} (K : Nat) (k : Nat) (x : den lv_s_l08Base_J61.ty) (kn : den lv_s_l08Base_N61.ty → Option R) (kx : Nat → St → Option R) (kr : St → Option R) : Option R := s_l08Base_j61 K k x.1 x.2.1 x.2.2.1 x.2.2.2.1 x.2.2.2.2.1 x.2.2.2.2.2.1 (kn ()) (fun z0 z1 => kr (mkSt rv_s_l08Base (z0, z1, ())))
noncomputable def sg_s_l08Base {R : Type} (K : Nat) (k : Nat) : List (Nat × SegS R) := [(69, mkSeg lv_s_l08Base_J69 lv_s_l08Base_N69 (gs_l08Base_j69 K k)), (61, mkSeg lv_s_l08Base_J61 lv_s_l08Base_N61 (gs_l08Base_j61 K k))]
noncomputable def su_s_l08Base : List (Nat × Unit) := [(69, ()), (61, ())]
noncomputable def en_s_l08Base {R : Type} (K : Nat) (k : Nat) : Env R := { L := lk [], X := lk [], S := lk (sg_s_l08Base K k), rv := rv_s_l08Base }
noncomputable def cf_s_l08Base (K : Nat) : Cfg := { ty := lk tys, fn := lk [(74, sp_s_l01Dual (s_l01Dual K))], fs := lk [], prot := 0, nt := Try.f88.ntmps }
noncomputable def c_s_l08Base_J61 : Code := nthC (partsOf (hasK su_s_l08Base) (bodyOf Try.f88)) 0
noncomputable def c_s_l08Base_J69 : Code := nthC (partsOf (hasK su_s_l08Base) c_s_l08Base_J61) 0
theorem es_l08Base_j69 {R : Type} (K : Nat) (k : Nat) (x : den lv_s_l08Base_J69.ty) (kn : den lv_s_l08Base_N69.ty → Option R) (kx : Nat → St → Option R) (kr : St → Option R) : gs_l08Base_j69 K k x kn kx kr = evC (cf_s_l08Base K) (en_s_l08Base K k) c_s_l08Base_J69 (mkSt lv_s_l08Base_J69 x) (cutK lv_s_l08Base_N69 kn) kx kr := by kernel_rfl
theorem ss_l08Base_j69 {R : Type} (K : Nat) (C : Cx) (hP : C.P = Try.prog) (O : CfgOk C (cf_s_l08Base K)) (k : Nat) : SgS C (R := R) (mkSeg lv_s_l08Base_J69 lv_s_l08Base_N69 (gs_l08Base_j69 K k)) c_s_l08Base_J69 :=
  seg_sound O (by rw [hP]; kernel_rfl) (es_l08Base_j69 K k) (lpOk_of (en := en_s_l08Base K k) (S := hasK su_s_l08Base) (fun i => hasK_lk (sg_s_l08Base K k) i) _ (by rw [show partsOf (hasK su_s_l08Base) c_s_l08Base_J69 = [] from by kernel_rfl]; exact trivial))
theorem es_l08Base_j61 {R : Type} (K : Nat) (k : Nat) (x : den lv_s_l08Base_J61.ty) (kn : den lv_s_l08Base_N61.ty → Option R) (kx : Nat → St → Option R) (kr : St → Option R) : gs_l08Base_j61 K k x kn kx kr = evC (cf_s_l08Base K) (en_s_l08Base K k) c_s_l08Base_J61 (mkSt lv_s_l08Base_J61 x) (cutK lv_s_l08Base_N61 kn) kx kr := by kernel_rfl
theorem ss_l08Base_j61 {R : Type} (K : Nat) (C : Cx) (hP : C.P = Try.prog) (O : CfgOk C (cf_s_l08Base K)) (k : Nat) : SgS C (R := R) (mkSeg lv_s_l08Base_J61 lv_s_l08Base_N61 (gs_l08Base_j61 K k)) c_s_l08Base_J61 :=
  seg_sound O (by rw [hP]; kernel_rfl) (es_l08Base_j61 K k) (lpOk_of (en := en_s_l08Base K k) (S := hasK su_s_l08Base) (fun i => hasK_lk (sg_s_l08Base K k) i) _ (by rw [show partsOf (hasK su_s_l08Base) c_s_l08Base_J61 = [(false, c_s_l08Base_J69)] from by kernel_rfl]; exact (lpL_seg (f := mkSeg lv_s_l08Base_J69 lv_s_l08Base_N69 (gs_l08Base_j69 K k)) (by kernel_rfl) (ss_l08Base_j69 K C hP O k) trivial)))
theorem e_s_l08Base (K : Nat) (x : den as_s_l08Base) : s_l08Base K x = evFn (cf_s_l08Base K) as_s_l08Base [false] (.tup (.pair (.sl (.st (.pair (.int .i64) (.pair (.int .i64) .unit)))) (.pair .bool .unit))) (en_s_l08Base K K) Try.f88.results.toList (bodyOf Try.f88) x := by kernel_rfl
theorem ok_s_l08Base (K : Nat) : FnOk Try.prog 88 (sp_s_l08Base (s_l08Base K)) :=
  fn_ok (cf := cf_s_l08Base K) (en := en_s_l08Base K K) (c := bodyOf Try.f88) Try.func88 (by kernel_rfl) (by kernel_rfl) tysOk (fns_ok (l := [(74, sp_s_l01Dual (s_l01Dual K))]) ⟨ok_s_l01Dual K, trivial⟩) (shs_ok (l := []) trivial) (by kernel_rfl) rfl (Nat.le_of_ble_eq_true (by kernel_rfl)) (by kernel_rfl) (of_decide_eq_true (by kernel_rfl)) (by decide) (fun C hP O => lpOk_of (en := en_s_l08Base K K) (S := hasK su_s_l08Base) (fun i => hasK_lk (sg_s_l08Base K K) i) _ (by rw [show partsOf (hasK su_s_l08Base) (bodyOf Try.f88) = [(false, c_s_l08Base_J61)] from by kernel_rfl]; exact (lpL_seg (f := mkSeg lv_s_l08Base_J61 lv_s_l08Base_N61 (gs_l08Base_j61 K K)) (by kernel_rfl) (ss_l08Base_j61 K C hP O K) trivial))) (fun x y h => by rw [← e_s_l08Base]; exact h)
noncomputable def as_s_l08Generators : Ty := (.pair .str .unit)
noncomputable def sp_s_l08Generators (F : (ByteArray × Unit) → Option ((List (Int × Int × Unit)) × Bool × Unit)) : FnSpec := ⟨as_s_l08Generators, [false], (.tup (.pair (.sl (.st (.pair (.int .i64) (.pair (.int .i64) .unit)))) (.pair .bool .unit))), F⟩
noncomputable def s_l08Generators_l19 {R : Type} (K : Nat) : Nat → (List (Int × Int × Unit)) → Int → Int → Int → Int → Int → Int → ((List (Int × Int × Unit)) → Int → Int → Int → Int → Int → Option R) → Option R
  | 0, _, _, _, _, _, _, _, _ => none
  | k + 1, v5, v7, v8, v9, v10, v11, v12, kx2 =>
    (if (decide (v12 < v7)) = true then
    (if (decide ((0 : Int) ≤ (IntKind.u64.wrap v12))) = true then
    let x10 := (bitI .and .i64 (shrI .i64 v10 (IntKind.u64.wrap v12)) (1 : Int))
    s_l08Generators_l19 K k v5 v7 v8 v9 v10 (IntKind.i64.wrap (v11 + x10)) (IntKind.i64.wrap (v12 + (1 : Int))) kx2
    else
    none)
    else
    kx2 v5 v7 v8 v9 v10 v11)
noncomputable def s_l08Generators_l15 {R : Type} (K : Nat) : Nat → (List (Int × Int × Unit)) → Int → Int → Int → Int → ((List (Int × Int × Unit)) → Int → Int → Option R) → Option R
  | 0, _, _, _, _, _, _ => none
  | k + 1, v5, v7, v8, v9, v10, kx0 =>
    (s_l01Rows K (v7, ())).bind fun y9 =>
    (if (decide (v10 < y9)) = true then
    s_l08Generators_l19 K k v5 v7 v8 v9 v10 (0 : Int) (0 : Int) (fun z11 z12 z13 z14 z15 z16 =>
    (if (decide (z16 ≥ z13)) = true then
    (if (decide ((0 : Int) ≤ (IntKind.u64.wrap z15))) = true then
    let x17 := (bitI .or .i64 z14 (shlI .i64 (1 : Int) (IntKind.u64.wrap z15)))
    s_l08Generators_l15 K k z11 z12 z13 x17 (IntKind.i64.wrap (z15 + (1 : Int))) kx0
    else
    none)
    else
    s_l08Generators_l15 K k z11 z12 z13 z14 (IntKind.i64.wrap (z15 + (1 : Int))) kx0))
    else
    kx0 v5 v7 v9)
noncomputable def s_l08Generators_j13 {R : Type} (K : Nat) (k : Nat) (v5 : (List (Int × Int × Unit))) (v7 : Int) (v8 : Int) (kn : Option R) (kr : ((List (Int × Int × Unit)) → Bool → Option R)) : Option R :=
    s_l08Generators_l15 K k v5 v7 v8 (0 : Int) (0 : Int) (fun z18 z19 z20 =>
    let l21 := [((z19, ((0 : Int), (0 : Int), ()).2.1, ()).1, z20, ())]
    (if (decide (z18.length + l21.length ≤ lim)) = true then
    let l22 := (z18 ++ l21)
    kr l22 true
    else
    none))
noncomputable def s_l08Generators_j10 {R : Type} (K : Nat) (k : Nat) (v0 : ByteArray) (v5 : (List (Int × Int × Unit))) (v7 : Int) (kn : Option R) (kr : ((List (Int × Int × Unit)) → Bool → Option R)) : Option R :=
    (if (bnds (1 : Int) (v0.size : Int)) = true then
    (if (decide ((byteAt v0 (1 : Int)) = (49 : Int))) = true then
    s_l08Generators_j13 K k v5 v7 (IntKind.i64.wrap (v7 - (1 : Int))) none (fun z23 z24 =>
    kr z23 z24)
    else
    s_l08Generators_j13 K k v5 v7 (2 : Int) none (fun z25 z26 =>
    kr z25 z26))
    else
    none)
noncomputable def s_l08Generators_j8 {R : Type} (K : Nat) (k : Nat) (v0 : ByteArray) (v4 : Int) (v5 : (List (Int × Int × Unit))) (v6 : Bool) (v7 : Int) (kn : Option R) (kr : ((List (Int × Int × Unit)) → Bool → Option R)) : Option R :=
    (if (!v6) = true then
    kr ([] : List (Int × Int × Unit)) false
    else
    (if (bnds (0 : Int) (v0.size : Int)) = true then
    (if (!decide ((byteAt v0 (0 : Int)) = (83 : Int))) = true then
    kr ([] : List (Int × Int × Unit)) false
    else
    (if (bnds (IntKind.i64.wrap (v4 + (1 : Int))) (v0.size : Int)) = true then
    let x7 := (!decide ((byteAt v0 (IntKind.i64.wrap (v4 + (1 : Int)))) = (50 : Int)))
    (if x7 = true then
    (if (bnds (IntKind.i64.wrap (v4 + (1 : Int))) (v0.size : Int)) = true then
    let x8 := (!decide ((byteAt v0 (IntKind.i64.wrap (v4 + (1 : Int)))) = (51 : Int)))
    (if x8 = true then
    kr ([] : List (Int × Int × Unit)) false
    else
    s_l08Generators_j10 K k v0 v5 v7 none (fun z27 z28 =>
    kr z27 z28))
    else
    none)
    else
    s_l08Generators_j10 K k v0 v5 v7 none (fun z29 z30 =>
    kr z29 z30))
    else
    none))
    else
    none))
noncomputable def s_l08Generators_j4 {R : Type} (K : Nat) (k : Nat) (v0 : ByteArray) (v4 : Int) (kn : Option R) (kr : ((List (Int × Int × Unit)) → Bool → Option R)) : Option R :=
    (if (decide (0 ≤ (0 : Int)) && decide ((0 : Int) ≤ v4) && decide (v4 ≤ (v0.size : Int))) = true then
    (s_l08Base K ((v0.extract (0 : Int).toNat v4.toNat), ())).bind fun y5 =>
    (if (bnds (IntKind.i64.wrap (v4 + (1 : Int))) (v0.size : Int)) = true then
    let x6 := (decide ((byteAt v0 (IntKind.i64.wrap (v4 + (1 : Int)))) = (51 : Int)))
    (if x6 = true then
    s_l08Generators_j8 K k v0 v4 y5.1 y5.2.1 (4 : Int) none (fun z31 z32 =>
    kr z31 z32)
    else
    s_l08Generators_j8 K k v0 v4 y5.1 y5.2.1 (3 : Int) none (fun z33 z34 =>
    kr z33 z34))
    else
    none)
    else
    none)
noncomputable def s_l08Generators (K : Nat) (x : (ByteArray × Unit)) : Option ((List (Int × Int × Unit)) × Bool × Unit) :=
    let x1 := (decide ((IntKind.i64.wrap ((x.1.size : Int) - (2 : Int))) < (2 : Int)))
    (if x1 = true then
    (s_l08Base K (x.1, ())).bind fun y2 =>
    some (y2.1, y2.2.1, ())
    else
    (if (bnds (IntKind.i64.wrap ((x.1.size : Int) - (2 : Int))) (x.1.size : Int)) = true then
    let x3 := (byteAt x.1 (IntKind.i64.wrap ((x.1.size : Int) - (2 : Int))))
    (if (!decide (x3 = (94 : Int))) = true then
    (s_l08Base K (x.1, ())).bind fun y4 =>
    some (y4.1, y4.2.1, ())
    else
    s_l08Generators_j4 K K x.1 (IntKind.i64.wrap ((x.1.size : Int) - (2 : Int))) none (fun z35 z36 =>
    some (z35, z36, ())))
    else
    none))
noncomputable def lv_s_l08Generators_J4 : Lv := [(0, (.v .str)), (4, (.v (.int .i64)))]
noncomputable def lv_s_l08Generators_J8 : Lv := [(0, (.v .str)), (4, (.v (.int .i64))), (5, (.r (.st (.pair (.int .i64) (.pair (.int .i64) .unit))))), (6, (.v .bool)), (7, (.v (.int .i64)))]
noncomputable def lv_s_l08Generators_J10 : Lv := [(0, (.v .str)), (5, (.r (.st (.pair (.int .i64) (.pair (.int .i64) .unit))))), (7, (.v (.int .i64)))]
noncomputable def lv_s_l08Generators_J13 : Lv := [(5, (.r (.st (.pair (.int .i64) (.pair (.int .i64) .unit))))), (7, (.v (.int .i64))), (8, (.v (.int .i64)))]
noncomputable def lv_s_l08Generators_L15 : Lv := [(5, (.r (.st (.pair (.int .i64) (.pair (.int .i64) .unit))))), (7, (.v (.int .i64))), (8, (.v (.int .i64))), (9, (.v (.int .i64))), (10, (.v (.int .i64)))]
noncomputable def lv_s_l08Generators_L19 : Lv := [(5, (.r (.st (.pair (.int .i64) (.pair (.int .i64) .unit))))), (7, (.v (.int .i64))), (8, (.v (.int .i64))), (9, (.v (.int .i64))), (10, (.v (.int .i64))), (11, (.v (.int .i64))), (12, (.v (.int .i64)))]
noncomputable def lv_s_l08Generators_N4 : Lv := []
noncomputable def lv_s_l08Generators_N8 : Lv := []
noncomputable def lv_s_l08Generators_N10 : Lv := []
noncomputable def lv_s_l08Generators_N13 : Lv := []
noncomputable def lv_s_l08Generators_X0 : Lv := [(5, (.r (.st (.pair (.int .i64) (.pair (.int .i64) .unit))))), (7, (.v (.int .i64))), (9, (.v (.int .i64)))]
noncomputable def lv_s_l08Generators_X2 : Lv := [(5, (.r (.st (.pair (.int .i64) (.pair (.int .i64) .unit))))), (7, (.v (.int .i64))), (8, (.v (.int .i64))), (9, (.v (.int .i64))), (10, (.v (.int .i64))), (11, (.v (.int .i64)))]
noncomputable def rv_s_l08Generators : Lv := [(2, (.r (.st (.pair (.int .i64) (.pair (.int .i64) .unit))))), (3, (.v .bool))]
noncomputable def gs_l08Generators_l19 {R : Type} (K : Nat) (k : Nat) (x : den lv_s_l08Generators_L19.ty) (kx : Nat → St → Option R) (kr : St → Option R) : Option R := s_l08Generators_l19 K k x.1 x.2.1 x.2.2.1 x.2.2.2.1 x.2.2.2.2.1 x.2.2.2.2.2.1 x.2.2.2.2.2.2.1 (fun z0 z1 z2 z3 z4 z5 => kx 2 (mkSt lv_s_l08Generators_X2 (z0, z1, z2, z3, z4, z5, ())))
noncomputable def gs_l08Generators_l15 {R : Type} (K : Nat) (k : Nat) (x : den lv_s_l08Generators_L15.ty) (kx : Nat → St → Option R) (kr : St → Option R) : Option R := s_l08Generators_l15 K k x.1 x.2.1 x.2.2.1 x.2.2.2.1 x.2.2.2.2.1 (fun z0 z1 z2 => kx 0 (mkSt lv_s_l08Generators_X0 (z0, z1, z2, ())))
noncomputable def gs_l08Generators_j13 {R : Type} (K : Nat) (k : Nat) (x : den lv_s_l08Generators_J13.ty) (kn : den lv_s_l08Generators_N13.ty → Option R) (kx : Nat → St → Option R) (kr : St → Option R) : Option R := s_l08Generators_j13 K k x.1 x.2.1 x.2.2.1 (kn ()) (fun z0 z1 => kr (mkSt rv_s_l08Generators (z0, z1, ())))
noncomputable def gs_l08Generators_j10 {R : Type} (K : Nat) (k : Nat) (x : den lv_s_l08Generators_J10.ty) (kn : den lv_s_l08Generators_N10.ty → Option R) (kx : Nat → St → Option R) (kr : St → Option R) : Option R := s_l08Generators_j10 K k x.1 x.2.1 x.2.2.1 (kn ()) (fun z0 z1 => kr (mkSt rv_s_l08Generators (z0, z1, ())))
noncomputable def gs_l08Generators_j8 {R : Type} (K : Nat) (k : Nat) (x : den lv_s_l08Generators_J8.ty) (kn : den lv_s_l08Generators_N8.ty → Option R) (kx : Nat → St → Option R) (kr : St → Option R) : Option R := s_l08Generators_j8 K k x.1 x.2.1 x.2.2.1 x.2.2.2.1 x.2.2.2.2.1 (kn ()) (fun z0 z1 => kr (mkSt rv_s_l08Generators (z0, z1, ())))
noncomputable def gs_l08Generators_j4 {R : Type} (K : Nat) (k : Nat) (x : den lv_s_l08Generators_J4.ty) (kn : den lv_s_l08Generators_N4.ty → Option R) (kx : Nat → St → Option R) (kr : St → Option R) : Option R := s_l08Generators_j4 K k x.1 x.2.1 (kn ()) (fun z0 z1 => kr (mkSt rv_s_l08Generators (z0, z1, ())))
noncomputable def sg_s_l08Generators {R : Type} (K : Nat) (k : Nat) : List (Nat × SegS R) := [(13, mkSeg lv_s_l08Generators_J13 lv_s_l08Generators_N13 (gs_l08Generators_j13 K k)), (10, mkSeg lv_s_l08Generators_J10 lv_s_l08Generators_N10 (gs_l08Generators_j10 K k)), (8, mkSeg lv_s_l08Generators_J8 lv_s_l08Generators_N8 (gs_l08Generators_j8 K k)), (4, mkSeg lv_s_l08Generators_J4 lv_s_l08Generators_N4 (gs_l08Generators_j4 K k))]
noncomputable def su_s_l08Generators : List (Nat × Unit) := [(13, ()), (10, ()), (8, ()), (4, ())]
noncomputable def en_s_l08Generators {R : Type} (K : Nat) (k : Nat) : Env R := { L := lk [(19, mkLoop lv_s_l08Generators_L19 (gs_l08Generators_l19 K k)), (15, mkLoop lv_s_l08Generators_L15 (gs_l08Generators_l15 K k))], X := lk [(0, lv_s_l08Generators_X0), (2, lv_s_l08Generators_X2)], S := lk (sg_s_l08Generators K k), rv := rv_s_l08Generators }
noncomputable def cf_s_l08Generators (K : Nat) : Cfg := { ty := lk tys, fn := lk [(58, sp_s_l01Rows (s_l01Rows K)), (88, sp_s_l08Base (s_l08Base K))], fs := lk [], prot := 0, nt := Try.f48.ntmps }
noncomputable def c_s_l08Generators_J4 : Code := nthC (partsOf (hasK su_s_l08Generators) (bodyOf Try.f48)) 0
noncomputable def c_s_l08Generators_J8 : Code := nthC (partsOf (hasK su_s_l08Generators) c_s_l08Generators_J4) 0
noncomputable def c_s_l08Generators_J10 : Code := nthC (partsOf (hasK su_s_l08Generators) c_s_l08Generators_J8) 0
noncomputable def c_s_l08Generators_J13 : Code := nthC (partsOf (hasK su_s_l08Generators) c_s_l08Generators_J10) 0
noncomputable def c_s_l08Generators_L15 : Code := nthC (partsOf (hasK su_s_l08Generators) c_s_l08Generators_J13) 0
noncomputable def c_s_l08Generators_L19 : Code := nthC (partsOf (hasK su_s_l08Generators) c_s_l08Generators_L15) 0
theorem es_l08Generators_l19 {R : Type} (K : Nat) (k : Nat) (x : den lv_s_l08Generators_L19.ty) (kx : Nat → St → Option R) (kr : St → Option R) : gs_l08Generators_l19 K (k + 1) x kx kr = evC (cf_s_l08Generators K) (en_s_l08Generators K k) c_s_l08Generators_L19 (mkSt lv_s_l08Generators_L19 x) (fun s => mkLoop lv_s_l08Generators_L19 (gs_l08Generators_l19 K k) s kx kr) kx kr := by kernel_rfl
theorem ss_l08Generators_l19 {R : Type} (K : Nat) (C : Cx) (hP : C.P = Try.prog) (O : CfgOk C (cf_s_l08Generators K)) (k : Nat) : LpS C (R := R) (mkLoop lv_s_l08Generators_L19 (gs_l08Generators_l19 K k)) c_s_l08Generators_L19 :=
  loop_sound O (by rw [hP]; kernel_rfl) (fun x kx kr => rfl) (es_l08Generators_l19 K) (fun k => lpOk_of (en := en_s_l08Generators K k) (S := hasK su_s_l08Generators) (fun i => hasK_lk (sg_s_l08Generators K k) i) _ (by rw [show partsOf (hasK su_s_l08Generators) c_s_l08Generators_L19 = [] from by kernel_rfl]; exact trivial)) k
theorem es_l08Generators_l15 {R : Type} (K : Nat) (k : Nat) (x : den lv_s_l08Generators_L15.ty) (kx : Nat → St → Option R) (kr : St → Option R) : gs_l08Generators_l15 K (k + 1) x kx kr = evC (cf_s_l08Generators K) (en_s_l08Generators K k) c_s_l08Generators_L15 (mkSt lv_s_l08Generators_L15 x) (fun s => mkLoop lv_s_l08Generators_L15 (gs_l08Generators_l15 K k) s kx kr) kx kr := by kernel_rfl
theorem ss_l08Generators_l15 {R : Type} (K : Nat) (C : Cx) (hP : C.P = Try.prog) (O : CfgOk C (cf_s_l08Generators K)) (k : Nat) : LpS C (R := R) (mkLoop lv_s_l08Generators_L15 (gs_l08Generators_l15 K k)) c_s_l08Generators_L15 :=
  loop_sound O (by rw [hP]; kernel_rfl) (fun x kx kr => rfl) (es_l08Generators_l15 K) (fun k => lpOk_of (en := en_s_l08Generators K k) (S := hasK su_s_l08Generators) (fun i => hasK_lk (sg_s_l08Generators K k) i) _ (by rw [show partsOf (hasK su_s_l08Generators) c_s_l08Generators_L15 = [(true, c_s_l08Generators_L19)] from by kernel_rfl]; exact (lpL_loop (f := mkLoop lv_s_l08Generators_L19 (gs_l08Generators_l19 K k)) (by kernel_rfl) (ss_l08Generators_l19 K C hP O k) trivial))) k
theorem es_l08Generators_j13 {R : Type} (K : Nat) (k : Nat) (x : den lv_s_l08Generators_J13.ty) (kn : den lv_s_l08Generators_N13.ty → Option R) (kx : Nat → St → Option R) (kr : St → Option R) : gs_l08Generators_j13 K k x kn kx kr = evC (cf_s_l08Generators K) (en_s_l08Generators K k) c_s_l08Generators_J13 (mkSt lv_s_l08Generators_J13 x) (cutK lv_s_l08Generators_N13 kn) kx kr := by kernel_rfl
theorem ss_l08Generators_j13 {R : Type} (K : Nat) (C : Cx) (hP : C.P = Try.prog) (O : CfgOk C (cf_s_l08Generators K)) (k : Nat) : SgS C (R := R) (mkSeg lv_s_l08Generators_J13 lv_s_l08Generators_N13 (gs_l08Generators_j13 K k)) c_s_l08Generators_J13 :=
  seg_sound O (by rw [hP]; kernel_rfl) (es_l08Generators_j13 K k) (lpOk_of (en := en_s_l08Generators K k) (S := hasK su_s_l08Generators) (fun i => hasK_lk (sg_s_l08Generators K k) i) _ (by rw [show partsOf (hasK su_s_l08Generators) c_s_l08Generators_J13 = [(true, c_s_l08Generators_L15)] from by kernel_rfl]; exact (lpL_loop (f := mkLoop lv_s_l08Generators_L15 (gs_l08Generators_l15 K k)) (by kernel_rfl) (ss_l08Generators_l15 K C hP O k) trivial)))
theorem es_l08Generators_j10 {R : Type} (K : Nat) (k : Nat) (x : den lv_s_l08Generators_J10.ty) (kn : den lv_s_l08Generators_N10.ty → Option R) (kx : Nat → St → Option R) (kr : St → Option R) : gs_l08Generators_j10 K k x kn kx kr = evC (cf_s_l08Generators K) (en_s_l08Generators K k) c_s_l08Generators_J10 (mkSt lv_s_l08Generators_J10 x) (cutK lv_s_l08Generators_N10 kn) kx kr := by kernel_rfl
theorem ss_l08Generators_j10 {R : Type} (K : Nat) (C : Cx) (hP : C.P = Try.prog) (O : CfgOk C (cf_s_l08Generators K)) (k : Nat) : SgS C (R := R) (mkSeg lv_s_l08Generators_J10 lv_s_l08Generators_N10 (gs_l08Generators_j10 K k)) c_s_l08Generators_J10 :=
  seg_sound O (by rw [hP]; kernel_rfl) (es_l08Generators_j10 K k) (lpOk_of (en := en_s_l08Generators K k) (S := hasK su_s_l08Generators) (fun i => hasK_lk (sg_s_l08Generators K k) i) _ (by rw [show partsOf (hasK su_s_l08Generators) c_s_l08Generators_J10 = [(false, c_s_l08Generators_J13)] from by kernel_rfl]; exact (lpL_seg (f := mkSeg lv_s_l08Generators_J13 lv_s_l08Generators_N13 (gs_l08Generators_j13 K k)) (by kernel_rfl) (ss_l08Generators_j13 K C hP O k) trivial)))
theorem es_l08Generators_j8 {R : Type} (K : Nat) (k : Nat) (x : den lv_s_l08Generators_J8.ty) (kn : den lv_s_l08Generators_N8.ty → Option R) (kx : Nat → St → Option R) (kr : St → Option R) : gs_l08Generators_j8 K k x kn kx kr = evC (cf_s_l08Generators K) (en_s_l08Generators K k) c_s_l08Generators_J8 (mkSt lv_s_l08Generators_J8 x) (cutK lv_s_l08Generators_N8 kn) kx kr := by kernel_rfl
theorem ss_l08Generators_j8 {R : Type} (K : Nat) (C : Cx) (hP : C.P = Try.prog) (O : CfgOk C (cf_s_l08Generators K)) (k : Nat) : SgS C (R := R) (mkSeg lv_s_l08Generators_J8 lv_s_l08Generators_N8 (gs_l08Generators_j8 K k)) c_s_l08Generators_J8 :=
  seg_sound O (by rw [hP]; kernel_rfl) (es_l08Generators_j8 K k) (lpOk_of (en := en_s_l08Generators K k) (S := hasK su_s_l08Generators) (fun i => hasK_lk (sg_s_l08Generators K k) i) _ (by rw [show partsOf (hasK su_s_l08Generators) c_s_l08Generators_J8 = [(false, c_s_l08Generators_J10)] from by kernel_rfl]; exact (lpL_seg (f := mkSeg lv_s_l08Generators_J10 lv_s_l08Generators_N10 (gs_l08Generators_j10 K k)) (by kernel_rfl) (ss_l08Generators_j10 K C hP O k) trivial)))
theorem es_l08Generators_j4 {R : Type} (K : Nat) (k : Nat) (x : den lv_s_l08Generators_J4.ty) (kn : den lv_s_l08Generators_N4.ty → Option R) (kx : Nat → St → Option R) (kr : St → Option R) : gs_l08Generators_j4 K k x kn kx kr = evC (cf_s_l08Generators K) (en_s_l08Generators K k) c_s_l08Generators_J4 (mkSt lv_s_l08Generators_J4 x) (cutK lv_s_l08Generators_N4 kn) kx kr := by kernel_rfl
theorem ss_l08Generators_j4 {R : Type} (K : Nat) (C : Cx) (hP : C.P = Try.prog) (O : CfgOk C (cf_s_l08Generators K)) (k : Nat) : SgS C (R := R) (mkSeg lv_s_l08Generators_J4 lv_s_l08Generators_N4 (gs_l08Generators_j4 K k)) c_s_l08Generators_J4 :=
  seg_sound O (by rw [hP]; kernel_rfl) (es_l08Generators_j4 K k) (lpOk_of (en := en_s_l08Generators K k) (S := hasK su_s_l08Generators) (fun i => hasK_lk (sg_s_l08Generators K k) i) _ (by rw [show partsOf (hasK su_s_l08Generators) c_s_l08Generators_J4 = [(false, c_s_l08Generators_J8)] from by kernel_rfl]; exact (lpL_seg (f := mkSeg lv_s_l08Generators_J8 lv_s_l08Generators_N8 (gs_l08Generators_j8 K k)) (by kernel_rfl) (ss_l08Generators_j8 K C hP O k) trivial)))
theorem e_s_l08Generators (K : Nat) (x : den as_s_l08Generators) : s_l08Generators K x = evFn (cf_s_l08Generators K) as_s_l08Generators [false] (.tup (.pair (.sl (.st (.pair (.int .i64) (.pair (.int .i64) .unit)))) (.pair .bool .unit))) (en_s_l08Generators K K) Try.f48.results.toList (bodyOf Try.f48) x := by kernel_rfl
theorem ok_s_l08Generators (K : Nat) : FnOk Try.prog 48 (sp_s_l08Generators (s_l08Generators K)) :=
  fn_ok (cf := cf_s_l08Generators K) (en := en_s_l08Generators K K) (c := bodyOf Try.f48) Try.func48 (by kernel_rfl) (by kernel_rfl) tysOk (fns_ok (l := [(58, sp_s_l01Rows (s_l01Rows K)), (88, sp_s_l08Base (s_l08Base K))]) ⟨ok_s_l01Rows K, ⟨ok_s_l08Base K, trivial⟩⟩) (shs_ok (l := []) trivial) (by kernel_rfl) rfl (Nat.le_of_ble_eq_true (by kernel_rfl)) (by kernel_rfl) (of_decide_eq_true (by kernel_rfl)) (by decide) (fun C hP O => lpOk_of (en := en_s_l08Generators K K) (S := hasK su_s_l08Generators) (fun i => hasK_lk (sg_s_l08Generators K K) i) _ (by rw [show partsOf (hasK su_s_l08Generators) (bodyOf Try.f48) = [(false, c_s_l08Generators_J4)] from by kernel_rfl]; exact (lpL_seg (f := mkSeg lv_s_l08Generators_J4 lv_s_l08Generators_N4 (gs_l08Generators_j4 K K)) (by kernel_rfl) (ss_l08Generators_j4 K C hP O K) trivial))) (fun x y h => by rw [← e_s_l08Generators]; exact h)
noncomputable def ps_s_l08DrawName : Lv := [(0, (.bx (.v (.st (.pair (.sl (.int .u8)) (.pair (.int .i64) (.pair (.int .u64) .unit)))))))]
noncomputable def rl_s_l08DrawName : Lv := [(0, (.v .str))]
noncomputable def sp_s_l08DrawName (F : (((List Int) × Int × Int × Unit) × Unit) → Option ((ByteArray × Unit) × (((List Int) × Int × Int × Unit) × Unit))) : ShSpec := ⟨ps_s_l08DrawName, rl_s_l08DrawName, F⟩
noncomputable def s_l08DrawName (K : Nat) (x : (((List Int) × Int × Int × Unit) × Unit)) : Option ((ByteArray × Unit) × (((List Int) × Int × Int × Unit) × Unit)) :=
    (s_l08Names K ()).bind fun y1 =>
    (s_l01Next K (x.1, (24 : Int), ())).bind fun y2 =>
    (if (decide (y2.1.1 = (0 : Int))) = true then
    let l3 := [(⟨#[]⟩ : ByteArray), (⟨#[83]⟩ : ByteArray), (⟨#[83, 48, 94]⟩ : ByteArray), (⟨#[83, 48, 94, 52]⟩ : ByteArray), (⟨#[77, 94, 50]⟩ : ByteArray), (⟨#[82, 51]⟩ : ByteArray), (⟨#[73, 50, 32]⟩ : ByteArray), (⟨#[86, 51]⟩ : ByteArray), (⟨#[68, 94, 50]⟩ : ByteArray), (⟨#[98, 102]⟩ : ByteArray)]
    (s_l01Next K (y2.2.1, (10 : Int), ())).bind fun y4 =>
    (if (bnds y4.1.1 (l3.length : Int)) = true then
    some (((l3.getD y4.1.1.toNat ByteArray.empty), ()), (y4.2.1, ()))
    else
    none)
    else
    (s_l01Next K (y2.2.1, (y1.length : Int), ())).bind fun y5 =>
    (if (bnds y5.1.1 (y1.length : Int)) = true then
    some (((y1.getD y5.1.1.toNat ByteArray.empty), ()), (y5.2.1, ()))
    else
    none))
noncomputable def rv_s_l08DrawName : Lv := [(0, (.bx (.v (.st (.pair (.sl (.int .u8)) (.pair (.int .i64) (.pair (.int .u64) .unit))))))), (2, (.v .str))]
noncomputable def sg_s_l08DrawName {R : Type} (K : Nat) (k : Nat) : List (Nat × SegS R) := []
noncomputable def su_s_l08DrawName : List (Nat × Unit) := []
noncomputable def en_s_l08DrawName {R : Type} (K : Nat) (k : Nat) : Env R := { L := lk [], X := lk [], S := lk (sg_s_l08DrawName K k), rv := rv_s_l08DrawName }
noncomputable def cf_s_l08DrawName (K : Nat) : Cfg := { ty := lk tys, fn := lk [(23, sp_s_l08Names (s_l08Names K))], fs := lk [(30, sp_s_l01Next (s_l01Next K))], prot := 1, nt := Try.f49.ntmps }
theorem e_s_l08DrawName (K : Nat) (x : den ps_s_l08DrawName.ty) : s_l08DrawName K x = evFnS (cf_s_l08DrawName K) ps_s_l08DrawName rl_s_l08DrawName (en_s_l08DrawName K K) Try.f49.results.toList (bodyOf Try.f49) x := by kernel_rfl
theorem ok_s_l08DrawName (K : Nat) : ShOk Try.prog 49 (sp_s_l08DrawName (s_l08DrawName K)) :=
  sh_ok (cf := cf_s_l08DrawName K) (en := en_s_l08DrawName K K) (c := bodyOf Try.f49) Try.func49 (by kernel_rfl) (by kernel_rfl) tysOk (fns_ok (l := [(23, sp_s_l08Names (s_l08Names K))]) ⟨ok_s_l08Names K, trivial⟩) (shs_ok (l := [(30, sp_s_l01Next (s_l01Next K))]) ⟨ok_s_l01Next K, trivial⟩) (by kernel_rfl) rfl (Nat.le_of_ble_eq_true (by kernel_rfl)) (by kernel_rfl) (Nat.le_of_ble_eq_true (by kernel_rfl)) (by kernel_rfl) (fun C hP O => lpOk_of (en := en_s_l08DrawName K K) (S := hasK su_s_l08DrawName) (fun i => hasK_lk (sg_s_l08DrawName K K) i) _ (by rw [show partsOf (hasK su_s_l08DrawName) (bodyOf Try.f49) = [] from by kernel_rfl]; exact trivial)) (fun x y h => by rw [← e_s_l08DrawName]; exact h)
noncomputable def ps_s_l08DrawList : Lv := [(0, (.bx (.v (.st (.pair (.sl (.int .u8)) (.pair (.int .i64) (.pair (.int .u64) .unit)))))))]
noncomputable def rl_s_l08DrawList : Lv := [(0, (.r (.st (.pair (.int .i64) (.pair (.int .i64) .unit)))))]
noncomputable def sp_s_l08DrawList (F : (((List Int) × Int × Int × Unit) × Unit) → Option (((List (Int × Int × Unit)) × Unit) × (((List Int) × Int × Int × Unit) × Unit))) : ShSpec := ⟨ps_s_l08DrawList, rl_s_l08DrawList, F⟩
noncomputable def s_l08DrawList_l9 {R : Type} (K : Nat) : Nat → ((List Int) × Int × Int × Unit) → (List (Int × Int × Unit)) → Int → (((List Int) × Int × Int × Unit) → (List (Int × Int × Unit)) → Option R) → Option R
  | 0, _, _, _, _ => none
  | k + 1, v0, v6, v7, kx0 =>
    (if (decide (v7 > (0 : Int))) = true then
    (s_l02DrawIn K (v0, ())).bind fun y11 =>
    (if (decide (v6.length + ([y11.1.1]).length ≤ lim)) = true then
    let l12 := (v6 ++ [y11.1.1])
    s_l08DrawList_l9 K k y11.2.1 l12 (IntKind.i64.wrap (v7 - (1 : Int))) kx0
    else
    none)
    else
    kx0 v0 v6)
noncomputable def s_l08DrawList (K : Nat) (x : (((List Int) × Int × Int × Unit) × Unit)) : Option (((List (Int × Int × Unit)) × Unit) × (((List Int) × Int × Int × Unit) × Unit)) :=
    (s_l01Next K (x.1, (2 : Int), ())).bind fun y1 =>
    (if (decide (y1.1.1 = (0 : Int))) = true then
    (s_l08DrawName K (y1.2.1, ())).bind fun y2 =>
    (s_l08Generators K (y2.1.1, ())).bind fun y3 =>
    let l4 := ([] : List (Int × Int × Unit))
    (if (decide (l4.length + y3.1.length ≤ lim)) = true then
    let l5 := (l4 ++ y3.1)
    (s_l01Next K (y2.2.1, (3 : Int), ())).bind fun y6 =>
    (if (decide (y6.1.1 = (0 : Int))) = true then
    (s_l02DrawIn K (y6.2.1, ())).bind fun y7 =>
    (if (decide (l5.length + ([y7.1.1]).length ≤ lim)) = true then
    let l8 := (l5 ++ [y7.1.1])
    some ((l8, ()), (y7.2.1, ()))
    else
    none)
    else
    some ((l5, ()), (y6.2.1, ())))
    else
    none)
    else
    let l9 := ([] : List (Int × Int × Unit))
    (s_l01Next K (y1.2.1, (3 : Int), ())).bind fun y10 =>
    s_l08DrawList_l9 K K y10.2.1 l9 y10.1.1 (fun z13 z14 =>
    some ((z14, ()), (z13, ()))))
noncomputable def lv_s_l08DrawList_L9 : Lv := [(0, (.bx (.v (.st (.pair (.sl (.int .u8)) (.pair (.int .i64) (.pair (.int .u64) .unit))))))), (6, (.r (.st (.pair (.int .i64) (.pair (.int .i64) .unit))))), (7, (.v (.int .i64)))]
noncomputable def lv_s_l08DrawList_X0 : Lv := [(0, (.bx (.v (.st (.pair (.sl (.int .u8)) (.pair (.int .i64) (.pair (.int .u64) .unit))))))), (6, (.r (.st (.pair (.int .i64) (.pair (.int .i64) .unit)))))]
noncomputable def rv_s_l08DrawList : Lv := [(0, (.bx (.v (.st (.pair (.sl (.int .u8)) (.pair (.int .i64) (.pair (.int .u64) .unit))))))), (2, (.r (.st (.pair (.int .i64) (.pair (.int .i64) .unit)))))]
noncomputable def gs_l08DrawList_l9 {R : Type} (K : Nat) (k : Nat) (x : den lv_s_l08DrawList_L9.ty) (kx : Nat → St → Option R) (kr : St → Option R) : Option R := s_l08DrawList_l9 K k x.1 x.2.1 x.2.2.1 (fun z0 z1 => kx 0 (mkSt lv_s_l08DrawList_X0 (z0, z1, ())))
noncomputable def sg_s_l08DrawList {R : Type} (K : Nat) (k : Nat) : List (Nat × SegS R) := []
noncomputable def su_s_l08DrawList : List (Nat × Unit) := []
noncomputable def en_s_l08DrawList {R : Type} (K : Nat) (k : Nat) : Env R := { L := lk [(9, mkLoop lv_s_l08DrawList_L9 (gs_l08DrawList_l9 K k))], X := lk [(0, lv_s_l08DrawList_X0)], S := lk (sg_s_l08DrawList K k), rv := rv_s_l08DrawList }
noncomputable def cf_s_l08DrawList (K : Nat) : Cfg := { ty := lk tys, fn := lk [(48, sp_s_l08Generators (s_l08Generators K))], fs := lk [(30, sp_s_l01Next (s_l01Next K)), (49, sp_s_l08DrawName (s_l08DrawName K)), (50, sp_s_l02DrawIn (s_l02DrawIn K))], prot := 1, nt := Try.f29.ntmps }
noncomputable def c_s_l08DrawList_L9 : Code := nthC (partsOf (hasK su_s_l08DrawList) (bodyOf Try.f29)) 0
theorem es_l08DrawList_l9 {R : Type} (K : Nat) (k : Nat) (x : den lv_s_l08DrawList_L9.ty) (kx : Nat → St → Option R) (kr : St → Option R) : gs_l08DrawList_l9 K (k + 1) x kx kr = evC (cf_s_l08DrawList K) (en_s_l08DrawList K k) c_s_l08DrawList_L9 (mkSt lv_s_l08DrawList_L9 x) (fun s => mkLoop lv_s_l08DrawList_L9 (gs_l08DrawList_l9 K k) s kx kr) kx kr := by kernel_rfl
theorem ss_l08DrawList_l9 {R : Type} (K : Nat) (C : Cx) (hP : C.P = Try.prog) (O : CfgOk C (cf_s_l08DrawList K)) (k : Nat) : LpS C (R := R) (mkLoop lv_s_l08DrawList_L9 (gs_l08DrawList_l9 K k)) c_s_l08DrawList_L9 :=
  loop_sound O (by rw [hP]; kernel_rfl) (fun x kx kr => rfl) (es_l08DrawList_l9 K) (fun k => lpOk_of (en := en_s_l08DrawList K k) (S := hasK su_s_l08DrawList) (fun i => hasK_lk (sg_s_l08DrawList K k) i) _ (by rw [show partsOf (hasK su_s_l08DrawList) c_s_l08DrawList_L9 = [] from by kernel_rfl]; exact trivial)) k
theorem e_s_l08DrawList (K : Nat) (x : den ps_s_l08DrawList.ty) : s_l08DrawList K x = evFnS (cf_s_l08DrawList K) ps_s_l08DrawList rl_s_l08DrawList (en_s_l08DrawList K K) Try.f29.results.toList (bodyOf Try.f29) x := by kernel_rfl
theorem ok_s_l08DrawList (K : Nat) : ShOk Try.prog 29 (sp_s_l08DrawList (s_l08DrawList K)) :=
  sh_ok (cf := cf_s_l08DrawList K) (en := en_s_l08DrawList K K) (c := bodyOf Try.f29) Try.func29 (by kernel_rfl) (by kernel_rfl) tysOk (fns_ok (l := [(48, sp_s_l08Generators (s_l08Generators K))]) ⟨ok_s_l08Generators K, trivial⟩) (shs_ok (l := [(30, sp_s_l01Next (s_l01Next K)), (49, sp_s_l08DrawName (s_l08DrawName K)), (50, sp_s_l02DrawIn (s_l02DrawIn K))]) ⟨ok_s_l01Next K, ⟨ok_s_l08DrawName K, ⟨ok_s_l02DrawIn K, trivial⟩⟩⟩) (by kernel_rfl) rfl (Nat.le_of_ble_eq_true (by kernel_rfl)) (by kernel_rfl) (Nat.le_of_ble_eq_true (by kernel_rfl)) (by kernel_rfl) (fun C hP O => lpOk_of (en := en_s_l08DrawList K K) (S := hasK su_s_l08DrawList) (fun i => hasK_lk (sg_s_l08DrawList K K) i) _ (by rw [show partsOf (hasK su_s_l08DrawList) (bodyOf Try.f29) = [(true, c_s_l08DrawList_L9)] from by kernel_rfl]; exact (lpL_loop (f := mkLoop lv_s_l08DrawList_L9 (gs_l08DrawList_l9 K K)) (by kernel_rfl) (ss_l08DrawList_l9 K C hP O K) trivial))) (fun x y h => by rw [← e_s_l08DrawList]; exact h)
noncomputable def as_s_DrawSeparatingDegree : Ty := (.pair (.sl (.int .u8)) .unit)
noncomputable def sp_s_DrawSeparatingDegree (F : ((List Int) × Unit) → Option ((Int × Int × Unit) × Int × Unit)) : FnSpec := ⟨as_s_DrawSeparatingDegree, [false], (.tup (.pair (.st (.pair (.int .i64) (.pair (.int .i64) .unit))) (.pair (.int .i64) .unit))), F⟩
noncomputable def s_DrawSeparatingDegree (K : Nat) (x : ((List Int) × Unit)) : Option ((Int × Int × Unit) × Int × Unit) :=
    (s_l01From K (x.1, ())).bind fun y1 =>
    (s_l08DrawList K (y1.1.1, ())).bind fun y2 =>
    (if (decide ((y2.1.1.length : Int) > (0 : Int))) = true then
    (s_l01Next K (y2.2.1, (y2.1.1.length : Int), ())).bind fun y3 =>
    (if (bnds y3.1.1 (y2.1.1.length : Int)) = true then
    (s_l01Next K (y3.2.1, (2 : Int), ())).bind fun y4 =>
    (s_l01Next K (y4.2.1, (24 : Int), ())).bind fun y5 =>
    let x6 := (IntKind.i64.wrap ((IntKind.i64.wrap (Int.tdiv y5.1.1 (23 : Int))) * (2 : Int)))
    some ((y2.1.1.getD y3.1.1.toNat ((0 : Int), (0 : Int), ())), (IntKind.i64.wrap (y4.1.1 + x6)), ())
    else
    none)
    else
    (s_l01Spoil K (y2.2.1, ())).bind fun y7 =>
    (s_l01Next K (y7.2.1, (2 : Int), ())).bind fun y8 =>
    some (y7.1.1, y8.1.1, ()))
noncomputable def rv_s_DrawSeparatingDegree : Lv := [(2, (.bx (.v (.st (.pair (.int .i64) (.pair (.int .i64) .unit)))))), (3, (.v (.int .i64)))]
noncomputable def sg_s_DrawSeparatingDegree {R : Type} (K : Nat) (k : Nat) : List (Nat × SegS R) := []
noncomputable def su_s_DrawSeparatingDegree : List (Nat × Unit) := []
noncomputable def en_s_DrawSeparatingDegree {R : Type} (K : Nat) (k : Nat) : Env R := { L := lk [], X := lk [], S := lk (sg_s_DrawSeparatingDegree K k), rv := rv_s_DrawSeparatingDegree }
noncomputable def cf_s_DrawSeparatingDegree (K : Nat) : Cfg := { ty := lk tys, fn := lk [], fs := lk [(28, sp_s_l01From (s_l01From K)), (29, sp_s_l08DrawList (s_l08DrawList K)), (30, sp_s_l01Next (s_l01Next K)), (31, sp_s_l01Spoil (s_l01Spoil K))], prot := 0, nt := Try.f11.ntmps }
theorem e_s_DrawSeparatingDegree (K : Nat) (x : den as_s_DrawSeparatingDegree) : s_DrawSeparatingDegree K x = evFn (cf_s_DrawSeparatingDegree K) as_s_DrawSeparatingDegree [false] (.tup (.pair (.st (.pair (.int .i64) (.pair (.int .i64) .unit))) (.pair (.int .i64) .unit))) (en_s_DrawSeparatingDegree K K) Try.f11.results.toList (bodyOf Try.f11) x := by kernel_rfl
theorem ok_s_DrawSeparatingDegree (K : Nat) : FnOk Try.prog 11 (sp_s_DrawSeparatingDegree (s_DrawSeparatingDegree K)) :=
  fn_ok (cf := cf_s_DrawSeparatingDegree K) (en := en_s_DrawSeparatingDegree K K) (c := bodyOf Try.f11) Try.func11 (by kernel_rfl) (by kernel_rfl) tysOk (fns_ok (l := []) trivial) (shs_ok (l := [(28, sp_s_l01From (s_l01From K)), (29, sp_s_l08DrawList (s_l08DrawList K)), (30, sp_s_l01Next (s_l01Next K)), (31, sp_s_l01Spoil (s_l01Spoil K))]) ⟨ok_s_l01From K, ⟨ok_s_l08DrawList K, ⟨ok_s_l01Next K, ⟨ok_s_l01Spoil K, trivial⟩⟩⟩⟩) (by kernel_rfl) rfl (Nat.le_of_ble_eq_true (by kernel_rfl)) (by kernel_rfl) (of_decide_eq_true (by kernel_rfl)) (by decide) (fun C hP O => lpOk_of (en := en_s_DrawSeparatingDegree K K) (S := hasK su_s_DrawSeparatingDegree) (fun i => hasK_lk (sg_s_DrawSeparatingDegree K K) i) _ (by rw [show partsOf (hasK su_s_DrawSeparatingDegree) (bodyOf Try.f11) = [] from by kernel_rfl]; exact trivial)) (fun x y h => by rw [← e_s_DrawSeparatingDegree]; exact h)
noncomputable def degF (x : (Int × Int × Unit) × Int × Unit) : Option Int :=
  if 0 ≤ x.1.1 ∧ x.1.1 ≤ 4 ∧ 0 ≤ x.1.2.1 ∧ x.1.2.1 < 65536 ∧ 0 ≤ x.2.1 ∧ x.2.1 ≤ 1 then some (degN x.1.1.toNat x.1.2.1.toNat x.2.1.toNat : Nat) else none
theorem degF_ok : FnOk Try.prog 34 ⟨.pair (.st (.pair (.int .i64) (.pair (.int .i64) .unit))) (.pair (.int .i64) .unit), [false, false], .int .i64, degF⟩ := by
  refine ⟨fun _ => ?_, fun h => by cases h⟩
  intro w vs x y hx hy
  obtain ⟨⟨ar, bi, u⟩, c, u2⟩ := x
  have hy : degF ((ar, bi, u), c, u2) = some y := hy
  unfold degF at hy
  split at hy
  case isFalse => cases hy
  rename_i h
  cases hy
  obtain ⟨h1, h2, h3, h4, h5, h6⟩ := h
  obtain ⟨n, rfl⟩ := Int.eq_ofNat_of_zero_le h1
  obtain ⟨b, rfl⟩ := Int.eq_ofNat_of_zero_le h3
  obtain ⟨c, rfl⟩ := Int.eq_ofNat_of_zero_le h5
  have hv : vs = [.agg #[.int .i64 n, .int .i64 b], .int .i64 c] := by
    obtain ⟨cs, r, rfl, ⟨c1, c2, rfl, h7, c3, c4, rfl, h8, h9⟩, c5, r2, rfl, h10, h11⟩ := hx
    have h7 : c1 = [.int .i64 (n : Int)] := h7
    have h8 : c3 = [.int .i64 (b : Int)] := h8
    have h9 : c4 = [] := h9
    have h10 : c5 = [.int .i64 (c : Int)] := h10
    have h11 : r2 = [] := h11
    subst h7 h8 h9 h10 h11
    rfl
  subst hv
  refine cf_of_calls Try.func34 (c := bodyOf Try.f34) (by kernel_rfl) (by kernel_rfl) ?_
  refine (dg_calls w n b c (by have h2 : (n : Int) ≤ 4 := h2; omega) (by have h4 : (b : Int) < 65536 := h4; omega) (by have h6 : (c : Int) ≤ 1 := h6; omega)).mono ?_
  rintro e w' ⟨rfl, hb⟩
  exact ⟨_, rfl, ret_plain (R := .int .i64) rfl rfl rfl (c := [.int .i64 (degN n b c : Nat)]) ⟨rfl, rfl⟩ hb⟩
noncomputable def as_i_Func_degree : Ty := (.pair (.st (.pair (.int .i64) (.pair (.int .i64) .unit))) (.pair (.int .i64) .unit))
noncomputable def sp_i_Func_degree (F : ((Int × Int × Unit) × Int × Unit) → Option Int) : FnSpec := ⟨as_i_Func_degree, [false, false], (.int .i64), F⟩
noncomputable def i_Func_degree (K : Nat) (x : (Int × Int × Unit) × Int × Unit) : Option Int := degF x
theorem ok_i_Func_degree (K : Nat) : FnOk Try.prog 34 (sp_i_Func_degree (i_Func_degree K)) := degF_ok
noncomputable def as_i_SeparatingDegree : Ty := (.pair (.st (.pair (.int .i64) (.pair (.int .i64) .unit))) (.pair (.int .i64) .unit))
noncomputable def sp_i_SeparatingDegree (F : ((Int × Int × Unit) × Int × Unit) → Option (Int × Int × Unit)) : FnSpec := ⟨as_i_SeparatingDegree, [false, false], (.tup (.pair (.int .i64) (.pair (.int .i64) .unit))), F⟩
noncomputable def i_SeparatingDegree (K : Nat) (x : ((Int × Int × Unit) × Int × Unit)) : Option (Int × Int × Unit) :=
    (i_IsFunc K (x.1, ())).bind fun y1 =>
    (if (!y1) = true then
    some ((0 : Int), (1 : Int), ())
    else
    (i_within K (x.2.1, (0 : Int), (1 : Int), ())).bind fun y2 =>
    (if (!y2) = true then
    some ((0 : Int), (2 : Int), ())
    else
    (i_Func_degree K (x.1, x.2.1, ())).bind fun y3 =>
    some (y3, (0 : Int), ())))
noncomputable def rv_i_SeparatingDegree : Lv := [(4, (.v (.int .i64))), (5, (.v (.int .i64)))]
noncomputable def sg_i_SeparatingDegree {R : Type} (K : Nat) (k : Nat) : List (Nat × SegS R) := []
noncomputable def su_i_SeparatingDegree : List (Nat × Unit) := []
noncomputable def en_i_SeparatingDegree {R : Type} (K : Nat) (k : Nat) : Env R := { L := lk [], X := lk [], S := lk (sg_i_SeparatingDegree K k), rv := rv_i_SeparatingDegree }
noncomputable def cf_i_SeparatingDegree (K : Nat) : Cfg := { ty := lk tys, fn := lk [(32, sp_i_IsFunc (i_IsFunc K)), (33, sp_i_within (i_within K)), (34, sp_i_Func_degree (i_Func_degree K))], fs := lk [], prot := 0, nt := Try.f12.ntmps }
theorem e_i_SeparatingDegree (K : Nat) (x : den as_i_SeparatingDegree) : i_SeparatingDegree K x = evFn (cf_i_SeparatingDegree K) as_i_SeparatingDegree [false, false] (.tup (.pair (.int .i64) (.pair (.int .i64) .unit))) (en_i_SeparatingDegree K K) Try.f12.results.toList (bodyOf Try.f12) x := by kernel_rfl
theorem ok_i_SeparatingDegree (K : Nat) : FnOk Try.prog 12 (sp_i_SeparatingDegree (i_SeparatingDegree K)) :=
  fn_ok (cf := cf_i_SeparatingDegree K) (en := en_i_SeparatingDegree K K) (c := bodyOf Try.f12) Try.func12 (by kernel_rfl) (by kernel_rfl) tysOk (fns_ok (l := [(32, sp_i_IsFunc (i_IsFunc K)), (33, sp_i_within (i_within K)), (34, sp_i_Func_degree (i_Func_degree K))]) ⟨ok_i_IsFunc K, ⟨ok_i_within K, ⟨ok_i_Func_degree K, trivial⟩⟩⟩) (shs_ok (l := []) trivial) (by kernel_rfl) rfl (Nat.le_of_ble_eq_true (by kernel_rfl)) (by kernel_rfl) (of_decide_eq_true (by kernel_rfl)) (by decide) (fun C hP O => lpOk_of (en := en_i_SeparatingDegree K K) (S := hasK su_i_SeparatingDegree) (fun i => hasK_lk (sg_i_SeparatingDegree K K) i) _ (by rw [show partsOf (hasK su_i_SeparatingDegree) (bodyOf Try.f12) = [] from by kernel_rfl]; exact trivial)) (fun x y h => by rw [← e_i_SeparatingDegree]; exact h)
noncomputable def as_s_SeparatingDegree : Ty := (.pair (.st (.pair (.int .i64) (.pair (.int .i64) .unit))) (.pair (.int .i64) .unit))
noncomputable def sp_s_SeparatingDegree (F : ((Int × Int × Unit) × Int × Unit) → Option (Int × Int × Unit)) : FnSpec := ⟨as_s_SeparatingDegree, [false, false], (.tup (.pair (.int .i64) (.pair (.int .i64) .unit))), F⟩
noncomputable def s_SeparatingDegree (K : Nat) (x : ((Int × Int × Unit) × Int × Unit)) : Option (Int × Int × Unit) :=
    (s_l01Is K (x.1, ())).bind fun y1 =>
    (if (!y1) = true then
    some ((0 : Int), (1 : Int), ())
    else
    (s_l01In K (x.2.1, (0 : Int), (1 : Int), ())).bind fun y2 =>
    (if (!y2) = true then
    some ((0 : Int), (2 : Int), ())
    else
    (s_l08Degree K (x.1, x.2.1, ())).bind fun y3 =>
    some (y3, (0 : Int), ())))
noncomputable def rv_s_SeparatingDegree : Lv := [(4, (.v (.int .i64))), (5, (.v (.int .i64)))]
noncomputable def sg_s_SeparatingDegree {R : Type} (K : Nat) (k : Nat) : List (Nat × SegS R) := []
noncomputable def su_s_SeparatingDegree : List (Nat × Unit) := []
noncomputable def en_s_SeparatingDegree {R : Type} (K : Nat) (k : Nat) : Env R := { L := lk [], X := lk [], S := lk (sg_s_SeparatingDegree K k), rv := rv_s_SeparatingDegree }
noncomputable def cf_s_SeparatingDegree (K : Nat) : Cfg := { ty := lk tys, fn := lk [(35, sp_s_l01Is (s_l01Is K)), (36, sp_s_l01In (s_l01In K)), (37, sp_s_l08Degree (s_l08Degree K))], fs := lk [], prot := 0, nt := Try.f13.ntmps }
theorem e_s_SeparatingDegree (K : Nat) (x : den as_s_SeparatingDegree) : s_SeparatingDegree K x = evFn (cf_s_SeparatingDegree K) as_s_SeparatingDegree [false, false] (.tup (.pair (.int .i64) (.pair (.int .i64) .unit))) (en_s_SeparatingDegree K K) Try.f13.results.toList (bodyOf Try.f13) x := by kernel_rfl
theorem ok_s_SeparatingDegree (K : Nat) : FnOk Try.prog 13 (sp_s_SeparatingDegree (s_SeparatingDegree K)) :=
  fn_ok (cf := cf_s_SeparatingDegree K) (en := en_s_SeparatingDegree K K) (c := bodyOf Try.f13) Try.func13 (by kernel_rfl) (by kernel_rfl) tysOk (fns_ok (l := [(35, sp_s_l01Is (s_l01Is K)), (36, sp_s_l01In (s_l01In K)), (37, sp_s_l08Degree (s_l08Degree K))]) ⟨ok_s_l01Is K, ⟨ok_s_l01In K, ⟨ok_s_l08Degree K, trivial⟩⟩⟩) (shs_ok (l := []) trivial) (by kernel_rfl) rfl (Nat.le_of_ble_eq_true (by kernel_rfl)) (by kernel_rfl) (of_decide_eq_true (by kernel_rfl)) (by decide) (fun C hP O => lpOk_of (en := en_s_SeparatingDegree K K) (S := hasK su_s_SeparatingDegree) (fun i => hasK_lk (sg_s_SeparatingDegree K K) i) _ (by rw [show partsOf (hasK su_s_SeparatingDegree) (bodyOf Try.f13) = [] from by kernel_rfl]; exact trivial)) (fun x y h => by rw [← e_s_SeparatingDegree]; exact h)
noncomputable def as_s_DrawIsDisjunction : Ty := (.pair (.sl (.int .u8)) .unit)
noncomputable def sp_s_DrawIsDisjunction (F : ((List Int) × Unit) → Option (Int × Int × Unit)) : FnSpec := ⟨as_s_DrawIsDisjunction, [false], (.st (.pair (.int .i64) (.pair (.int .i64) .unit))), F⟩
noncomputable def s_DrawIsDisjunction (K : Nat) (x : ((List Int) × Unit)) : Option (Int × Int × Unit) :=
    (s_DrawSeparatingDegree K (x.1, ())).bind fun y1 =>
    some y1.1
noncomputable def rv_s_DrawIsDisjunction : Lv := [(2, (.bx (.v (.st (.pair (.int .i64) (.pair (.int .i64) .unit))))))]
noncomputable def sg_s_DrawIsDisjunction {R : Type} (K : Nat) (k : Nat) : List (Nat × SegS R) := []
noncomputable def su_s_DrawIsDisjunction : List (Nat × Unit) := []
noncomputable def en_s_DrawIsDisjunction {R : Type} (K : Nat) (k : Nat) : Env R := { L := lk [], X := lk [], S := lk (sg_s_DrawIsDisjunction K k), rv := rv_s_DrawIsDisjunction }
noncomputable def cf_s_DrawIsDisjunction (K : Nat) : Cfg := { ty := lk tys, fn := lk [(11, sp_s_DrawSeparatingDegree (s_DrawSeparatingDegree K))], fs := lk [], prot := 0, nt := Try.f14.ntmps }
theorem e_s_DrawIsDisjunction (K : Nat) (x : den as_s_DrawIsDisjunction) : s_DrawIsDisjunction K x = evFn (cf_s_DrawIsDisjunction K) as_s_DrawIsDisjunction [false] (.st (.pair (.int .i64) (.pair (.int .i64) .unit))) (en_s_DrawIsDisjunction K K) Try.f14.results.toList (bodyOf Try.f14) x := by kernel_rfl
theorem ok_s_DrawIsDisjunction (K : Nat) : FnOk Try.prog 14 (sp_s_DrawIsDisjunction (s_DrawIsDisjunction K)) :=
  fn_ok (cf := cf_s_DrawIsDisjunction K) (en := en_s_DrawIsDisjunction K K) (c := bodyOf Try.f14) Try.func14 (by kernel_rfl) (by kernel_rfl) tysOk (fns_ok (l := [(11, sp_s_DrawSeparatingDegree (s_DrawSeparatingDegree K))]) ⟨ok_s_DrawSeparatingDegree K, trivial⟩) (shs_ok (l := []) trivial) (by kernel_rfl) rfl (Nat.le_of_ble_eq_true (by kernel_rfl)) (by kernel_rfl) (of_decide_eq_true (by kernel_rfl)) (by decide) (fun C hP O => lpOk_of (en := en_s_DrawIsDisjunction K K) (S := hasK su_s_DrawIsDisjunction) (fun i => hasK_lk (sg_s_DrawIsDisjunction K K) i) _ (by rw [show partsOf (hasK su_s_DrawIsDisjunction) (bodyOf Try.f14) = [] from by kernel_rfl]; exact trivial)) (fun x y h => by rw [← e_s_DrawIsDisjunction]; exact h)
noncomputable def as_i_IsDisjunction : Ty := (.pair (.st (.pair (.int .i64) (.pair (.int .i64) .unit))) .unit)
noncomputable def sp_i_IsDisjunction (F : ((Int × Int × Unit) × Unit) → Option (Bool × Int × Unit)) : FnSpec := ⟨as_i_IsDisjunction, [false], (.tup (.pair .bool (.pair (.int .i64) .unit))), F⟩
noncomputable def i_IsDisjunction (K : Nat) (x : ((Int × Int × Unit) × Unit)) : Option (Bool × Int × Unit) :=
    (i_IsFunc K (x.1, ())).bind fun y1 =>
    (if (!y1) = true then
    some (false, (1 : Int), ())
    else
    (i_Func_isDisjunction K (x.1, ())).bind fun y2 =>
    some (y2, (0 : Int), ()))
noncomputable def rv_i_IsDisjunction : Lv := [(2, (.v .bool)), (3, (.v (.int .i64)))]
noncomputable def sg_i_IsDisjunction {R : Type} (K : Nat) (k : Nat) : List (Nat × SegS R) := []
noncomputable def su_i_IsDisjunction : List (Nat × Unit) := []
noncomputable def en_i_IsDisjunction {R : Type} (K : Nat) (k : Nat) : Env R := { L := lk [], X := lk [], S := lk (sg_i_IsDisjunction K k), rv := rv_i_IsDisjunction }
noncomputable def cf_i_IsDisjunction (K : Nat) : Cfg := { ty := lk tys, fn := lk [(32, sp_i_IsFunc (i_IsFunc K)), (38, sp_i_Func_isDisjunction (i_Func_isDisjunction K))], fs := lk [], prot := 0, nt := Try.f15.ntmps }
theorem e_i_IsDisjunction (K : Nat) (x : den as_i_IsDisjunction) : i_IsDisjunction K x = evFn (cf_i_IsDisjunction K) as_i_IsDisjunction [false] (.tup (.pair .bool (.pair (.int .i64) .unit))) (en_i_IsDisjunction K K) Try.f15.results.toList (bodyOf Try.f15) x := by kernel_rfl
theorem ok_i_IsDisjunction (K : Nat) : FnOk Try.prog 15 (sp_i_IsDisjunction (i_IsDisjunction K)) :=
  fn_ok (cf := cf_i_IsDisjunction K) (en := en_i_IsDisjunction K K) (c := bodyOf Try.f15) Try.func15 (by kernel_rfl) (by kernel_rfl) tysOk (fns_ok (l := [(32, sp_i_IsFunc (i_IsFunc K)), (38, sp_i_Func_isDisjunction (i_Func_isDisjunction K))]) ⟨ok_i_IsFunc K, ⟨ok_i_Func_isDisjunction K, trivial⟩⟩) (shs_ok (l := []) trivial) (by kernel_rfl) rfl (Nat.le_of_ble_eq_true (by kernel_rfl)) (by kernel_rfl) (of_decide_eq_true (by kernel_rfl)) (by decide) (fun C hP O => lpOk_of (en := en_i_IsDisjunction K K) (S := hasK su_i_IsDisjunction) (fun i => hasK_lk (sg_i_IsDisjunction K K) i) _ (by rw [show partsOf (hasK su_i_IsDisjunction) (bodyOf Try.f15) = [] from by kernel_rfl]; exact trivial)) (fun x y h => by rw [← e_i_IsDisjunction]; exact h)
noncomputable def as_s_IsDisjunction : Ty := (.pair (.st (.pair (.int .i64) (.pair (.int .i64) .unit))) .unit)
noncomputable def sp_s_IsDisjunction (F : ((Int × Int × Unit) × Unit) → Option (Bool × Int × Unit)) : FnSpec := ⟨as_s_IsDisjunction, [false], (.tup (.pair .bool (.pair (.int .i64) .unit))), F⟩
noncomputable def s_IsDisjunction (K : Nat) (x : ((Int × Int × Unit) × Unit)) : Option (Bool × Int × Unit) :=
    (s_l01Is K (x.1, ())).bind fun y1 =>
    (if (!y1) = true then
    some (false, (1 : Int), ())
    else
    (s_l08Joined K (x.1, false, ())).bind fun y2 =>
    some (y2, (0 : Int), ()))
noncomputable def rv_s_IsDisjunction : Lv := [(2, (.v .bool)), (3, (.v (.int .i64)))]
noncomputable def sg_s_IsDisjunction {R : Type} (K : Nat) (k : Nat) : List (Nat × SegS R) := []
noncomputable def su_s_IsDisjunction : List (Nat × Unit) := []
noncomputable def en_s_IsDisjunction {R : Type} (K : Nat) (k : Nat) : Env R := { L := lk [], X := lk [], S := lk (sg_s_IsDisjunction K k), rv := rv_s_IsDisjunction }
noncomputable def cf_s_IsDisjunction (K : Nat) : Cfg := { ty := lk tys, fn := lk [(35, sp_s_l01Is (s_l01Is K)), (39, sp_s_l08Joined (s_l08Joined K))], fs := lk [], prot := 0, nt := Try.f16.ntmps }
theorem e_s_IsDisjunction (K : Nat) (x : den as_s_IsDisjunction) : s_IsDisjunction K x = evFn (cf_s_IsDisjunction K) as_s_IsDisjunction [false] (.tup (.pair .bool (.pair (.int .i64) .unit))) (en_s_IsDisjunction K K) Try.f16.results.toList (bodyOf Try.f16) x := by kernel_rfl
theorem ok_s_IsDisjunction (K : Nat) : FnOk Try.prog 16 (sp_s_IsDisjunction (s_IsDisjunction K)) :=
  fn_ok (cf := cf_s_IsDisjunction K) (en := en_s_IsDisjunction K K) (c := bodyOf Try.f16) Try.func16 (by kernel_rfl) (by kernel_rfl) tysOk (fns_ok (l := [(35, sp_s_l01Is (s_l01Is K)), (39, sp_s_l08Joined (s_l08Joined K))]) ⟨ok_s_l01Is K, ⟨ok_s_l08Joined K, trivial⟩⟩) (shs_ok (l := []) trivial) (by kernel_rfl) rfl (Nat.le_of_ble_eq_true (by kernel_rfl)) (by kernel_rfl) (of_decide_eq_true (by kernel_rfl)) (by decide) (fun C hP O => lpOk_of (en := en_s_IsDisjunction K K) (S := hasK su_s_IsDisjunction) (fun i => hasK_lk (sg_s_IsDisjunction K K) i) _ (by rw [show partsOf (hasK su_s_IsDisjunction) (bodyOf Try.f16) = [] from by kernel_rfl]; exact trivial)) (fun x y h => by rw [← e_s_IsDisjunction]; exact h)
noncomputable def as_i_IsConjunction : Ty := (.pair (.st (.pair (.int .i64) (.pair (.int .i64) .unit))) .unit)
noncomputable def sp_i_IsConjunction (F : ((Int × Int × Unit) × Unit) → Option (Bool × Int × Unit)) : FnSpec := ⟨as_i_IsConjunction, [false], (.tup (.pair .bool (.pair (.int .i64) .unit))), F⟩
noncomputable def i_IsConjunction (K : Nat) (x : ((Int × Int × Unit) × Unit)) : Option (Bool × Int × Unit) :=
    (i_IsFunc K (x.1, ())).bind fun y1 =>
    (if (!y1) = true then
    some (false, (1 : Int), ())
    else
    (i_Func_isConjunction K (x.1, ())).bind fun y2 =>
    some (y2, (0 : Int), ()))
noncomputable def rv_i_IsConjunction : Lv := [(2, (.v .bool)), (3, (.v (.int .i64)))]
noncomputable def sg_i_IsConjunction {R : Type} (K : Nat) (k : Nat) : List (Nat × SegS R) := []
noncomputable def su_i_IsConjunction : List (Nat × Unit) := []
noncomputable def en_i_IsConjunction {R : Type} (K : Nat) (k : Nat) : Env R := { L := lk [], X := lk [], S := lk (sg_i_IsConjunction K k), rv := rv_i_IsConjunction }
noncomputable def cf_i_IsConjunction (K : Nat) : Cfg := { ty := lk tys, fn := lk [(32, sp_i_IsFunc (i_IsFunc K)), (40, sp_i_Func_isConjunction (i_Func_isConjunction K))], fs := lk [], prot := 0, nt := Try.f17.ntmps }
theorem e_i_IsConjunction (K : Nat) (x : den as_i_IsConjunction) : i_IsConjunction K x = evFn (cf_i_IsConjunction K) as_i_IsConjunction [false] (.tup (.pair .bool (.pair (.int .i64) .unit))) (en_i_IsConjunction K K) Try.f17.results.toList (bodyOf Try.f17) x := by kernel_rfl
theorem ok_i_IsConjunction (K : Nat) : FnOk Try.prog 17 (sp_i_IsConjunction (i_IsConjunction K)) :=
  fn_ok (cf := cf_i_IsConjunction K) (en := en_i_IsConjunction K K) (c := bodyOf Try.f17) Try.func17 (by kernel_rfl) (by kernel_rfl) tysOk (fns_ok (l := [(32, sp_i_IsFunc (i_IsFunc K)), (40, sp_i_Func_isConjunction (i_Func_isConjunction K))]) ⟨ok_i_IsFunc K, ⟨ok_i_Func_isConjunction K, trivial⟩⟩) (shs_ok (l := []) trivial) (by kernel_rfl) rfl (Nat.le_of_ble_eq_true (by kernel_rfl)) (by kernel_rfl) (of_decide_eq_true (by kernel_rfl)) (by decide) (fun C hP O => lpOk_of (en := en_i_IsConjunction K K) (S := hasK su_i_IsConjunction) (fun i => hasK_lk (sg_i_IsConjunction K K) i) _ (by rw [show partsOf (hasK su_i_IsConjunction) (bodyOf Try.f17) = [] from by kernel_rfl]; exact trivial)) (fun x y h => by rw [← e_i_IsConjunction]; exact h)
noncomputable def as_s_IsConjunction : Ty := (.pair (.st (.pair (.int .i64) (.pair (.int .i64) .unit))) .unit)
noncomputable def sp_s_IsConjunction (F : ((Int × Int × Unit) × Unit) → Option (Bool × Int × Unit)) : FnSpec := ⟨as_s_IsConjunction, [false], (.tup (.pair .bool (.pair (.int .i64) .unit))), F⟩
noncomputable def s_IsConjunction (K : Nat) (x : ((Int × Int × Unit) × Unit)) : Option (Bool × Int × Unit) :=
    (s_l01Is K (x.1, ())).bind fun y1 =>
    (if (!y1) = true then
    some (false, (1 : Int), ())
    else
    (s_l08Joined K (x.1, true, ())).bind fun y2 =>
    some (y2, (0 : Int), ()))
noncomputable def rv_s_IsConjunction : Lv := [(2, (.v .bool)), (3, (.v (.int .i64)))]
noncomputable def sg_s_IsConjunction {R : Type} (K : Nat) (k : Nat) : List (Nat × SegS R) := []
noncomputable def su_s_IsConjunction : List (Nat × Unit) := []
noncomputable def en_s_IsConjunction {R : Type} (K : Nat) (k : Nat) : Env R := { L := lk [], X := lk [], S := lk (sg_s_IsConjunction K k), rv := rv_s_IsConjunction }
noncomputable def cf_s_IsConjunction (K : Nat) : Cfg := { ty := lk tys, fn := lk [(35, sp_s_l01Is (s_l01Is K)), (39, sp_s_l08Joined (s_l08Joined K))], fs := lk [], prot := 0, nt := Try.f18.ntmps }
theorem e_s_IsConjunction (K : Nat) (x : den as_s_IsConjunction) : s_IsConjunction K x = evFn (cf_s_IsConjunction K) as_s_IsConjunction [false] (.tup (.pair .bool (.pair (.int .i64) .unit))) (en_s_IsConjunction K K) Try.f18.results.toList (bodyOf Try.f18) x := by kernel_rfl
theorem ok_s_IsConjunction (K : Nat) : FnOk Try.prog 18 (sp_s_IsConjunction (s_IsConjunction K)) :=
  fn_ok (cf := cf_s_IsConjunction K) (en := en_s_IsConjunction K K) (c := bodyOf Try.f18) Try.func18 (by kernel_rfl) (by kernel_rfl) tysOk (fns_ok (l := [(35, sp_s_l01Is (s_l01Is K)), (39, sp_s_l08Joined (s_l08Joined K))]) ⟨ok_s_l01Is K, ⟨ok_s_l08Joined K, trivial⟩⟩) (shs_ok (l := []) trivial) (by kernel_rfl) rfl (Nat.le_of_ble_eq_true (by kernel_rfl)) (by kernel_rfl) (of_decide_eq_true (by kernel_rfl)) (by decide) (fun C hP O => lpOk_of (en := en_s_IsConjunction K K) (S := hasK su_s_IsConjunction) (fun i => hasK_lk (sg_s_IsConjunction K K) i) _ (by rw [show partsOf (hasK su_s_IsConjunction) (bodyOf Try.f18) = [] from by kernel_rfl]; exact trivial)) (fun x y h => by rw [← e_s_IsConjunction]; exact h)
noncomputable def as_s_DrawIsUnary : Ty := (.pair (.sl (.int .u8)) .unit)
noncomputable def sp_s_DrawIsUnary (F : ((List Int) × Unit) → Option (Int × Int × Unit)) : FnSpec := ⟨as_s_DrawIsUnary, [false], (.st (.pair (.int .i64) (.pair (.int .i64) .unit))), F⟩
noncomputable def s_DrawIsUnary (K : Nat) (x : ((List Int) × Unit)) : Option (Int × Int × Unit) :=
    (s_l01From K (x.1, ())).bind fun y1 =>
    (s_l01Next K (y1.1.1, (2 : Int), ())).bind fun y2 =>
    (if (decide (y2.1.1 = (0 : Int))) = true then
    (s_l01DrawOf K (y2.2.1, (1 : Int), ())).bind fun y3 =>
    some y3.1.1
    else
    (s_DrawIsDisjunction K (x.1, ())).bind fun y4 =>
    some y4)
noncomputable def rv_s_DrawIsUnary : Lv := [(2, (.bx (.v (.st (.pair (.int .i64) (.pair (.int .i64) .unit))))))]
noncomputable def sg_s_DrawIsUnary {R : Type} (K : Nat) (k : Nat) : List (Nat × SegS R) := []
noncomputable def su_s_DrawIsUnary : List (Nat × Unit) := []
noncomputable def en_s_DrawIsUnary {R : Type} (K : Nat) (k : Nat) : Env R := { L := lk [], X := lk [], S := lk (sg_s_DrawIsUnary K k), rv := rv_s_DrawIsUnary }
noncomputable def cf_s_DrawIsUnary (K : Nat) : Cfg := { ty := lk tys, fn := lk [(14, sp_s_DrawIsDisjunction (s_DrawIsDisjunction K))], fs := lk [(28, sp_s_l01From (s_l01From K)), (30, sp_s_l01Next (s_l01Next K)), (41, sp_s_l01DrawOf (s_l01DrawOf K))], prot := 0, nt := Try.f19.ntmps }
theorem e_s_DrawIsUnary (K : Nat) (x : den as_s_DrawIsUnary) : s_DrawIsUnary K x = evFn (cf_s_DrawIsUnary K) as_s_DrawIsUnary [false] (.st (.pair (.int .i64) (.pair (.int .i64) .unit))) (en_s_DrawIsUnary K K) Try.f19.results.toList (bodyOf Try.f19) x := by kernel_rfl
theorem ok_s_DrawIsUnary (K : Nat) : FnOk Try.prog 19 (sp_s_DrawIsUnary (s_DrawIsUnary K)) :=
  fn_ok (cf := cf_s_DrawIsUnary K) (en := en_s_DrawIsUnary K K) (c := bodyOf Try.f19) Try.func19 (by kernel_rfl) (by kernel_rfl) tysOk (fns_ok (l := [(14, sp_s_DrawIsDisjunction (s_DrawIsDisjunction K))]) ⟨ok_s_DrawIsDisjunction K, trivial⟩) (shs_ok (l := [(28, sp_s_l01From (s_l01From K)), (30, sp_s_l01Next (s_l01Next K)), (41, sp_s_l01DrawOf (s_l01DrawOf K))]) ⟨ok_s_l01From K, ⟨ok_s_l01Next K, ⟨ok_s_l01DrawOf K, trivial⟩⟩⟩) (by kernel_rfl) rfl (Nat.le_of_ble_eq_true (by kernel_rfl)) (by kernel_rfl) (of_decide_eq_true (by kernel_rfl)) (by decide) (fun C hP O => lpOk_of (en := en_s_DrawIsUnary K K) (S := hasK su_s_DrawIsUnary) (fun i => hasK_lk (sg_s_DrawIsUnary K K) i) _ (by rw [show partsOf (hasK su_s_DrawIsUnary) (bodyOf Try.f19) = [] from by kernel_rfl]; exact trivial)) (fun x y h => by rw [← e_s_DrawIsUnary]; exact h)
noncomputable def as_i_IsUnary : Ty := (.pair (.st (.pair (.int .i64) (.pair (.int .i64) .unit))) .unit)
noncomputable def sp_i_IsUnary (F : ((Int × Int × Unit) × Unit) → Option (Bool × Int × Unit)) : FnSpec := ⟨as_i_IsUnary, [false], (.tup (.pair .bool (.pair (.int .i64) .unit))), F⟩
noncomputable def i_IsUnary (K : Nat) (x : ((Int × Int × Unit) × Unit)) : Option (Bool × Int × Unit) :=
    (i_IsFunc K (x.1, ())).bind fun y1 =>
    (if (!y1) = true then
    some (false, (1 : Int), ())
    else
    (i_Func_isUnary K (x.1, ())).bind fun y2 =>
    some (y2, (0 : Int), ()))
noncomputable def rv_i_IsUnary : Lv := [(2, (.v .bool)), (3, (.v (.int .i64)))]
noncomputable def sg_i_IsUnary {R : Type} (K : Nat) (k : Nat) : List (Nat × SegS R) := []
noncomputable def su_i_IsUnary : List (Nat × Unit) := []
noncomputable def en_i_IsUnary {R : Type} (K : Nat) (k : Nat) : Env R := { L := lk [], X := lk [], S := lk (sg_i_IsUnary K k), rv := rv_i_IsUnary }
noncomputable def cf_i_IsUnary (K : Nat) : Cfg := { ty := lk tys, fn := lk [(32, sp_i_IsFunc (i_IsFunc K)), (42, sp_i_Func_isUnary (i_Func_isUnary K))], fs := lk [], prot := 0, nt := Try.f20.ntmps }
theorem e_i_IsUnary (K : Nat) (x : den as_i_IsUnary) : i_IsUnary K x = evFn (cf_i_IsUnary K) as_i_IsUnary [false] (.tup (.pair .bool (.pair (.int .i64) .unit))) (en_i_IsUnary K K) Try.f20.results.toList (bodyOf Try.f20) x := by kernel_rfl
theorem ok_i_IsUnary (K : Nat) : FnOk Try.prog 20 (sp_i_IsUnary (i_IsUnary K)) :=
  fn_ok (cf := cf_i_IsUnary K) (en := en_i_IsUnary K K) (c := bodyOf Try.f20) Try.func20 (by kernel_rfl) (by kernel_rfl) tysOk (fns_ok (l := [(32, sp_i_IsFunc (i_IsFunc K)), (42, sp_i_Func_isUnary (i_Func_isUnary K))]) ⟨ok_i_IsFunc K, ⟨ok_i_Func_isUnary K, trivial⟩⟩) (shs_ok (l := []) trivial) (by kernel_rfl) rfl (Nat.le_of_ble_eq_true (by kernel_rfl)) (by kernel_rfl) (of_decide_eq_true (by kernel_rfl)) (by decide) (fun C hP O => lpOk_of (en := en_i_IsUnary K K) (S := hasK su_i_IsUnary) (fun i => hasK_lk (sg_i_IsUnary K K) i) _ (by rw [show partsOf (hasK su_i_IsUnary) (bodyOf Try.f20) = [] from by kernel_rfl]; exact trivial)) (fun x y h => by rw [← e_i_IsUnary]; exact h)
noncomputable def as_s_IsUnary : Ty := (.pair (.st (.pair (.int .i64) (.pair (.int .i64) .unit))) .unit)
noncomputable def sp_s_IsUnary (F : ((Int × Int × Unit) × Unit) → Option (Bool × Int × Unit)) : FnSpec := ⟨as_s_IsUnary, [false], (.tup (.pair .bool (.pair (.int .i64) .unit))), F⟩
noncomputable def s_IsUnary (K : Nat) (x : ((Int × Int × Unit) × Unit)) : Option (Bool × Int × Unit) :=
    (s_l01Is K (x.1, ())).bind fun y1 =>
    (if (!y1) = true then
    some (false, (1 : Int), ())
    else
    (s_l01Essential K (x.1, ())).bind fun y2 =>
    some ((decide ((y2.length : Int) ≤ (1 : Int))), (0 : Int), ()))
noncomputable def rv_s_IsUnary : Lv := [(2, (.v .bool)), (3, (.v (.int .i64)))]
noncomputable def sg_s_IsUnary {R : Type} (K : Nat) (k : Nat) : List (Nat × SegS R) := []
noncomputable def su_s_IsUnary : List (Nat × Unit) := []
noncomputable def en_s_IsUnary {R : Type} (K : Nat) (k : Nat) : Env R := { L := lk [], X := lk [], S := lk (sg_s_IsUnary K k), rv := rv_s_IsUnary }
noncomputable def cf_s_IsUnary (K : Nat) : Cfg := { ty := lk tys, fn := lk [(35, sp_s_l01Is (s_l01Is K)), (43, sp_s_l01Essential (s_l01Essential K))], fs := lk [], prot := 0, nt := Try.f21.ntmps }
theorem e_s_IsUnary (K : Nat) (x : den as_s_IsUnary) : s_IsUnary K x = evFn (cf_s_IsUnary K) as_s_IsUnary [false] (.tup (.pair .bool (.pair (.int .i64) .unit))) (en_s_IsUnary K K) Try.f21.results.toList (bodyOf Try.f21) x := by kernel_rfl
theorem ok_s_IsUnary (K : Nat) : FnOk Try.prog 21 (sp_s_IsUnary (s_IsUnary K)) :=
  fn_ok (cf := cf_s_IsUnary K) (en := en_s_IsUnary K K) (c := bodyOf Try.f21) Try.func21 (by kernel_rfl) (by kernel_rfl) tysOk (fns_ok (l := [(35, sp_s_l01Is (s_l01Is K)), (43, sp_s_l01Essential (s_l01Essential K))]) ⟨ok_s_l01Is K, ⟨ok_s_l01Essential K, trivial⟩⟩) (shs_ok (l := []) trivial) (by kernel_rfl) rfl (Nat.le_of_ble_eq_true (by kernel_rfl)) (by kernel_rfl) (of_decide_eq_true (by kernel_rfl)) (by decide) (fun C hP O => lpOk_of (en := en_s_IsUnary K K) (S := hasK su_s_IsUnary) (fun i => hasK_lk (sg_s_IsUnary K K) i) _ (by rw [show partsOf (hasK su_s_IsUnary) (bodyOf Try.f21) = [] from by kernel_rfl]; exact trivial)) (fun x y h => by rw [← e_s_IsUnary]; exact h)
noncomputable def as_i_DualOf : Ty := (.pair (.st (.pair (.int .i64) (.pair (.int .i64) .unit))) .unit)
noncomputable def sp_i_DualOf (F : ((Int × Int × Unit) × Unit) → Option ((Int × Int × Unit) × Int × Unit)) : FnSpec := ⟨as_i_DualOf, [false], (.tup (.pair (.st (.pair (.int .i64) (.pair (.int .i64) .unit))) (.pair (.int .i64) .unit))), F⟩
noncomputable def i_DualOf (K : Nat) (x : ((Int × Int × Unit) × Unit)) : Option ((Int × Int × Unit) × Int × Unit) :=
    (i_IsFunc K (x.1, ())).bind fun y1 =>
    (if (!y1) = true then
    some (((0 : Int), (0 : Int), ()), (1 : Int), ())
    else
    (i_Func_dual K (x.1, ())).bind fun y2 =>
    some (y2, (0 : Int), ()))
noncomputable def rv_i_DualOf : Lv := [(2, (.bx (.v (.st (.pair (.int .i64) (.pair (.int .i64) .unit)))))), (3, (.v (.int .i64)))]
noncomputable def sg_i_DualOf {R : Type} (K : Nat) (k : Nat) : List (Nat × SegS R) := []
noncomputable def su_i_DualOf : List (Nat × Unit) := []
noncomputable def en_i_DualOf {R : Type} (K : Nat) (k : Nat) : Env R := { L := lk [], X := lk [], S := lk (sg_i_DualOf K k), rv := rv_i_DualOf }
noncomputable def cf_i_DualOf (K : Nat) : Cfg := { ty := lk tys, fn := lk [(32, sp_i_IsFunc (i_IsFunc K)), (44, sp_i_Func_dual (i_Func_dual K))], fs := lk [], prot := 0, nt := Try.f22.ntmps }
theorem e_i_DualOf (K : Nat) (x : den as_i_DualOf) : i_DualOf K x = evFn (cf_i_DualOf K) as_i_DualOf [false] (.tup (.pair (.st (.pair (.int .i64) (.pair (.int .i64) .unit))) (.pair (.int .i64) .unit))) (en_i_DualOf K K) Try.f22.results.toList (bodyOf Try.f22) x := by kernel_rfl
theorem ok_i_DualOf (K : Nat) : FnOk Try.prog 22 (sp_i_DualOf (i_DualOf K)) :=
  fn_ok (cf := cf_i_DualOf K) (en := en_i_DualOf K K) (c := bodyOf Try.f22) Try.func22 (by kernel_rfl) (by kernel_rfl) tysOk (fns_ok (l := [(32, sp_i_IsFunc (i_IsFunc K)), (44, sp_i_Func_dual (i_Func_dual K))]) ⟨ok_i_IsFunc K, ⟨ok_i_Func_dual K, trivial⟩⟩) (shs_ok (l := []) trivial) (by kernel_rfl) rfl (Nat.le_of_ble_eq_true (by kernel_rfl)) (by kernel_rfl) (of_decide_eq_true (by kernel_rfl)) (by decide) (fun C hP O => lpOk_of (en := en_i_DualOf K K) (S := hasK su_i_DualOf) (fun i => hasK_lk (sg_i_DualOf K K) i) _ (by rw [show partsOf (hasK su_i_DualOf) (bodyOf Try.f22) = [] from by kernel_rfl]; exact trivial)) (fun x y h => by rw [← e_i_DualOf]; exact h)
noncomputable def as_w_FnNamedParts : Ty := (.pair (.sl (.int .u8)) .unit)
noncomputable def sp_w_FnNamedParts (F : ((List Int) × Unit) → Option Bool) : FnSpec := ⟨as_w_FnNamedParts, [false], .bool, F⟩
noncomputable def w_FnNamedParts_l27 {R : Type} (K : Nat) : Nat → (Int × Int × Unit) → Int → Int → Int → (Int × Int × Unit) → Bool → Int → (List ByteArray) → (List ByteArray) → Int → ((Int × Int × Unit) → Int → Int → Int → (Int × Int × Unit) → Bool → Int → Option R) → (Bool → Option R) → Option R
  | 0, _, _, _, _, _, _, _, _, _, _, _, _ => none
  | k + 1, v3, v4, v5, v6, v9, v10, v11, v23, v24, v25, kx0, kr =>
    (if (decide (v25 < (v23.length : Int))) = true then
    (if (bnds v25 (v23.length : Int)) = true then
    (if (bnds v25 (v24.length : Int)) = true then
    let x15 := (cmpS .neq (v23.getD v25.toNat ByteArray.empty) (v24.getD v25.toNat ByteArray.empty))
    (if x15 = true then
    kr false
    else
    (if (decide (v25 > (0 : Int))) = true then
    (if (bnds v25 (v23.length : Int)) = true then
    (if (bnds (IntKind.i64.wrap (v25 - (1 : Int))) (v23.length : Int)) = true then
    let x16 := (v23.getD (IntKind.i64.wrap (v25 - (1 : Int))).toNat ByteArray.empty)
    (if (cmpS .leq (v23.getD v25.toNat ByteArray.empty) x16) = true then
    kr false
    else
    w_FnNamedParts_l27 K k v3 v4 v5 v6 v9 v10 v11 v23 v24 (IntKind.i64.wrap (v25 + (1 : Int))) kx0 kr)
    else
    none)
    else
    none)
    else
    w_FnNamedParts_l27 K k v3 v4 v5 v6 v9 v10 v11 v23 v24 (IntKind.i64.wrap (v25 + (1 : Int))) kx0 kr))
    else
    none)
    else
    none)
    else
    kx0 v3 v4 v5 v6 v9 v10 v11)
noncomputable def w_FnNamedParts_j36 {R : Type} (K : Nat) (k : Nat) (v3 : (Int × Int × Unit)) (v4 : Int) (v5 : Int) (v6 : Int) (kn : Option R) (kr : (Bool → Option R)) : Option R :=
    (if (!decide (v6 = (0 : Int))) = true then
    kr (decide (v5 = (0 : Int)))
    else
    (i_DualOf K (v3, ())).bind fun y26 =>
    (i_SeparatingDegree K (y26.1, (IntKind.i64.wrap ((1 : Int) - v4)), ())).bind fun y27 =>
    (if (decide (y26.2.1 = (0 : Int))) = true then
    (if (decide (y27.2.1 = (0 : Int))) = true then
    kr (decide (y27.1 = v5))
    else
    kr false)
    else
    kr false))
noncomputable def w_FnNamedParts_j22 {R : Type} (K : Nat) (k : Nat) (v3 : (Int × Int × Unit)) (v4 : Int) (v5 : Int) (v6 : Int) (v9 : (Int × Int × Unit)) (v10 : Bool) (v11 : Int) (kn : Option R) (kr : (Bool → Option R)) : Option R :=
    (i_CloneNames K ()).bind fun y13 =>
    (s_CloneNames K ()).bind fun y14 =>
    (if (!decide ((y13.length : Int) = (y14.length : Int))) = true then
    kr false
    else
    w_FnNamedParts_l27 K k v3 v4 v5 v6 v9 v10 v11 y13 y14 (0 : Int) (fun z17 z18 z19 z20 z21 z22 z23 =>
    (if (decide (z23 = (0 : Int))) = true then
    (i_DualOf K (z21, ())).bind fun y24 =>
    (i_IsConjunction K (y24.1, ())).bind fun y25 =>
    (if (!decide (y24.2.1 = (0 : Int))) = true then
    kr false
    else
    (if (!decide (y25.2.1 = (0 : Int))) = true then
    kr false
    else
    (if (!(y25.1 == z22)) = true then
    kr false
    else
    w_FnNamedParts_j36 K k z17 z18 z19 z20 none (fun z28 =>
    kr z28))))
    else
    w_FnNamedParts_j36 K k z17 z18 z19 z20 none (fun z29 =>
    kr z29))) (fun z30 =>
    kr z30))
noncomputable def w_FnNamedParts_j17 {R : Type} (K : Nat) (k : Nat) (v0 : (List Int)) (v3 : (Int × Int × Unit)) (v4 : Int) (v5 : Int) (v6 : Int) (v9 : (Int × Int × Unit)) (v10 : Bool) (v11 : Int) (kn : Option R) (kr : (Bool → Option R)) : Option R :=
    (s_DrawIsUnary K (v0, ())).bind fun y10 =>
    (i_IsUnary K (y10, ())).bind fun y11 =>
    (s_IsUnary K (y10, ())).bind fun y12 =>
    (if (!decide (y11.2.1 = y12.2.1)) = true then
    kr false
    else
    (if (!(y11.1 == y12.1)) = true then
    kr false
    else
    w_FnNamedParts_j22 K k v3 v4 v5 v6 v9 v10 v11 none (fun z31 =>
    kr z31)))
noncomputable def w_FnNamedParts_j13 {R : Type} (K : Nat) (k : Nat) (v0 : (List Int)) (v3 : (Int × Int × Unit)) (v4 : Int) (v5 : Int) (v6 : Int) (v9 : (Int × Int × Unit)) (v10 : Bool) (v11 : Int) (kn : Option R) (kr : (Bool → Option R)) : Option R :=
    (i_IsConjunction K (v9, ())).bind fun y8 =>
    (s_IsConjunction K (v9, ())).bind fun y9 =>
    (if (!decide (y8.2.1 = y9.2.1)) = true then
    kr false
    else
    (if (!(y8.1 == y9.1)) = true then
    kr false
    else
    w_FnNamedParts_j17 K k v0 v3 v4 v5 v6 v9 v10 v11 none (fun z32 =>
    kr z32)))
noncomputable def w_FnNamedParts_j8 {R : Type} (K : Nat) (k : Nat) (v0 : (List Int)) (v3 : (Int × Int × Unit)) (v4 : Int) (v5 : Int) (v6 : Int) (kn : Option R) (kr : (Bool → Option R)) : Option R :=
    (s_DrawIsDisjunction K (v0, ())).bind fun y5 =>
    (i_IsDisjunction K (y5, ())).bind fun y6 =>
    (s_IsDisjunction K (y5, ())).bind fun y7 =>
    (if (!decide (y6.2.1 = y7.2.1)) = true then
    kr false
    else
    (if (!(y6.1 == y7.1)) = true then
    kr false
    else
    w_FnNamedParts_j13 K k v0 v3 v4 v5 v6 y5 y6.1 y6.2.1 none (fun z33 =>
    kr z33)))
noncomputable def w_FnNamedParts (K : Nat) (x : ((List Int) × Unit)) : Option Bool :=
    (w_big K (x.1, ())).bind fun y1 =>
    (if y1 = true then
    some true
    else
    (s_DrawSeparatingDegree K (x.1, ())).bind fun y2 =>
    (i_SeparatingDegree K (y2.1, y2.2.1, ())).bind fun y3 =>
    (s_SeparatingDegree K (y2.1, y2.2.1, ())).bind fun y4 =>
    (if (!decide (y3.2.1 = y4.2.1)) = true then
    some false
    else
    (if (!decide (y3.1 = y4.1)) = true then
    some false
    else
    w_FnNamedParts_j8 K K x.1 y2.1 y2.2.1 y3.1 y3.2.1 none (fun z34 =>
    some z34))))
noncomputable def lv_w_FnNamedParts_J8 : Lv := [(0, (.v (.sl (.int .u8)))), (3, (.bx (.v (.st (.pair (.int .i64) (.pair (.int .i64) .unit)))))), (4, (.v (.int .i64))), (5, (.v (.int .i64))), (6, (.v (.int .i64)))]
noncomputable def lv_w_FnNamedParts_J13 : Lv := [(0, (.v (.sl (.int .u8)))), (3, (.bx (.v (.st (.pair (.int .i64) (.pair (.int .i64) .unit)))))), (4, (.v (.int .i64))), (5, (.v (.int .i64))), (6, (.v (.int .i64))), (9, (.bx (.v (.st (.pair (.int .i64) (.pair (.int .i64) .unit)))))), (10, (.v .bool)), (11, (.v (.int .i64)))]
noncomputable def lv_w_FnNamedParts_J17 : Lv := [(0, (.v (.sl (.int .u8)))), (3, (.bx (.v (.st (.pair (.int .i64) (.pair (.int .i64) .unit)))))), (4, (.v (.int .i64))), (5, (.v (.int .i64))), (6, (.v (.int .i64))), (9, (.bx (.v (.st (.pair (.int .i64) (.pair (.int .i64) .unit)))))), (10, (.v .bool)), (11, (.v (.int .i64)))]
noncomputable def lv_w_FnNamedParts_J22 : Lv := [(3, (.bx (.v (.st (.pair (.int .i64) (.pair (.int .i64) .unit)))))), (4, (.v (.int .i64))), (5, (.v (.int .i64))), (6, (.v (.int .i64))), (9, (.bx (.v (.st (.pair (.int .i64) (.pair (.int .i64) .unit)))))), (10, (.v .bool)), (11, (.v (.int .i64)))]
noncomputable def lv_w_FnNamedParts_J36 : Lv := [(3, (.bx (.v (.st (.pair (.int .i64) (.pair (.int .i64) .unit)))))), (4, (.v (.int .i64))), (5, (.v (.int .i64))), (6, (.v (.int .i64)))]
noncomputable def lv_w_FnNamedParts_L27 : Lv := [(3, (.bx (.v (.st (.pair (.int .i64) (.pair (.int .i64) .unit)))))), (4, (.v (.int .i64))), (5, (.v (.int .i64))), (6, (.v (.int .i64))), (9, (.bx (.v (.st (.pair (.int .i64) (.pair (.int .i64) .unit)))))), (10, (.v .bool)), (11, (.v (.int .i64))), (23, (.r .str)), (24, (.r .str)), (25, (.v (.int .i64)))]
noncomputable def lv_w_FnNamedParts_N8 : Lv := []
noncomputable def lv_w_FnNamedParts_N13 : Lv := []
noncomputable def lv_w_FnNamedParts_N17 : Lv := []
noncomputable def lv_w_FnNamedParts_N22 : Lv := []
noncomputable def lv_w_FnNamedParts_N36 : Lv := []
noncomputable def lv_w_FnNamedParts_X0 : Lv := [(3, (.bx (.v (.st (.pair (.int .i64) (.pair (.int .i64) .unit)))))), (4, (.v (.int .i64))), (5, (.v (.int .i64))), (6, (.v (.int .i64))), (9, (.bx (.v (.st (.pair (.int .i64) (.pair (.int .i64) .unit)))))), (10, (.v .bool)), (11, (.v (.int .i64)))]
noncomputable def rv_w_FnNamedParts : Lv := [(2, (.v .bool))]
noncomputable def gw_FnNamedParts_l27 {R : Type} (K : Nat) (k : Nat) (x : den lv_w_FnNamedParts_L27.ty) (kx : Nat → St → Option R) (kr : St → Option R) : Option R := w_FnNamedParts_l27 K k x.1 x.2.1 x.2.2.1 x.2.2.2.1 x.2.2.2.2.1 x.2.2.2.2.2.1 x.2.2.2.2.2.2.1 x.2.2.2.2.2.2.2.1 x.2.2.2.2.2.2.2.2.1 x.2.2.2.2.2.2.2.2.2.1 (fun z0 z1 z2 z3 z4 z5 z6 => kx 0 (mkSt lv_w_FnNamedParts_X0 (z0, z1, z2, z3, z4, z5, z6, ()))) (fun z0 => kr (mkSt rv_w_FnNamedParts (z0, ())))
noncomputable def gw_FnNamedParts_j36 {R : Type} (K : Nat) (k : Nat) (x : den lv_w_FnNamedParts_J36.ty) (kn : den lv_w_FnNamedParts_N36.ty → Option R) (kx : Nat → St → Option R) (kr : St → Option R) : Option R := w_FnNamedParts_j36 K k x.1 x.2.1 x.2.2.1 x.2.2.2.1 (kn ()) (fun z0 => kr (mkSt rv_w_FnNamedParts (z0, ())))
noncomputable def gw_FnNamedParts_j22 {R : Type} (K : Nat) (k : Nat) (x : den lv_w_FnNamedParts_J22.ty) (kn : den lv_w_FnNamedParts_N22.ty → Option R) (kx : Nat → St → Option R) (kr : St → Option R) : Option R := w_FnNamedParts_j22 K k x.1 x.2.1 x.2.2.1 x.2.2.2.1 x.2.2.2.2.1 x.2.2.2.2.2.1 x.2.2.2.2.2.2.1 (kn ()) (fun z0 => kr (mkSt rv_w_FnNamedParts (z0, ())))
noncomputable def gw_FnNamedParts_j17 {R : Type} (K : Nat) (k : Nat) (x : den lv_w_FnNamedParts_J17.ty) (kn : den lv_w_FnNamedParts_N17.ty → Option R) (kx : Nat → St → Option R) (kr : St → Option R) : Option R := w_FnNamedParts_j17 K k x.1 x.2.1 x.2.2.1 x.2.2.2.1 x.2.2.2.2.1 x.2.2.2.2.2.1 x.2.2.2.2.2.2.1 x.2.2.2.2.2.2.2.1 (kn ()) (fun z0 => kr (mkSt rv_w_FnNamedParts (z0, ())))
noncomputable def gw_FnNamedParts_j13 {R : Type} (K : Nat) (k : Nat) (x : den lv_w_FnNamedParts_J13.ty) (kn : den lv_w_FnNamedParts_N13.ty → Option R) (kx : Nat → St → Option R) (kr : St → Option R) : Option R := w_FnNamedParts_j13 K k x.1 x.2.1 x.2.2.1 x.2.2.2.1 x.2.2.2.2.1 x.2.2.2.2.2.1 x.2.2.2.2.2.2.1 x.2.2.2.2.2.2.2.1 (kn ()) (fun z0 => kr (mkSt rv_w_FnNamedParts (z0, ())))
noncomputable def gw_FnNamedParts_j8 {R : Type} (K : Nat) (k : Nat) (x : den lv_w_FnNamedParts_J8.ty) (kn : den lv_w_FnNamedParts_N8.ty → Option R) (kx : Nat → St → Option R) (kr : St → Option R) : Option R := w_FnNamedParts_j8 K k x.1 x.2.1 x.2.2.1 x.2.2.2.1 x.2.2.2.2.1 (kn ()) (fun z0 => kr (mkSt rv_w_FnNamedParts (z0, ())))
noncomputable def sg_w_FnNamedParts {R : Type} (K : Nat) (k : Nat) : List (Nat × SegS R) := [(36, mkSeg lv_w_FnNamedParts_J36 lv_w_FnNamedParts_N36 (gw_FnNamedParts_j36 K k)), (22, mkSeg lv_w_FnNamedParts_J22 lv_w_FnNamedParts_N22 (gw_FnNamedParts_j22 K k)), (17, mkSeg lv_w_FnNamedParts_J17 lv_w_FnNamedParts_N17 (gw_FnNamedParts_j17 K k)), (13, mkSeg lv_w_FnNamedParts_J13 lv_w_FnNamedParts_N13 (gw_FnNamedParts_j13 K k)), (8, mkSeg lv_w_FnNamedParts_J8 lv_w_FnNamedParts_N8 (gw_FnNamedParts_j8 K k))]
noncomputable def su_w_FnNamedParts : List (Nat × Unit) := [(36, ()), (22, ()), (17, ()), (13, ()), (8, ())]
noncomputable def en_w_FnNamedParts {R : Type} (K : Nat) (k : Nat) : Env R := { L := lk [(27, mkLoop lv_w_FnNamedParts_L27 (gw_FnNamedParts_l27 K k))], X := lk [(0, lv_w_FnNamedParts_X0)], S := lk (sg_w_FnNamedParts K k), rv := rv_w_FnNamedParts }
noncomputable def cf_w_FnNamedParts (K : Nat) : Cfg := { ty := lk tys, fn := lk [(5, sp_s_CloneNames (s_CloneNames K)), (6, sp_i_CloneNames (i_CloneNames K)), (10, sp_w_big (w_big K)), (11, sp_s_DrawSeparatingDegree (s_DrawSeparatingDegree K)), (12, sp_i_SeparatingDegree (i_SeparatingDegree K)), (13, sp_s_SeparatingDegree (s_SeparatingDegree K)), (14, sp_s_DrawIsDisjunction (s_DrawIsDisjunction K)), (15, sp_i_IsDisjunction (i_IsDisjunction K)), (16, sp_s_IsDisjunction (s_IsDisjunction K)), (17, sp_i_IsConjunction (i_IsConjunction K)), (18, sp_s_IsConjunction (s_IsConjunction K)), (19, sp_s_DrawIsUnary (s_DrawIsUnary K)), (20, sp_i_IsUnary (i_IsUnary K)), (21, sp_s_IsUnary (s_IsUnary K)), (22, sp_i_DualOf (i_DualOf K))], fs := lk [], prot := 0, nt := Try.f4.ntmps }
noncomputable def c_w_FnNamedParts_J8 : Code := nthC (partsOf (hasK su_w_FnNamedParts) (bodyOf Try.f4)) 0
noncomputable def c_w_FnNamedParts_J13 : Code := nthC (partsOf (hasK su_w_FnNamedParts) c_w_FnNamedParts_J8) 0
noncomputable def c_w_FnNamedParts_J17 : Code := nthC (partsOf (hasK su_w_FnNamedParts) c_w_FnNamedParts_J13) 0
noncomputable def c_w_FnNamedParts_J22 : Code := nthC (partsOf (hasK su_w_FnNamedParts) c_w_FnNamedParts_J17) 0
noncomputable def c_w_FnNamedParts_L27 : Code := nthC (partsOf (hasK su_w_FnNamedParts) c_w_FnNamedParts_J22) 0
noncomputable def c_w_FnNamedParts_J36 : Code := nthC (partsOf (hasK su_w_FnNamedParts) c_w_FnNamedParts_J22) 1
theorem ew_FnNamedParts_l27 {R : Type} (K : Nat) (k : Nat) (x : den lv_w_FnNamedParts_L27.ty) (kx : Nat → St → Option R) (kr : St → Option R) : gw_FnNamedParts_l27 K (k + 1) x kx kr = evC (cf_w_FnNamedParts K) (en_w_FnNamedParts K k) c_w_FnNamedParts_L27 (mkSt lv_w_FnNamedParts_L27 x) (fun s => mkLoop lv_w_FnNamedParts_L27 (gw_FnNamedParts_l27 K k) s kx kr) kx kr := by kernel_rfl
theorem sw_FnNamedParts_l27 {R : Type} (K : Nat) (C : Cx) (hP : C.P = Try.prog) (O : CfgOk C (cf_w_FnNamedParts K)) (k : Nat) : LpS C (R := R) (mkLoop lv_w_FnNamedParts_L27 (gw_FnNamedParts_l27 K k)) c_w_FnNamedParts_L27 :=
  loop_sound O (by rw [hP]; kernel_rfl) (fun x kx kr => rfl) (ew_FnNamedParts_l27 K) (fun k => lpOk_of (en := en_w_FnNamedParts K k) (S := hasK su_w_FnNamedParts) (fun i => hasK_lk (sg_w_FnNamedParts K k) i) _ (by rw [show partsOf (hasK su_w_FnNamedParts) c_w_FnNamedParts_L27 = [] from by kernel_rfl]; exact trivial)) k
theorem ew_FnNamedParts_j36 {R : Type} (K : Nat) (k : Nat) (x : den lv_w_FnNamedParts_J36.ty) (kn : den lv_w_FnNamedParts_N36.ty → Option R) (kx : Nat → St → Option R) (kr : St → Option R) : gw_FnNamedParts_j36 K k x kn kx kr = evC (cf_w_FnNamedParts K) (en_w_FnNamedParts K k) c_w_FnNamedParts_J36 (mkSt lv_w_FnNamedParts_J36 x) (cutK lv_w_FnNamedParts_N36 kn) kx kr := by kernel_rfl
theorem sw_FnNamedParts_j36 {R : Type} (K : Nat) (C : Cx) (hP : C.P = Try.prog) (O : CfgOk C (cf_w_FnNamedParts K)) (k : Nat) : SgS C (R := R) (mkSeg lv_w_FnNamedParts_J36 lv_w_FnNamedParts_N36 (gw_FnNamedParts_j36 K k)) c_w_FnNamedParts_J36 :=
  seg_sound O (by rw [hP]; kernel_rfl) (ew_FnNamedParts_j36 K k) (lpOk_of (en := en_w_FnNamedParts K k) (S := hasK su_w_FnNamedParts) (fun i => hasK_lk (sg_w_FnNamedParts K k) i) _ (by rw [show partsOf (hasK su_w_FnNamedParts) c_w_FnNamedParts_J36 = [] from by kernel_rfl]; exact trivial))
theorem ew_FnNamedParts_j22 {R : Type} (K : Nat) (k : Nat) (x : den lv_w_FnNamedParts_J22.ty) (kn : den lv_w_FnNamedParts_N22.ty → Option R) (kx : Nat → St → Option R) (kr : St → Option R) : gw_FnNamedParts_j22 K k x kn kx kr = evC (cf_w_FnNamedParts K) (en_w_FnNamedParts K k) c_w_FnNamedParts_J22 (mkSt lv_w_FnNamedParts_J22 x) (cutK lv_w_FnNamedParts_N22 kn) kx kr := by kernel_rfl
theorem sw_FnNamedParts_j22 {R : Type} (K : Nat) (C : Cx) (hP : C.P = Try.prog) (O : CfgOk C (cf_w_FnNamedParts K)) (k : Nat) : SgS C (R := R) (mkSeg lv_w_FnNamedParts_J22 lv_w_FnNamedParts_N22 (gw_FnNamedParts_j22 K k)) c_w_FnNamedParts_J22 :=
  seg_sound O (by rw [hP]; kernel_rfl) (ew_FnNamedParts_j22 K k) (lpOk_of (en := en_w_FnNamedParts K k) (S := hasK su_w_FnNamedParts) (fun i => hasK_lk (sg_w_FnNamedParts K k) i) _ (by rw [show partsOf (hasK su_w_FnNamedParts) c_w_FnNamedParts_J22 = [(true, c_w_FnNamedParts_L27), (false, c_w_FnNamedParts_J36)] from by kernel_rfl]; exact (lpL_loop (f := mkLoop lv_w_FnNamedParts_L27 (gw_FnNamedParts_l27 K k)) (by kernel_rfl) (sw_FnNamedParts_l27 K C hP O k) (lpL_seg (f := mkSeg lv_w_FnNamedParts_J36 lv_w_FnNamedParts_N36 (gw_FnNamedParts_j36 K k)) (by kernel_rfl) (sw_FnNamedParts_j36 K C hP O k) trivial))))
theorem ew_FnNamedParts_j17 {R : Type} (K : Nat) (k : Nat) (x : den lv_w_FnNamedParts_J17.ty) (kn : den lv_w_FnNamedParts_N17.ty → Option R) (kx : Nat → St → Option R) (kr : St → Option R) : gw_FnNamedParts_j17 K k x kn kx kr = evC (cf_w_FnNamedParts K) (en_w_FnNamedParts K k) c_w_FnNamedParts_J17 (mkSt lv_w_FnNamedParts_J17 x) (cutK lv_w_FnNamedParts_N17 kn) kx kr := by kernel_rfl
theorem sw_FnNamedParts_j17 {R : Type} (K : Nat) (C : Cx) (hP : C.P = Try.prog) (O : CfgOk C (cf_w_FnNamedParts K)) (k : Nat) : SgS C (R := R) (mkSeg lv_w_FnNamedParts_J17 lv_w_FnNamedParts_N17 (gw_FnNamedParts_j17 K k)) c_w_FnNamedParts_J17 :=
  seg_sound O (by rw [hP]; kernel_rfl) (ew_FnNamedParts_j17 K k) (lpOk_of (en := en_w_FnNamedParts K k) (S := hasK su_w_FnNamedParts) (fun i => hasK_lk (sg_w_FnNamedParts K k) i) _ (by rw [show partsOf (hasK su_w_FnNamedParts) c_w_FnNamedParts_J17 = [(false, c_w_FnNamedParts_J22)] from by kernel_rfl]; exact (lpL_seg (f := mkSeg lv_w_FnNamedParts_J22 lv_w_FnNamedParts_N22 (gw_FnNamedParts_j22 K k)) (by kernel_rfl) (sw_FnNamedParts_j22 K C hP O k) trivial)))
theorem ew_FnNamedParts_j13 {R : Type} (K : Nat) (k : Nat) (x : den lv_w_FnNamedParts_J13.ty) (kn : den lv_w_FnNamedParts_N13.ty → Option R) (kx : Nat → St → Option R) (kr : St → Option R) : gw_FnNamedParts_j13 K k x kn kx kr = evC (cf_w_FnNamedParts K) (en_w_FnNamedParts K k) c_w_FnNamedParts_J13 (mkSt lv_w_FnNamedParts_J13 x) (cutK lv_w_FnNamedParts_N13 kn) kx kr := by kernel_rfl
theorem sw_FnNamedParts_j13 {R : Type} (K : Nat) (C : Cx) (hP : C.P = Try.prog) (O : CfgOk C (cf_w_FnNamedParts K)) (k : Nat) : SgS C (R := R) (mkSeg lv_w_FnNamedParts_J13 lv_w_FnNamedParts_N13 (gw_FnNamedParts_j13 K k)) c_w_FnNamedParts_J13 :=
  seg_sound O (by rw [hP]; kernel_rfl) (ew_FnNamedParts_j13 K k) (lpOk_of (en := en_w_FnNamedParts K k) (S := hasK su_w_FnNamedParts) (fun i => hasK_lk (sg_w_FnNamedParts K k) i) _ (by rw [show partsOf (hasK su_w_FnNamedParts) c_w_FnNamedParts_J13 = [(false, c_w_FnNamedParts_J17)] from by kernel_rfl]; exact (lpL_seg (f := mkSeg lv_w_FnNamedParts_J17 lv_w_FnNamedParts_N17 (gw_FnNamedParts_j17 K k)) (by kernel_rfl) (sw_FnNamedParts_j17 K C hP O k) trivial)))
theorem ew_FnNamedParts_j8 {R : Type} (K : Nat) (k : Nat) (x : den lv_w_FnNamedParts_J8.ty) (kn : den lv_w_FnNamedParts_N8.ty → Option R) (kx : Nat → St → Option R) (kr : St → Option R) : gw_FnNamedParts_j8 K k x kn kx kr = evC (cf_w_FnNamedParts K) (en_w_FnNamedParts K k) c_w_FnNamedParts_J8 (mkSt lv_w_FnNamedParts_J8 x) (cutK lv_w_FnNamedParts_N8 kn) kx kr := by kernel_rfl
theorem sw_FnNamedParts_j8 {R : Type} (K : Nat) (C : Cx) (hP : C.P = Try.prog) (O : CfgOk C (cf_w_FnNamedParts K)) (k : Nat) : SgS C (R := R) (mkSeg lv_w_FnNamedParts_J8 lv_w_FnNamedParts_N8 (gw_FnNamedParts_j8 K k)) c_w_FnNamedParts_J8 :=
  seg_sound O (by rw [hP]; kernel_rfl) (ew_FnNamedParts_j8 K k) (lpOk_of (en := en_w_FnNamedParts K k) (S := hasK su_w_FnNamedParts) (fun i => hasK_lk (sg_w_FnNamedParts K k) i) _ (by rw [show partsOf (hasK su_w_FnNamedParts) c_w_FnNamedParts_J8 = [(false, c_w_FnNamedParts_J13)] from by kernel_rfl]; exact (lpL_seg (f := mkSeg lv_w_FnNamedParts_J13 lv_w_FnNamedParts_N13 (gw_FnNamedParts_j13 K k)) (by kernel_rfl) (sw_FnNamedParts_j13 K C hP O k) trivial)))
theorem e_w_FnNamedParts (K : Nat) (x : den as_w_FnNamedParts) : w_FnNamedParts K x = evFn (cf_w_FnNamedParts K) as_w_FnNamedParts [false] .bool (en_w_FnNamedParts K K) Try.f4.results.toList (bodyOf Try.f4) x := by kernel_rfl
theorem ok_w_FnNamedParts (K : Nat) : FnOk Try.prog 4 (sp_w_FnNamedParts (w_FnNamedParts K)) :=
  fn_ok (cf := cf_w_FnNamedParts K) (en := en_w_FnNamedParts K K) (c := bodyOf Try.f4) Try.func4 (by kernel_rfl) (by kernel_rfl) tysOk (fns_ok (l := [(5, sp_s_CloneNames (s_CloneNames K)), (6, sp_i_CloneNames (i_CloneNames K)), (10, sp_w_big (w_big K)), (11, sp_s_DrawSeparatingDegree (s_DrawSeparatingDegree K)), (12, sp_i_SeparatingDegree (i_SeparatingDegree K)), (13, sp_s_SeparatingDegree (s_SeparatingDegree K)), (14, sp_s_DrawIsDisjunction (s_DrawIsDisjunction K)), (15, sp_i_IsDisjunction (i_IsDisjunction K)), (16, sp_s_IsDisjunction (s_IsDisjunction K)), (17, sp_i_IsConjunction (i_IsConjunction K)), (18, sp_s_IsConjunction (s_IsConjunction K)), (19, sp_s_DrawIsUnary (s_DrawIsUnary K)), (20, sp_i_IsUnary (i_IsUnary K)), (21, sp_s_IsUnary (s_IsUnary K)), (22, sp_i_DualOf (i_DualOf K))]) ⟨ok_s_CloneNames K, ⟨ok_i_CloneNames K, ⟨ok_w_big K, ⟨ok_s_DrawSeparatingDegree K, ⟨ok_i_SeparatingDegree K, ⟨ok_s_SeparatingDegree K, ⟨ok_s_DrawIsDisjunction K, ⟨ok_i_IsDisjunction K, ⟨ok_s_IsDisjunction K, ⟨ok_i_IsConjunction K, ⟨ok_s_IsConjunction K, ⟨ok_s_DrawIsUnary K, ⟨ok_i_IsUnary K, ⟨ok_s_IsUnary K, ⟨ok_i_DualOf K, trivial⟩⟩⟩⟩⟩⟩⟩⟩⟩⟩⟩⟩⟩⟩⟩) (shs_ok (l := []) trivial) (by kernel_rfl) rfl (Nat.le_of_ble_eq_true (by kernel_rfl)) (by kernel_rfl) (of_decide_eq_true (by kernel_rfl)) (by decide) (fun C hP O => lpOk_of (en := en_w_FnNamedParts K K) (S := hasK su_w_FnNamedParts) (fun i => hasK_lk (sg_w_FnNamedParts K K) i) _ (by rw [show partsOf (hasK su_w_FnNamedParts) (bodyOf Try.f4) = [(false, c_w_FnNamedParts_J8)] from by kernel_rfl]; exact (lpL_seg (f := mkSeg lv_w_FnNamedParts_J8 lv_w_FnNamedParts_N8 (gw_FnNamedParts_j8 K K)) (by kernel_rfl) (sw_FnNamedParts_j8 K C hP O K) trivial))) (fun x y h => by rw [← e_w_FnNamedParts]; exact h)
end Go.Proofs.Ytgpdgnhphplodaa.E
namespace Go.Proofs.Ytgpdgnhphplodaa.E
open Go Go.Proofs
set_option maxRecDepth 100000
set_option linter.unusedVariables false
set_option linter.unusedSimpArgs false
variable {K : Nat} {R : Type}
def sepV (f : DF) (c : Int) : Int × Int × Unit :=
  if isF 0 f = true then (if 0 ≤ c ∧ c ≤ 1 then ((degN f.1.toNat f.2.1.toNat c.toNat : Nat), 0, ()) else (0, 2, ())) else (0, 1, ())
theorem wi (c : Int) : (decide ((0 : Int) ≤ c) && decide (c ≤ 1)) = decide (0 ≤ c ∧ c ≤ 1) := by rw [Bool.eq_iff_iff]; simp
theorem i_sep_eq (f : DF) (c : Int) : i_SeparatingDegree K (f, c, ()) = some (sepV f c) := by
  simp only [i_SeparatingDegree, sepV]
  rw [i_IsFunc_eq, some_bind']
  cases h : isF 0 f with
  | false => rfl
  | true =>
    obtain ⟨n, b, rfl, hn, hb, _⟩ := isF_nat h (by decide)
    have hb2 := b4 hn hb
    rw [ite_f (c := !true) rfl, if_pos rfl, i_within_eq, some_bind', wi]
    by_cases hc : 0 ≤ c ∧ c ≤ 1
    · rw [decide_eq_true hc, ite_f (c := !true) rfl, if_pos hc]
      have : i_Func_degree K (((n : Int), (b : Int), ()), c, ()) = some ((degN n b c.toNat : Nat) : Int) := by
        simp only [i_Func_degree, degF]
        rw [if_pos ⟨by omega, by omega, by omega, by omega, hc.1, hc.2⟩]
        rfl
      rw [this]; rfl
    · rw [decide_eq_false hc, ite_t (c := !false) rfl, if_neg hc]
theorem s_sep_eq (f : DF) (c : Int) (hK : 100 ≤ K) : s_SeparatingDegree K (f, c, ()) = some (sepV f c) := by
  simp only [s_SeparatingDegree, sepV]
  rw [s_l01Is_eq, some_bind']
  cases h : isF 0 f with
  | false => rfl
  | true =>
    obtain ⟨n, b, rfl, hn, hb, _⟩ := isF_nat h (by decide)
    have hb2 := b4 hn hb
    rw [ite_f (c := !true) rfl, if_pos rfl, s_l01In_eq, some_bind', wi]
    by_cases hc : 0 ≤ c ∧ c ≤ 1
    · rw [decide_eq_true hc, ite_f (c := !true) rfl, if_pos hc]
      obtain ⟨m, rfl⟩ := Int.eq_ofNat_of_zero_le hc.1
      rw [s_l08Degree_eq hn (by omega) hK, some_bind']
      rfl
    · rw [decide_eq_false hc, ite_t (c := !false) rfl, if_neg hc]
def joinV (all : Bool) (f : DF) : Bool × Int × Unit := if isF 0 f = true then (joinB all f.1.toNat f.2.1.toNat, 0, ()) else (false, 1, ())
theorem i_dis_eq (f : DF) (hK : 4611686018427387904 ≤ K) : i_IsDisjunction K (f, ()) = some (joinV false f) := by
  simp only [i_IsDisjunction, joinV]
  rw [i_IsFunc_eq, some_bind']
  cases h : isF 0 f with
  | false => rfl
  | true =>
    obtain ⟨n, b, rfl, hn, hb, _⟩ := isF_nat h (by decide)
    have hb2 := b4 hn hb
    rw [ite_f (c := !true) rfl, if_pos rfl, i_Func_isDisjunction_eq hn (by omega) hK]; rfl
theorem i_con_eq (f : DF) (hK : 4611686018427387904 ≤ K) : i_IsConjunction K (f, ()) = some (joinV true f) := by
  simp only [i_IsConjunction, joinV]
  rw [i_IsFunc_eq, some_bind']
  cases h : isF 0 f with
  | false => rfl
  | true =>
    obtain ⟨n, b, rfl, hn, hb, _⟩ := isF_nat h (by decide)
    have hb2 := b4 hn hb
    rw [ite_f (c := !true) rfl, if_pos rfl, i_Func_isConjunction_eq hn (by omega) hK]; rfl
theorem s_dis_eq (f : DF) (hK : 100 ≤ K) : s_IsDisjunction K (f, ()) = some (joinV false f) := by
  simp only [s_IsDisjunction, joinV]
  rw [s_l01Is_eq, some_bind']
  cases h : isF 0 f with
  | false => rfl
  | true =>
    obtain ⟨n, b, rfl, hn, hb, _⟩ := isF_nat h (by decide)
    rw [ite_f (c := !true) rfl, if_pos rfl, s_l08Joined_eq false hn hb hK]; rfl
theorem s_con_eq (f : DF) (hK : 100 ≤ K) : s_IsConjunction K (f, ()) = some (joinV true f) := by
  simp only [s_IsConjunction, joinV]
  rw [s_l01Is_eq, some_bind']
  cases h : isF 0 f with
  | false => rfl
  | true =>
    obtain ⟨n, b, rfl, hn, hb, _⟩ := isF_nat h (by decide)
    rw [ite_f (c := !true) rfl, if_pos rfl, s_l08Joined_eq true hn hb hK]; rfl
def unV (f : DF) : Bool × Int × Unit := if isF 0 f = true then (decide ((essL f.1.toNat f.2.1.toNat).length ≤ 1), 0, ()) else (false, 1, ())
theorem i_un_eq (f : DF) (hK : 100 ≤ K) : i_IsUnary K (f, ()) = some (unV f) := by
  simp only [i_IsUnary, unV]
  rw [i_IsFunc_eq, some_bind']
  cases h : isF 0 f with
  | false => rfl
  | true =>
    obtain ⟨n, b, rfl, hn, hb, _⟩ := isF_nat h (by decide)
    have hb2 := b4 hn hb
    rw [ite_f (c := !true) rfl, if_pos rfl, i_Func_isUnary_eq hn (by omega) hK]; rfl
theorem s_un_eq (f : DF) (hK : 100 ≤ K) : s_IsUnary K (f, ()) = some (unV f) := by
  simp only [s_IsUnary, unV]
  rw [s_l01Is_eq, some_bind']
  cases h : isF 0 f with
  | false => rfl
  | true =>
    obtain ⟨n, b, rfl, hn, hb, _⟩ := isF_nat h (by decide)
    have hb2 := b4 hn hb
    rw [ite_f (c := !true) rfl, if_pos rfl, s_l01Essential_eq hn (by omega) hK, some_bind']
    have e : decide (((essL n b).length : Int) ≤ 1) = decide ((essL n b).length ≤ 1) := by rw [Bool.eq_iff_iff, decide_eq_true_eq, decide_eq_true_eq]; omega
    rw [e]; rfl
def dualV (f : DF) : DF × Int × Unit := if isF 0 f = true then ((f.1, ((dualN f.1.toNat f.2.1.toNat : Nat) : Int), ()), 0, ()) else ((0, 0, ()), 1, ())
theorem i_dual_eq (f : DF) (hK : 4611686018427387904 ≤ K) : i_DualOf K (f, ()) = some (dualV f) := by
  simp only [i_DualOf, dualV]
  rw [i_IsFunc_eq, some_bind']
  cases h : isF 0 f with
  | false => rfl
  | true =>
    obtain ⟨n, b, rfl, hn, hb, _⟩ := isF_nat h (by decide)
    have hb2 := b4 hn hb
    rw [ite_f (c := !true) rfl, if_pos rfl, i_Func_dual_eq hn (by omega) hK]; rfl
/-! the draws -/
theorem names_s : s_l08Names 9223372036854775808 () = some allNames := by decide +kernel
def badNames : List ByteArray := [(⟨#[]⟩ : ByteArray), (⟨#[83]⟩ : ByteArray), (⟨#[83, 48, 94]⟩ : ByteArray), (⟨#[83, 48, 94, 52]⟩ : ByteArray), (⟨#[77, 94, 50]⟩ : ByteArray), (⟨#[82, 51]⟩ : ByteArray), (⟨#[73, 50, 32]⟩ : ByteArray), (⟨#[86, 51]⟩ : ByteArray), (⟨#[68, 94, 50]⟩ : ByteArray), (⟨#[98, 102]⟩ : ByteArray)]
theorem gens_s : ∀ t ∈ badNames ++ allNames, ((s_l08Generators 9223372036854775808 (t, ())).map fun y => decide (y.1.length ≤ 5)) = some true := by decide +kernel
theorem mem_getD {α : Type} {l : List α} {d : α} {i : Int} (h : bnds i (l.length : Int) = true) : l.getD i.toNat d ∈ l := by
  simp only [bnds, Bool.and_eq_true, decide_eq_true_eq] at h
  have hi : i.toNat < l.length := by omega
  rw [List.getD_eq_getElem?_getD, List.getElem?_eq_getElem hi]; exact List.getElem_mem hi
theorem drawName_ok {s : DSrc} (h : okS s) : Okf (s_l08DrawName 9223372036854775808 (s, ())) (fun y => okS y.2.1 ∧ y.1.1 ∈ badNames ++ allNames) := by
  simp only [s_l08DrawName]
  rw [names_s, some_bind']
  refine (next_ok 24 h).bind fun y2 h2 => Okf.ite (fun _ => ?_) (fun _ => ?_)
  · refine (next_ok 10 h2.1).bind fun y4 h4 => ?_
    have hb : bnds y4.1.1 (badNames.length : Int) = true := bnds_t (h4.2.1 (by decide)).1 (h4.2.1 (by decide)).2
    show Okf (if bnds y4.1.1 (badNames.length : Int) = true then some ((badNames.getD y4.1.1.toNat ByteArray.empty, ()), (y4.2.1, ())) else none) _
    rw [ite_t hb]
    exact Okf.ret ⟨h4.1, List.mem_append.2 (Or.inl (mem_getD hb))⟩
  · refine (next_ok _ h2.1).bind fun y4 h4 => ?_
    have hb : bnds y4.1.1 (allNames.length : Int) = true := bnds_t (h4.2.1 (by decide)).1 (h4.2.1 (by decide)).2
    rw [ite_t hb]
    exact Okf.ret ⟨h4.1, List.mem_append.2 (Or.inr (mem_getD hb))⟩
theorem gens_ok {t : ByteArray} (h : t ∈ badNames ++ allNames) : Okf (s_l08Generators 9223372036854775808 (t, ())) (fun y => y.1.length ≤ 5) := by
  have := gens_s t h
  cases e : s_l08Generators 9223372036854775808 (t, ()) with
  | none => rw [e] at this; cases this
  | some y =>
    rw [e] at this
    simp only [Option.map_some, Option.some.injEq, decide_eq_true_eq] at this
    exact Okf.ret this
theorem lim20 {l m : List DF} (h : l.length ≤ 10) (h2 : m.length ≤ 10) : decide (l.length + m.length ≤ lim) = true := decide_eq_true (by have : lim = 1099511627776 := rfl; omega)
theorem drawList_l {Q : R → Prop} (kx : DSrc → List DF → Option R) (hk : ∀ s l, okS s → Okf (kx s l) Q) :
    ∀ (m k : Nat) (s : DSrc) (l : List DF), okS s → m < k → m + l.length ≤ 9 → Okf (s_l08DrawList_l9 9223372036854775808 k s l (m : Int) kx) Q
  | m, 0, s, l, _, h, _ => by omega
  | 0, k + 1, s, l, hs, _, _ => by
    rw [s_l08DrawList_l9, ite_f (by simp)]; exact hk _ _ hs
  | m + 1, k + 1, s, l, hs, h, hl => by
    rw [s_l08DrawList_l9, ite_t (decide_eq_true (by omega))]
    refine (drawIn_ok hs (by decide)).bind fun y hy => ?_
    rw [ite_t (lim20 (by omega) (by simp)), show (((m + 1 : Nat) : Int) - 1) = (m : Int) by omega, w64n (by omega)]
    exact drawList_l kx hk m k _ _ hy (by omega) (by simp; omega)
theorem drawList_ok {s : DSrc} (h : okS s) : Okf (s_l08DrawList 9223372036854775808 (s, ())) (fun y => okS y.2.1) := by
  simp only [s_l08DrawList]
  refine (next_ok 2 h).bind fun y1 h1 => Okf.ite (fun _ => ?_) (fun _ => ?_)
  · refine (drawName_ok h1.1).bind fun y2 h2 => (gens_ok h2.2).bind fun y3 h3 => ?_
    rw [ite_t (lim20 (by simp) (by omega))]
    refine (next_ok 3 h2.1).bind fun y6 h6 => Okf.ite (fun _ => ?_) (fun _ => Okf.ret h6.1)
    refine (drawIn_ok h6.1 (by decide)).bind fun y7 h7 => ?_
    rw [ite_t (lim20 (by simp; omega) (by simp))]
    exact Okf.ret h7
  · refine (next_ok 3 h1.1).bind fun y10 h10 => ?_
    obtain ⟨m, hm⟩ := Int.eq_ofNat_of_zero_le (h10.2.1 (by decide)).1
    have := (h10.2.1 (by decide)).2
    rw [hm]
    refine drawList_l (Q := fun y : (List DF × Unit) × (DSrc × Unit) => okS y.2.1) (fun s l => some ((l, ()), (s, ()))) (fun s l hs => Okf.ret hs) m _ _ _ h10.1 ?_ ?_
    · omega
    · show m + 0 ≤ 9; omega
theorem DrawSep_ok {code : List Int} (h : okCode code) : Okf (s_DrawSeparatingDegree 9223372036854775808 (code, ())) (fun _ => True) := by
  simp only [s_DrawSeparatingDegree]
  refine (from_ok h.1 h.2 (by decide)).bind fun y1 h1 => (drawList_ok h1).bind fun y2 h2 => Okf.ite (fun h0 => ?_) (fun _ => ?_)
  · refine (next_ok _ h2).bind fun y3 h3 => ?_
    have hr := h3.2.1 (by have := of_decide_eq_true h0; omega)
    rw [ite_t (bnds_t hr.1 hr.2)]
    exact (next_ok _ h3.1).bind fun y4 h4 => (next_ok _ h4.1).bind fun y5 h5 => Okf.ret trivial
  · exact (l01Spoil_ok h2 (by decide)).bind fun y7 h7 => (next_ok _ h7).bind fun y8 h8 => Okf.ret trivial
theorem DrawDis_ok {code : List Int} (h : okCode code) : Okf (s_DrawIsDisjunction 9223372036854775808 (code, ())) (fun _ => True) := by
  simp only [s_DrawIsDisjunction]
  exact (DrawSep_ok h).bind fun y _ => Okf.ret trivial
theorem DrawUn_ok {code : List Int} (h : okCode code) : Okf (s_DrawIsUnary 9223372036854775808 (code, ())) (fun _ => True) := by
  simp only [s_DrawIsUnary]
  refine (from_ok h.1 h.2 (by decide)).bind fun y1 h1 => (next_ok _ h1).bind fun y2 h2 => Okf.ite (fun _ => ?_) (fun _ => (DrawDis_ok h).bind fun y _ => Okf.ret trivial)
  exact (drawOf_ok h2.1 ⟨by decide, by decide⟩ (by decide)).bind fun y _ => Okf.ret trivial
/-! the law -/
theorem names_c : s_CloneNames 9223372036854775808 () = some allNames := by decide +kernel
theorem names_l (v3 : DF) (v4 v5 v6 : Int) (v9 : DF) (v10 : Bool) (v11 : Int) (kx0 : DF → Int → Int → Int → DF → Bool → Int → Option R) (kr : Bool → Option R) :
    w_FnNamedParts_l27 9223372036854775808 9223372036854775808 v3 v4 v5 v6 v9 v10 v11 allNames allNames 0 kx0 kr = kx0 v3 v4 v5 v6 v9 v10 v11 := by kernel_rfl
theorem bne_eq {c : Bool} (h : c = true) : (!c) = false := by rw [h]; rfl
theorem j36_eq (v3 : DF) (v4 : Int) (kn : Option R) (kr : Bool → Option R) : w_FnNamedParts_j36 9223372036854775808 9223372036854775808 v3 v4 (sepV v3 v4).1 (sepV v3 v4).2.1 kn kr = kr true := by
  rw [w_FnNamedParts_j36]
  by_cases h1 : isF 0 v3 = true
  · by_cases hc : 0 ≤ v4 ∧ v4 ≤ 1
    · have e : sepV v3 v4 = (((degN v3.1.toNat v3.2.1.toNat v4.toNat : Nat) : Int), (0 : Int), ()) := by rw [sepV, if_pos h1, if_pos hc]
      rw [e, ite_f (by rfl), i_dual_eq _ (by decide), some_bind', i_sep_eq, some_bind']
      obtain ⟨n, b, rfl, hn, hb, _⟩ := isF_nat h1 (by decide)
      obtain ⟨c, rfl⟩ := Int.eq_ofNat_of_zero_le hc.1
      have hd : dualV ((n : Int), (b : Int), ()) = (((n : Int), ((dualN n b : Nat) : Int), ()), 0, ()) := by rw [dualV, if_pos h1]; rfl
      have hF : isF 0 ((n : Int), ((dualN n b : Nat) : Int), ()) = true := by
        have := dualN_lt n b
        simp only [isF, Bool.and_eq_true, decide_eq_true_eq, Int.toNat_natCast]
        refine ⟨⟨⟨by omega, by omega⟩, by omega⟩, ?_⟩
        exact Int.ofNat_lt.2 this
      have hw : IntKind.i64.wrap ((1 : Int) - (c : Int)) = ((1 - c : Nat) : Int) := by rw [w64 (by omega) (by omega)]; omega
      have e2 : sepV (dualV ((n : Int), (b : Int), ())).1 (IntKind.i64.wrap ((1 : Int) - (c : Int))) = (((degN n b c : Nat) : Int), (0 : Int), ()) := by
        rw [hd, hw, sepV, if_pos hF, if_pos ⟨by omega, by omega⟩]
        show (((degN n (dualN n b) (1 - c) : Nat) : Int), (0 : Int), ()) = _
        rw [degN_dual (by omega)]
      rw [e2, hd, ite_t (by rfl), ite_t (by rfl)]
      rw [show decide ((((degN n b c : Nat) : Int), (0 : Int), ()).1 = (((degN ((n : Int), (b : Int), ()).1.toNat ((n : Int), (b : Int), ()).2.1.toNat (c : Int).toNat : Nat) : Int), (0 : Int), ()).1) = true from decide_eq_true rfl]
    · have e : sepV v3 v4 = (0, 2, ()) := by rw [sepV, if_pos h1, if_neg hc]
      rw [e, ite_t (by rfl)]; rfl
  · have e : sepV v3 v4 = (0, 1, ()) := by rw [sepV, if_neg h1]
    rw [e, ite_t (by rfl)]; rfl
theorem j22_eq (v3 : DF) (v4 : Int) (v9 : DF) (kn : Option R) (kr : Bool → Option R) :
    w_FnNamedParts_j22 9223372036854775808 9223372036854775808 v3 v4 (sepV v3 v4).1 (sepV v3 v4).2.1 v9 (joinV false v9).1 (joinV false v9).2.1 kn kr = kr true := by
  rw [w_FnNamedParts_j22]
  rw [show i_CloneNames 9223372036854775808 () = some allNames from rfl, some_bind', names_c, some_bind', ite_f (by simp), names_l]
  by_cases h1 : isF 0 v9 = true
  · obtain ⟨n, b, rfl, hn, hb, _⟩ := isF_nat h1 (by decide)
    have e : joinV false ((n : Int), (b : Int), ()) = (joinB false n b, 0, ()) := by rw [joinV, if_pos h1]; rfl
    rw [e, ite_t (by rfl), i_dual_eq _ (by decide), some_bind', i_con_eq _ (by decide), some_bind']
    have hd : dualV ((n : Int), (b : Int), ()) = (((n : Int), ((dualN n b : Nat) : Int), ()), 0, ()) := by rw [dualV, if_pos h1]; rfl
    have hF : isF 0 ((n : Int), ((dualN n b : Nat) : Int), ()) = true := by
      have := dualN_lt n b
      simp only [isF, Bool.and_eq_true, decide_eq_true_eq, Int.toNat_natCast]
      refine ⟨⟨⟨by omega, by omega⟩, by omega⟩, ?_⟩
      exact Int.ofNat_lt.2 this
    have e2 : joinV true (dualV ((n : Int), (b : Int), ())).1 = (joinB false n b, 0, ()) := by
      rw [hd, joinV, if_pos hF]
      show (joinB true n (dualN n b), (0 : Int), ()) = _
      rw [joinB_dual hb]
    rw [e2, hd, ite_f (by rfl), ite_f (by rfl), ite_f (c := !((joinB false n b, (0 : Int), ()).1 == (joinB false n b, (0 : Int), ()).1)) (by simp)]
    exact j36_eq v3 v4 none _
  · have e : joinV false v9 = (false, 1, ()) := by rw [joinV, if_neg h1]
    rw [e, ite_f (by rfl)]
    exact j36_eq v3 v4 none _
theorem law_NamedParts {code : List Int} (hb : ∀ b ∈ code, 0 ≤ b ∧ b < 256) : w_FnNamedParts 9223372036854775808 (code, ()) = some true := by
  simp only [w_FnNamedParts, w_big, some_bind']
  by_cases hl : (code.length : Int) > 4096
  · rw [ite_t (decide_eq_true hl)]
  · rw [ite_f (decide_eq_false hl)]
    have hc : okCode code := ⟨by omega, hb⟩
    obtain ⟨y2, e2, _⟩ := DrawSep_ok hc
    obtain ⟨y5, e5, _⟩ := DrawDis_ok hc
    obtain ⟨y10, e10, _⟩ := DrawUn_ok hc
    rw [e2, some_bind', i_sep_eq, some_bind', s_sep_eq _ _ (by decide), some_bind', ite_f (by simp), ite_f (by simp), w_FnNamedParts_j8, e5, some_bind', i_dis_eq _ (by decide), some_bind', s_dis_eq _ (by decide), some_bind', ite_f (by simp), ite_f (by simp)]
    rw [w_FnNamedParts_j13, i_con_eq _ (by decide), some_bind', s_con_eq _ (by decide), some_bind', ite_f (by simp), ite_f (by simp)]
    rw [w_FnNamedParts_j17, e10, some_bind', i_un_eq _ (by decide), some_bind', s_un_eq _ (by decide), some_bind', ite_f (by simp), ite_f (by simp), j22_eq]
end Go.Proofs.Ytgpdgnhphplodaa.E
namespace Go.Proofs.Ytgpdgnhphplodaa.E
open Go Go.Proofs
/-- FnNamedParts, in plain numbers and lists: no condition but what is known of all data. -/
theorem PuFnNamedParts (x : den as_w_FnNamedParts) (h : okD as_w_FnNamedParts x) : ∃ K, w_FnNamedParts K x = some true := by
  obtain ⟨code, u⟩ := x
  exact ⟨9223372036854775808, law_NamedParts fun b hb => by
    have h1 := bounds_u8 (h.1.2 b hb)
    exact ⟨h1.1, Int.lt_of_le_of_lt h1.2 (by decide)⟩⟩
end Go.Proofs.Ytgpdgnhphplodaa.E
