/-
  What the Go functions that FnDomains reaches hand back, each as a plain function with a proof that the call does so, and plain lemmas on them. Conditions: those of each theorem.
-/
import Derived.Test.YtjbpdhfoeomabaaCFnDomains5
namespace Go.Proofs.Ytjbpdhfoeomabaa.E
open Go Go.Proofs Go.Proofs.Ytjbpdhfoeomabaa
set_option maxRecDepth 100000
set_option linter.unusedVariables false
noncomputable def as_s_l09Copy : Ty := (.pair (.st (.pair (.int .i64) (.pair (.sl (.st (.pair (.st (.pair (.int .i64) (.pair (.int .i64) .unit))) (.pair (.sl (.int .i64)) .unit)))) .unit))) .unit)
noncomputable def sp_s_l09Copy (F : ((Int × (List ((Int × Int × Unit) × (List Int) × Unit)) × Unit) × Unit) → Option (List ((Int × Int × Unit) × (List Int) × Unit))) : FnSpec := ⟨as_s_l09Copy, [false], (.sl (.st (.pair (.st (.pair (.int .i64) (.pair (.int .i64) .unit))) (.pair (.sl (.int .i64)) .unit)))), F⟩
noncomputable def s_l09Copy_l3 {R : Type} (K : Nat) : Nat → (Int × (List ((Int × Int × Unit) × (List Int) × Unit)) × Unit) → (List ((Int × Int × Unit) × (List Int) × Unit)) → Int → ((List ((Int × Int × Unit) × (List Int) × Unit)) → Option R) → Option R
  | 0, _, _, _, _ => none
  | k + 1, v1, v3, v4, kx0 =>
    (if (decide (v4 < (v1.2.1.length : Int))) = true then
    (if (bnds v4 (v1.2.1.length : Int)) = true then
    let x2 := (v1.2.1.getD v4.toNat (((0 : Int), (0 : Int), ()), ([] : List Int), ()))
    (if (bnds v4 (v1.2.1.length : Int)) = true then
    let x3 := (v1.2.1.getD v4.toNat (((0 : Int), (0 : Int), ()), ([] : List Int), ()))
    (s_l01Own K (x3.2.1, ())).bind fun y4 =>
    let l5 := [(x2.1, y4, ())]
    (if (decide (v3.length + l5.length ≤ lim)) = true then
    let l6 := (v3 ++ l5)
    s_l09Copy_l3 K k v1 l6 (IntKind.i64.wrap (v4 + (1 : Int))) kx0
    else
    none)
    else
    none)
    else
    none)
    else
    kx0 v3)
noncomputable def s_l09Copy (K : Nat) (x : ((Int × (List ((Int × Int × Unit) × (List Int) × Unit)) × Unit) × Unit)) : Option (List ((Int × Int × Unit) × (List Int) × Unit)) :=
    let l1 := ([] : List ((Int × Int × Unit) × (List Int) × Unit))
    s_l09Copy_l3 K K x.1 l1 (0 : Int) (fun z7 =>
    some z7)
noncomputable def lv_s_l09Copy_L3 : Lv := [(1, (.bx (.v (.st (.pair (.int .i64) (.pair (.sl (.st (.pair (.st (.pair (.int .i64) (.pair (.int .i64) .unit))) (.pair (.sl (.int .i64)) .unit)))) .unit)))))), (3, (.r (.st (.pair (.st (.pair (.int .i64) (.pair (.int .i64) .unit))) (.pair (.sl (.int .i64)) .unit))))), (4, (.v (.int .i64)))]
noncomputable def lv_s_l09Copy_X0 : Lv := [(3, (.r (.st (.pair (.st (.pair (.int .i64) (.pair (.int .i64) .unit))) (.pair (.sl (.int .i64)) .unit)))))]
noncomputable def rv_s_l09Copy : Lv := [(2, (.r (.st (.pair (.st (.pair (.int .i64) (.pair (.int .i64) .unit))) (.pair (.sl (.int .i64)) .unit)))))]
noncomputable def gs_l09Copy_l3 {R : Type} (K : Nat) (k : Nat) (x : den lv_s_l09Copy_L3.ty) (kx : Nat → St → Option R) (kr : St → Option R) : Option R := s_l09Copy_l3 K k x.1 x.2.1 x.2.2.1 (fun z0 => kx 0 (mkSt lv_s_l09Copy_X0 (z0, ())))
noncomputable def sg_s_l09Copy {R : Type} (K : Nat) (k : Nat) : List (Nat × SegS R) := []
noncomputable def su_s_l09Copy : List (Nat × Unit) := []
noncomputable def en_s_l09Copy {R : Type} (K : Nat) (k : Nat) : Env R := { L := lk [(3, mkLoop lv_s_l09Copy_L3 (gs_l09Copy_l3 K k))], X := lk [(0, lv_s_l09Copy_X0)], S := lk (sg_s_l09Copy K k), rv := rv_s_l09Copy }
noncomputable def cf_s_l09Copy (K : Nat) : Cfg := { ty := lk tys, fn := lk [(66, sp_s_l01Own (s_l01Own K))], fs := lk [], prot := 0, nt := Try.f99.ntmps }
noncomputable def c_s_l09Copy_L3 : Code := nthC (partsOf (hasK su_s_l09Copy) (bodyOf Try.f99)) 0
theorem es_l09Copy_l3 {R : Type} (K : Nat) (k : Nat) (x : den lv_s_l09Copy_L3.ty) (kx : Nat → St → Option R) (kr : St → Option R) : gs_l09Copy_l3 K (k + 1) x kx kr = evC (cf_s_l09Copy K) (en_s_l09Copy K k) c_s_l09Copy_L3 (mkSt lv_s_l09Copy_L3 x) (fun s => mkLoop lv_s_l09Copy_L3 (gs_l09Copy_l3 K k) s kx kr) kx kr := by kernel_rfl
theorem ss_l09Copy_l3 {R : Type} (K : Nat) (C : Cx) (hP : C.P = Try.prog) (O : CfgOk C (cf_s_l09Copy K)) (k : Nat) : LpS C (R := R) (mkLoop lv_s_l09Copy_L3 (gs_l09Copy_l3 K k)) c_s_l09Copy_L3 :=
  loop_sound O (by rw [hP]; kernel_rfl) (fun x kx kr => rfl) (es_l09Copy_l3 K) (fun k => lpOk_of (en := en_s_l09Copy K k) (S := hasK su_s_l09Copy) (fun i => hasK_lk (sg_s_l09Copy K k) i) _ (by rw [show partsOf (hasK su_s_l09Copy) c_s_l09Copy_L3 = [] from by kernel_rfl]; exact trivial)) k
theorem e_s_l09Copy (K : Nat) (x : den as_s_l09Copy) : s_l09Copy K x = evFn (cf_s_l09Copy K) as_s_l09Copy [false] (.sl (.st (.pair (.st (.pair (.int .i64) (.pair (.int .i64) .unit))) (.pair (.sl (.int .i64)) .unit)))) (en_s_l09Copy K K) Try.f99.results.toList (bodyOf Try.f99) x := by kernel_rfl
theorem ok_s_l09Copy (K : Nat) : FnOk Try.prog 99 (sp_s_l09Copy (s_l09Copy K)) :=
  fn_ok (cf := cf_s_l09Copy K) (en := en_s_l09Copy K K) (c := bodyOf Try.f99) Try.func99 (by kernel_rfl) (by kernel_rfl) tysOk (fns_ok (l := [(66, sp_s_l01Own (s_l01Own K))]) ⟨ok_s_l01Own K, trivial⟩) (shs_ok (l := []) trivial) (by kernel_rfl) rfl (Nat.le_of_ble_eq_true (by kernel_rfl)) (by kernel_rfl) (of_decide_eq_true (by kernel_rfl)) (by decide) (fun C hP O => lpOk_of (en := en_s_l09Copy K K) (S := hasK su_s_l09Copy) (fun i => hasK_lk (sg_s_l09Copy K K) i) _ (by rw [show partsOf (hasK su_s_l09Copy) (bodyOf Try.f99) = [(true, c_s_l09Copy_L3)] from by kernel_rfl]; exact (lpL_loop (f := mkLoop lv_s_l09Copy_L3 (gs_l09Copy_l3 K K)) (by kernel_rfl) (ss_l09Copy_l3 K C hP O K) trivial))) (fun x y h => by rw [← e_s_l09Copy]; exact h)
noncomputable def ps_s_l09Bad : Lv := [(0, (.bx (.v (.st (.pair (.sl (.int .u8)) (.pair (.int .i64) (.pair (.int .u64) .unit))))))), (1, (.v (.st (.pair (.int .i64) (.pair (.sl (.st (.pair (.st (.pair (.int .i64) (.pair (.int .i64) .unit))) (.pair (.sl (.int .i64)) .unit)))) .unit)))))]
noncomputable def rl_s_l09Bad : Lv := [(0, (.v (.st (.pair (.int .i64) (.pair (.sl (.st (.pair (.st (.pair (.int .i64) (.pair (.int .i64) .unit))) (.pair (.sl (.int .i64)) .unit)))) .unit)))))]
noncomputable def sp_s_l09Bad (F : (((List Int) × Int × Int × Unit) × (Int × (List ((Int × Int × Unit) × (List Int) × Unit)) × Unit) × Unit) → Option (((Int × (List ((Int × Int × Unit) × (List Int) × Unit)) × Unit) × Unit) × (((List Int) × Int × Int × Unit) × Unit))) : ShSpec := ⟨ps_s_l09Bad, rl_s_l09Bad, F⟩
noncomputable def s_l09Bad_j16 {R : Type} (K : Nat) (k : Nat) (v0 : ((List Int) × Int × Int × Unit)) (v3 : (Int × (List ((Int × Int × Unit) × (List Int) × Unit)) × Unit)) (v4_0 : Int) (v4_1 : (List ((Int × Int × Unit) × (List Int) × Unit))) (kn : Option R) (kr : (((List Int) × Int × Int × Unit) → (Int × (List ((Int × Int × Unit) × (List Int) × Unit)) × Unit) → Option R)) : Option R :=
    kr v0 v3
noncomputable def s_l09Bad_l14 {R : Type} (K : Nat) : Nat → ((List Int) × Int × Int × Unit) → Int → (List ((Int × Int × Unit) × (List Int) × Unit)) → Int → (List ((Int × Int × Unit) × (List Int) × Unit)) → (((List Int) × Int × Int × Unit) → Int → (List ((Int × Int × Unit) × (List Int) × Unit)) → Int → (List ((Int × Int × Unit) × (List Int) × Unit)) → Option R) → Option R
  | 0, _, _, _, _, _, _ => none
  | k + 1, v0, v3_0, v3_1, v4_0, v4_1, kx1 =>
    (if (decide ((v3_1.length : Int) ≤ (12 : Int))) = true then
    let x24 := (((1 : Int), ((0 : Int), (0 : Int), ()).2.1, ()).1, (3 : Int), ())
    let l25 := [(0 : Int)]
    let l26 := [(x24, l25, ())]
    (if (decide (v3_1.length + l26.length ≤ lim)) = true then
    let l27 := (v3_1 ++ l26)
    s_l09Bad_l14 K k v0 v3_0 l27 v4_0 v4_1 kx1
    else
    none)
    else
    kx1 v0 v3_0 v3_1 v4_0 v4_1)
noncomputable def s_l09Bad (K : Nat) (x : (((List Int) × Int × Int × Unit) × (Int × (List ((Int × Int × Unit) × (List Int) × Unit)) × Unit) × Unit)) : Option (((Int × (List ((Int × Int × Unit) × (List Int) × Unit)) × Unit) × Unit) × (((List Int) × Int × Int × Unit) × Unit)) :=
    (s_l01Next K (x.1, (40 : Int), ())).bind fun y1 =>
    (if (decide (y1.1.1 = (0 : Int))) = true then
    let l2 := [(-1 : Int), (9 : Int), (IntKind.i64.wrap (x.2.1.1 - (1 : Int)))]
    (s_l01Pick K (y1.2.1, l2, ())).bind fun y3 =>
    s_l09Bad_j16 K K y3.2.1 (y3.1.1, x.2.1.2.1, ()) (0 : Int) ([] : List ((Int × Int × Unit) × (List Int) × Unit)) none (fun z4 z5 =>
    some ((z5, ()), (z4, ())))
    else
    (if (decide (y1.1.1 = (1 : Int))) = true then
    (if (decide ((x.2.1.2.1.length : Int) > (0 : Int))) = true then
    (s_l09Copy K (x.2.1, ())).bind fun y6 =>
    (if (bnds (0 : Int) (y6.length : Int)) = true then
    let l7 := [(0 : Int)]
    (if (decide (((y6.getD (0 : Int).toNat (((0 : Int), (0 : Int), ()), ([] : List Int), ())).2.1).length + l7.length ≤ lim)) = true then
    let l8 := ((y6.getD (0 : Int).toNat (((0 : Int), (0 : Int), ()), ([] : List Int), ())).2.1 ++ l7)
    (if (bnds (0 : Int) (y6.length : Int)) = true then
    let l9 := (y6.set (0 : Int).toNat ((y6.getD (0 : Int).toNat (((0 : Int), (0 : Int), ()), ([] : List Int), ())).1, l8, ()))
    s_l09Bad_j16 K K y1.2.1 (x.2.1.1, l9, ()) (0 : Int) ([] : List ((Int × Int × Unit) × (List Int) × Unit)) none (fun z10 z11 =>
    some ((z11, ()), (z10, ())))
    else
    none)
    else
    none)
    else
    none)
    else
    s_l09Bad_j16 K K y1.2.1 x.2.1 (0 : Int) ([] : List ((Int × Int × Unit) × (List Int) × Unit)) none (fun z12 z13 =>
    some ((z13, ()), (z12, ()))))
    else
    (if (decide (y1.1.1 = (2 : Int))) = true then
    (if (decide ((x.2.1.2.1.length : Int) > (0 : Int))) = true then
    (s_l09Copy K (x.2.1, ())).bind fun y14 =>
    let l15 := [(0 : Int), (5 : Int)]
    (s_l01Pick K (y1.2.1, l15, ())).bind fun y16 =>
    let x17 := ((y16.1.1, ((0 : Int), (0 : Int), ()).2.1, ()).1, (1 : Int), ())
    (if (bnds (0 : Int) (y14.length : Int)) = true then
    let l18 := (y14.set (0 : Int).toNat (x17, (y14.getD (0 : Int).toNat (((0 : Int), (0 : Int), ()), ([] : List Int), ())).2.1, ()))
    s_l09Bad_j16 K K y16.2.1 (x.2.1.1, l18, ()) (0 : Int) ([] : List ((Int × Int × Unit) × (List Int) × Unit)) none (fun z19 z20 =>
    some ((z20, ()), (z19, ())))
    else
    none)
    else
    s_l09Bad_j16 K K y1.2.1 x.2.1 (0 : Int) ([] : List ((Int × Int × Unit) × (List Int) × Unit)) none (fun z21 z22 =>
    some ((z22, ()), (z21, ()))))
    else
    (if (decide (y1.1.1 = (3 : Int))) = true then
    (s_l09Copy K (x.2.1, ())).bind fun y23 =>
    s_l09Bad_l14 K K y1.2.1 x.2.1.1 y23 (0 : Int) ([] : List ((Int × Int × Unit) × (List Int) × Unit)) (fun z28 z29 z30 z31 z32 =>
    s_l09Bad_j16 K K z28 (z29, z30, ()) z31 z32 none (fun z33 z34 =>
    some ((z34, ()), (z33, ()))))
    else
    s_l09Bad_j16 K K y1.2.1 x.2.1 (0 : Int) ([] : List ((Int × Int × Unit) × (List Int) × Unit)) none (fun z35 z36 =>
    some ((z36, ()), (z35, ())))))))
noncomputable def lv_s_l09Bad_J16 : Lv := [(0, (.bx (.v (.st (.pair (.sl (.int .u8)) (.pair (.int .i64) (.pair (.int .u64) .unit))))))), (3, (.bx (.v (.st (.pair (.int .i64) (.pair (.sl (.st (.pair (.st (.pair (.int .i64) (.pair (.int .i64) .unit))) (.pair (.sl (.int .i64)) .unit)))) .unit)))))), (4, (.bx (.st (.pair (.v (.int .i64)) (.pair (.r (.st (.pair (.st (.pair (.int .i64) (.pair (.int .i64) .unit))) (.pair (.sl (.int .i64)) .unit)))) .unit)))))]
noncomputable def lv_s_l09Bad_L14 : Lv := [(0, (.bx (.v (.st (.pair (.sl (.int .u8)) (.pair (.int .i64) (.pair (.int .u64) .unit))))))), (3, (.bx (.st (.pair (.v (.int .i64)) (.pair (.r (.st (.pair (.st (.pair (.int .i64) (.pair (.int .i64) .unit))) (.pair (.sl (.int .i64)) .unit)))) .unit))))), (4, (.bx (.st (.pair (.v (.int .i64)) (.pair (.r (.st (.pair (.st (.pair (.int .i64) (.pair (.int .i64) .unit))) (.pair (.sl (.int .i64)) .unit)))) .unit)))))]
noncomputable def lv_s_l09Bad_N16 : Lv := []
noncomputable def lv_s_l09Bad_X1 : Lv := [(0, (.bx (.v (.st (.pair (.sl (.int .u8)) (.pair (.int .i64) (.pair (.int .u64) .unit))))))), (3, (.bx (.st (.pair (.v (.int .i64)) (.pair (.r (.st (.pair (.st (.pair (.int .i64) (.pair (.int .i64) .unit))) (.pair (.sl (.int .i64)) .unit)))) .unit))))), (4, (.bx (.st (.pair (.v (.int .i64)) (.pair (.r (.st (.pair (.st (.pair (.int .i64) (.pair (.int .i64) .unit))) (.pair (.sl (.int .i64)) .unit)))) .unit)))))]
noncomputable def rv_s_l09Bad : Lv := [(0, (.bx (.v (.st (.pair (.sl (.int .u8)) (.pair (.int .i64) (.pair (.int .u64) .unit))))))), (4, (.bx (.v (.st (.pair (.int .i64) (.pair (.sl (.st (.pair (.st (.pair (.int .i64) (.pair (.int .i64) .unit))) (.pair (.sl (.int .i64)) .unit)))) .unit))))))]
noncomputable def gs_l09Bad_j16 {R : Type} (K : Nat) (k : Nat) (x : den lv_s_l09Bad_J16.ty) (kn : den lv_s_l09Bad_N16.ty → Option R) (kx : Nat → St → Option R) (kr : St → Option R) : Option R := s_l09Bad_j16 K k x.1 x.2.1 x.2.2.1.1 x.2.2.1.2.1 (kn ()) (fun z0 z1 => kr (mkSt rv_s_l09Bad (z0, z1, ())))
noncomputable def gs_l09Bad_l14 {R : Type} (K : Nat) (k : Nat) (x : den lv_s_l09Bad_L14.ty) (kx : Nat → St → Option R) (kr : St → Option R) : Option R := s_l09Bad_l14 K k x.1 x.2.1.1 x.2.1.2.1 x.2.2.1.1 x.2.2.1.2.1 (fun z0 z1 z2 z3 z4 => kx 1 (mkSt lv_s_l09Bad_X1 (z0, (z1, z2, ()), (z3, z4, ()), ())))
noncomputable def sg_s_l09Bad {R : Type} (K : Nat) (k : Nat) : List (Nat × SegS R) := [(16, mkSeg lv_s_l09Bad_J16 lv_s_l09Bad_N16 (gs_l09Bad_j16 K k))]
noncomputable def su_s_l09Bad : List (Nat × Unit) := [(16, ())]
noncomputable def en_s_l09Bad {R : Type} (K : Nat) (k : Nat) : Env R := { L := lk [(14, mkLoop lv_s_l09Bad_L14 (gs_l09Bad_l14 K k))], X := lk [(1, lv_s_l09Bad_X1)], S := lk (sg_s_l09Bad K k), rv := rv_s_l09Bad }
noncomputable def cf_s_l09Bad (K : Nat) : Cfg := { ty := lk tys, fn := lk [(99, sp_s_l09Copy (s_l09Copy K))], fs := lk [(57, sp_s_l01Pick (s_l01Pick K)), (65, sp_s_l01Next (s_l01Next K))], prot := 1, nt := Try.f86.ntmps }
noncomputable def c_s_l09Bad_L14 : Code := nthC (partsOf (hasK su_s_l09Bad) (bodyOf Try.f86)) 0
noncomputable def c_s_l09Bad_J16 : Code := nthC (partsOf (hasK su_s_l09Bad) (bodyOf Try.f86)) 1
theorem es_l09Bad_l14 {R : Type} (K : Nat) (k : Nat) (x : den lv_s_l09Bad_L14.ty) (kx : Nat → St → Option R) (kr : St → Option R) : gs_l09Bad_l14 K (k + 1) x kx kr = evC (cf_s_l09Bad K) (en_s_l09Bad K k) c_s_l09Bad_L14 (mkSt lv_s_l09Bad_L14 x) (fun s => mkLoop lv_s_l09Bad_L14 (gs_l09Bad_l14 K k) s kx kr) kx kr := by kernel_rfl
theorem ss_l09Bad_l14 {R : Type} (K : Nat) (C : Cx) (hP : C.P = Try.prog) (O : CfgOk C (cf_s_l09Bad K)) (k : Nat) : LpS C (R := R) (mkLoop lv_s_l09Bad_L14 (gs_l09Bad_l14 K k)) c_s_l09Bad_L14 :=
  loop_sound O (by rw [hP]; kernel_rfl) (fun x kx kr => rfl) (es_l09Bad_l14 K) (fun k => lpOk_of (en := en_s_l09Bad K k) (S := hasK su_s_l09Bad) (fun i => hasK_lk (sg_s_l09Bad K k) i) _ (by rw [show partsOf (hasK su_s_l09Bad) c_s_l09Bad_L14 = [] from by kernel_rfl]; exact trivial)) k
theorem es_l09Bad_j16 {R : Type} (K : Nat) (k : Nat) (x : den lv_s_l09Bad_J16.ty) (kn : den lv_s_l09Bad_N16.ty → Option R) (kx : Nat → St → Option R) (kr : St → Option R) : gs_l09Bad_j16 K k x kn kx kr = evC (cf_s_l09Bad K) (en_s_l09Bad K k) c_s_l09Bad_J16 (mkSt lv_s_l09Bad_J16 x) (cutK lv_s_l09Bad_N16 kn) kx kr := by kernel_rfl
theorem ss_l09Bad_j16 {R : Type} (K : Nat) (C : Cx) (hP : C.P = Try.prog) (O : CfgOk C (cf_s_l09Bad K)) (k : Nat) : SgS C (R := R) (mkSeg lv_s_l09Bad_J16 lv_s_l09Bad_N16 (gs_l09Bad_j16 K k)) c_s_l09Bad_J16 :=
  seg_sound O (by rw [hP]; kernel_rfl) (es_l09Bad_j16 K k) (lpOk_of (en := en_s_l09Bad K k) (S := hasK su_s_l09Bad) (fun i => hasK_lk (sg_s_l09Bad K k) i) _ (by rw [show partsOf (hasK su_s_l09Bad) c_s_l09Bad_J16 = [] from by kernel_rfl]; exact trivial))
theorem e_s_l09Bad (K : Nat) (x : den ps_s_l09Bad.ty) : s_l09Bad K x = evFnS (cf_s_l09Bad K) ps_s_l09Bad rl_s_l09Bad (en_s_l09Bad K K) Try.f86.results.toList (bodyOf Try.f86) x := by kernel_rfl
theorem ok_s_l09Bad (K : Nat) : ShOk Try.prog 86 (sp_s_l09Bad (s_l09Bad K)) :=
  sh_ok (cf := cf_s_l09Bad K) (en := en_s_l09Bad K K) (c := bodyOf Try.f86) Try.func86 (by kernel_rfl) (by kernel_rfl) tysOk (fns_ok (l := [(99, sp_s_l09Copy (s_l09Copy K))]) ⟨ok_s_l09Copy K, trivial⟩) (shs_ok (l := [(57, sp_s_l01Pick (s_l01Pick K)), (65, sp_s_l01Next (s_l01Next K))]) ⟨ok_s_l01Pick K, ⟨ok_s_l01Next K, trivial⟩⟩) (by kernel_rfl) rfl (Nat.le_of_ble_eq_true (by kernel_rfl)) (by kernel_rfl) (Nat.le_of_ble_eq_true (by kernel_rfl)) (by kernel_rfl) (fun C hP O => lpOk_of (en := en_s_l09Bad K K) (S := hasK su_s_l09Bad) (fun i => hasK_lk (sg_s_l09Bad K K) i) _ (by rw [show partsOf (hasK su_s_l09Bad) (bodyOf Try.f86) = [(true, c_s_l09Bad_L14), (false, c_s_l09Bad_J16)] from by kernel_rfl]; exact (lpL_loop (f := mkLoop lv_s_l09Bad_L14 (gs_l09Bad_l14 K K)) (by kernel_rfl) (ss_l09Bad_l14 K C hP O K) (lpL_seg (f := mkSeg lv_s_l09Bad_J16 lv_s_l09Bad_N16 (gs_l09Bad_j16 K K)) (by kernel_rfl) (ss_l09Bad_j16 K C hP O K) trivial)))) (fun x y h => by rw [← e_s_l09Bad]; exact h)
noncomputable def ps_s_l01Near : Lv := [(0, (.bx (.v (.st (.pair (.sl (.int .u8)) (.pair (.int .i64) (.pair (.int .u64) .unit))))))), (1, (.v (.int .i64)))]
noncomputable def rl_s_l01Near : Lv := [(0, (.v (.int .i64)))]
noncomputable def sp_s_l01Near (F : (((List Int) × Int × Int × Unit) × Int × Unit) → Option ((Int × Unit) × (((List Int) × Int × Int × Unit) × Unit))) : ShSpec := ⟨ps_s_l01Near, rl_s_l01Near, F⟩
noncomputable def s_l01Near (K : Nat) (x : (((List Int) × Int × Int × Unit) × Int × Unit)) : Option ((Int × Unit) × (((List Int) × Int × Int × Unit) × Unit)) :=
    (s_l01Next K (x.1, (14 : Int), ())).bind fun y1 =>
    (if (decide (y1.1.1 = (0 : Int))) = true then
    let l2 := [(-1 : Int), (IntKind.i64.wrap (x.2.1 + (1 : Int))), (1099511627776 : Int), (-4611686018427387904 : Int)]
    (s_l01Pick K (y1.2.1, l2, ())).bind fun y3 =>
    some ((y3.1.1, ()), (y3.2.1, ()))
    else
    (s_l01Next K (y1.2.1, (IntKind.i64.wrap (x.2.1 + (1 : Int))), ())).bind fun y4 =>
    some ((y4.1.1, ()), (y4.2.1, ())))
noncomputable def rv_s_l01Near : Lv := [(0, (.bx (.v (.st (.pair (.sl (.int .u8)) (.pair (.int .i64) (.pair (.int .u64) .unit))))))), (4, (.v (.int .i64)))]
noncomputable def sg_s_l01Near {R : Type} (K : Nat) (k : Nat) : List (Nat × SegS R) := []
noncomputable def su_s_l01Near : List (Nat × Unit) := []
noncomputable def en_s_l01Near {R : Type} (K : Nat) (k : Nat) : Env R := { L := lk [], X := lk [], S := lk (sg_s_l01Near K k), rv := rv_s_l01Near }
noncomputable def cf_s_l01Near (K : Nat) : Cfg := { ty := lk tys, fn := lk [], fs := lk [(57, sp_s_l01Pick (s_l01Pick K)), (65, sp_s_l01Next (s_l01Next K))], prot := 1, nt := Try.f97.ntmps }
theorem e_s_l01Near (K : Nat) (x : den ps_s_l01Near.ty) : s_l01Near K x = evFnS (cf_s_l01Near K) ps_s_l01Near rl_s_l01Near (en_s_l01Near K K) Try.f97.results.toList (bodyOf Try.f97) x := by kernel_rfl
theorem ok_s_l01Near (K : Nat) : ShOk Try.prog 97 (sp_s_l01Near (s_l01Near K)) :=
  sh_ok (cf := cf_s_l01Near K) (en := en_s_l01Near K K) (c := bodyOf Try.f97) Try.func97 (by kernel_rfl) (by kernel_rfl) tysOk (fns_ok (l := []) trivial) (shs_ok (l := [(57, sp_s_l01Pick (s_l01Pick K)), (65, sp_s_l01Next (s_l01Next K))]) ⟨ok_s_l01Pick K, ⟨ok_s_l01Next K, trivial⟩⟩) (by kernel_rfl) rfl (Nat.le_of_ble_eq_true (by kernel_rfl)) (by kernel_rfl) (Nat.le_of_ble_eq_true (by kernel_rfl)) (by kernel_rfl) (fun C hP O => lpOk_of (en := en_s_l01Near K K) (S := hasK su_s_l01Near) (fun i => hasK_lk (sg_s_l01Near K K) i) _ (by rw [show partsOf (hasK su_s_l01Near) (bodyOf Try.f97) = [] from by kernel_rfl]; exact trivial)) (fun x y h => by rw [← e_s_l01Near]; exact h)
noncomputable def ps_s_DrawFixVar : Lv := [(0, (.v (.sl (.int .u8))))]
noncomputable def rl_s_DrawFixVar : Lv := [(0, (.v (.st (.pair (.int .i64) (.pair (.sl (.st (.pair (.st (.pair (.int .i64) (.pair (.int .i64) .unit))) (.pair (.sl (.int .i64)) .unit)))) .unit))))), (1, (.v (.int .i64))), (2, (.v (.int .i64)))]
noncomputable def sp_s_DrawFixVar (F : ((List Int) × Unit) → Option (((Int × (List ((Int × Int × Unit) × (List Int) × Unit)) × Unit) × Int × Int × Unit) × Unit)) : ShSpec := ⟨ps_s_DrawFixVar, rl_s_DrawFixVar, F⟩
noncomputable def s_DrawFixVar_j7 {R : Type} (K : Nat) (k : Nat) (v2_0 : Int) (v2_1 : (List ((Int × Int × Unit) × (List Int) × Unit))) (v5 : ((List Int) × Int × Int × Unit)) (v6_0 : Int) (v6_1 : (List ((Int × Int × Unit) × (List Int) × Unit))) (v7 : Int) (v8 : Int) (kn : Int → (List ((Int × Int × Unit) × (List Int) × Unit)) → ((List Int) × Int × Int × Unit) → Int → (List ((Int × Int × Unit) × (List Int) × Unit)) → Int → Int → Option R)  : Option R :=
    let x6 := (((1 : Int), ((0 : Int), (0 : Int), ()).2.1, ()).1, (3 : Int), ())
    let l7 := [(0 : Int)]
    let l8 := [(x6, l7, ())]
    (if (decide (v6_1.length + l8.length ≤ lim)) = true then
    let l9 := (v6_1 ++ l8)
    kn v2_0 v2_1 v5 v6_0 l9 v7 v8
    else
    none)
noncomputable def s_DrawFixVar_l6 {R : Type} (K : Nat) : Nat → Int → (List ((Int × Int × Unit) × (List Int) × Unit)) → ((List Int) × Int × Int × Unit) → Int → (List ((Int × Int × Unit) × (List Int) × Unit)) → Int → Int → (Int → (List ((Int × Int × Unit) × (List Int) × Unit)) → ((List Int) × Int × Int × Unit) → Int → (List ((Int × Int × Unit) × (List Int) × Unit)) → Int → Int → Option R) → Option R
  | 0, _, _, _, _, _, _, _, _ => none
  | k + 1, v2_0, v2_1, v5, v6_0, v6_1, v7, v8, kx0 =>
    (if (decide ((v6_1.length : Int) < (12 : Int))) = true then
    (if (decide (v6_0 > (0 : Int))) = true then
    s_DrawFixVar_j7 K k v2_0 v2_1 v5 v6_0 v6_1 v7 v8 (fun z10 z11 z12 z13 z14 z15 z16 =>
    s_DrawFixVar_l6 K k z10 z11 z12 z13 z14 z15 z16 kx0)
    else
    kx0 v2_0 v2_1 v5 v6_0 v6_1 v7 v8)
    else
    kx0 v2_0 v2_1 v5 v6_0 v6_1 v7 v8)
noncomputable def s_DrawFixVar_j8 {R : Type} (K : Nat) (k : Nat) (v2_0 : Int) (v2_1 : (List ((Int × Int × Unit) × (List Int) × Unit))) (v5 : ((List Int) × Int × Int × Unit)) (v6_0 : Int) (v6_1 : (List ((Int × Int × Unit) × (List Int) × Unit))) (v7 : Int) (v8 : Int) (kn : Option R) (kr : ((Int × (List ((Int × Int × Unit) × (List Int) × Unit)) × Unit) → Int → Int → Option R)) : Option R :=
    (s_l09Bad K (v5, (v6_0, v6_1, ()), ())).bind fun y24 =>
    kr y24.1.1 v7 v8
noncomputable def s_DrawFixVar (K : Nat) (x : ((List Int) × Unit)) : Option (((Int × (List ((Int × Int × Unit) × (List Int) × Unit)) × Unit) × Int × Int × Unit) × Unit) :=
    (s_l01From K (x.1, ())).bind fun y1 =>
    (s_l09DrawOf K (y1.1.1, ())).bind fun y2 =>
    (s_l01Near K (y2.2.1, (maxL (IntKind.i64.wrap (y2.1.1.1 - (1 : Int))) [(0 : Int)]), ())).bind fun y3 =>
    (s_l01Near K (y3.2.1, (1 : Int), ())).bind fun y4 =>
    (s_l01Next K (y4.2.1, (16 : Int), ())).bind fun y5 =>
    (if (decide (y5.1.1 = (0 : Int))) = true then
    s_DrawFixVar_l6 K K (0 : Int) ([] : List ((Int × Int × Unit) × (List Int) × Unit)) y5.2.1 y2.1.1.1 y2.1.1.2.1 y3.1.1 y4.1.1 (fun z17 z18 z19 z20 z21 z22 z23 =>
    s_DrawFixVar_j8 K K z17 z18 z19 z20 z21 z22 z23 none (fun z25 z26 z27 =>
    some ((z25, z26, z27, ()), ())))
    else
    s_DrawFixVar_j8 K K (0 : Int) ([] : List ((Int × Int × Unit) × (List Int) × Unit)) y5.2.1 y2.1.1.1 y2.1.1.2.1 y3.1.1 y4.1.1 none (fun z28 z29 z30 =>
    some ((z28, z29, z30, ()), ())))
noncomputable def lv_s_DrawFixVar_J7 : Lv := [(2, (.bx (.st (.pair (.v (.int .i64)) (.pair (.r (.st (.pair (.st (.pair (.int .i64) (.pair (.int .i64) .unit))) (.pair (.sl (.int .i64)) .unit)))) .unit))))), (5, (.bx (.v (.st (.pair (.sl (.int .u8)) (.pair (.int .i64) (.pair (.int .u64) .unit))))))), (6, (.bx (.st (.pair (.v (.int .i64)) (.pair (.r (.st (.pair (.st (.pair (.int .i64) (.pair (.int .i64) .unit))) (.pair (.sl (.int .i64)) .unit)))) .unit))))), (7, (.v (.int .i64))), (8, (.v (.int .i64)))]
noncomputable def lv_s_DrawFixVar_J8 : Lv := [(2, (.bx (.st (.pair (.v (.int .i64)) (.pair (.r (.st (.pair (.st (.pair (.int .i64) (.pair (.int .i64) .unit))) (.pair (.sl (.int .i64)) .unit)))) .unit))))), (5, (.bx (.v (.st (.pair (.sl (.int .u8)) (.pair (.int .i64) (.pair (.int .u64) .unit))))))), (6, (.bx (.st (.pair (.v (.int .i64)) (.pair (.r (.st (.pair (.st (.pair (.int .i64) (.pair (.int .i64) .unit))) (.pair (.sl (.int .i64)) .unit)))) .unit))))), (7, (.v (.int .i64))), (8, (.v (.int .i64)))]
noncomputable def lv_s_DrawFixVar_L6 : Lv := [(2, (.bx (.st (.pair (.v (.int .i64)) (.pair (.r (.st (.pair (.st (.pair (.int .i64) (.pair (.int .i64) .unit))) (.pair (.sl (.int .i64)) .unit)))) .unit))))), (5, (.bx (.v (.st (.pair (.sl (.int .u8)) (.pair (.int .i64) (.pair (.int .u64) .unit))))))), (6, (.bx (.st (.pair (.v (.int .i64)) (.pair (.r (.st (.pair (.st (.pair (.int .i64) (.pair (.int .i64) .unit))) (.pair (.sl (.int .i64)) .unit)))) .unit))))), (7, (.v (.int .i64))), (8, (.v (.int .i64)))]
noncomputable def lv_s_DrawFixVar_N7 : Lv := [(2, (.bx (.st (.pair (.v (.int .i64)) (.pair (.r (.st (.pair (.st (.pair (.int .i64) (.pair (.int .i64) .unit))) (.pair (.sl (.int .i64)) .unit)))) .unit))))), (5, (.bx (.v (.st (.pair (.sl (.int .u8)) (.pair (.int .i64) (.pair (.int .u64) .unit))))))), (6, (.bx (.st (.pair (.v (.int .i64)) (.pair (.r (.st (.pair (.st (.pair (.int .i64) (.pair (.int .i64) .unit))) (.pair (.sl (.int .i64)) .unit)))) .unit))))), (7, (.v (.int .i64))), (8, (.v (.int .i64)))]
noncomputable def lv_s_DrawFixVar_N8 : Lv := []
noncomputable def lv_s_DrawFixVar_X0 : Lv := [(2, (.bx (.st (.pair (.v (.int .i64)) (.pair (.r (.st (.pair (.st (.pair (.int .i64) (.pair (.int .i64) .unit))) (.pair (.sl (.int .i64)) .unit)))) .unit))))), (5, (.bx (.v (.st (.pair (.sl (.int .u8)) (.pair (.int .i64) (.pair (.int .u64) .unit))))))), (6, (.bx (.st (.pair (.v (.int .i64)) (.pair (.r (.st (.pair (.st (.pair (.int .i64) (.pair (.int .i64) .unit))) (.pair (.sl (.int .i64)) .unit)))) .unit))))), (7, (.v (.int .i64))), (8, (.v (.int .i64)))]
noncomputable def rv_s_DrawFixVar : Lv := [(2, (.bx (.v (.st (.pair (.int .i64) (.pair (.sl (.st (.pair (.st (.pair (.int .i64) (.pair (.int .i64) .unit))) (.pair (.sl (.int .i64)) .unit)))) .unit)))))), (3, (.v (.int .i64))), (4, (.v (.int .i64)))]
noncomputable def gs_DrawFixVar_j7 {R : Type} (K : Nat) (k : Nat) (x : den lv_s_DrawFixVar_J7.ty) (kn : den lv_s_DrawFixVar_N7.ty → Option R) (kx : Nat → St → Option R) (kr : St → Option R) : Option R := s_DrawFixVar_j7 K k x.1.1 x.1.2.1 x.2.1 x.2.2.1.1 x.2.2.1.2.1 x.2.2.2.1 x.2.2.2.2.1 (fun z0 z1 z2 z3 z4 z5 z6 => kn ((z0, z1, ()), z2, (z3, z4, ()), z5, z6, ()))
noncomputable def gs_DrawFixVar_l6 {R : Type} (K : Nat) (k : Nat) (x : den lv_s_DrawFixVar_L6.ty) (kx : Nat → St → Option R) (kr : St → Option R) : Option R := s_DrawFixVar_l6 K k x.1.1 x.1.2.1 x.2.1 x.2.2.1.1 x.2.2.1.2.1 x.2.2.2.1 x.2.2.2.2.1 (fun z0 z1 z2 z3 z4 z5 z6 => kx 0 (mkSt lv_s_DrawFixVar_X0 ((z0, z1, ()), z2, (z3, z4, ()), z5, z6, ())))
noncomputable def gs_DrawFixVar_j8 {R : Type} (K : Nat) (k : Nat) (x : den lv_s_DrawFixVar_J8.ty) (kn : den lv_s_DrawFixVar_N8.ty → Option R) (kx : Nat → St → Option R) (kr : St → Option R) : Option R := s_DrawFixVar_j8 K k x.1.1 x.1.2.1 x.2.1 x.2.2.1.1 x.2.2.1.2.1 x.2.2.2.1 x.2.2.2.2.1 (kn ()) (fun z0 z1 z2 => kr (mkSt rv_s_DrawFixVar (z0, z1, z2, ())))
noncomputable def sg_s_DrawFixVar {R : Type} (K : Nat) (k : Nat) : List (Nat × SegS R) := [(7, mkSeg lv_s_DrawFixVar_J7 lv_s_DrawFixVar_N7 (gs_DrawFixVar_j7 K k)), (8, mkSeg lv_s_DrawFixVar_J8 lv_s_DrawFixVar_N8 (gs_DrawFixVar_j8 K k))]
noncomputable def su_s_DrawFixVar : List (Nat × Unit) := [(7, ()), (8, ())]
noncomputable def en_s_DrawFixVar {R : Type} (K : Nat) (k : Nat) : Env R := { L := lk [(6, mkLoop lv_s_DrawFixVar_L6 (gs_DrawFixVar_l6 K k))], X := lk [(0, lv_s_DrawFixVar_X0)], S := lk (sg_s_DrawFixVar K k), rv := rv_s_DrawFixVar }
noncomputable def cf_s_DrawFixVar (K : Nat) : Cfg := { ty := lk tys, fn := lk [], fs := lk [(54, sp_s_l01From (s_l01From K)), (65, sp_s_l01Next (s_l01Next K)), (85, sp_s_l09DrawOf (s_l09DrawOf K)), (86, sp_s_l09Bad (s_l09Bad K)), (97, sp_s_l01Near (s_l01Near K))], prot := 0, nt := Try.f31.ntmps }
noncomputable def c_s_DrawFixVar_L6 : Code := nthC (partsOf (hasK su_s_DrawFixVar) (bodyOf Try.f31)) 0
noncomputable def c_s_DrawFixVar_J7 : Code := nthC (partsOf (hasK su_s_DrawFixVar) c_s_DrawFixVar_L6) 0
noncomputable def c_s_DrawFixVar_J8 : Code := nthC (partsOf (hasK su_s_DrawFixVar) (bodyOf Try.f31)) 1
theorem es_DrawFixVar_j7 {R : Type} (K : Nat) (k : Nat) (x : den lv_s_DrawFixVar_J7.ty) (kn : den lv_s_DrawFixVar_N7.ty → Option R) (kx : Nat → St → Option R) (kr : St → Option R) : gs_DrawFixVar_j7 K k x kn kx kr = evC (cf_s_DrawFixVar K) (en_s_DrawFixVar K k) c_s_DrawFixVar_J7 (mkSt lv_s_DrawFixVar_J7 x) (cutK lv_s_DrawFixVar_N7 kn) kx kr := by kernel_rfl
theorem ss_DrawFixVar_j7 {R : Type} (K : Nat) (C : Cx) (hP : C.P = Try.prog) (O : CfgOk C (cf_s_DrawFixVar K)) (k : Nat) : SgS C (R := R) (mkSeg lv_s_DrawFixVar_J7 lv_s_DrawFixVar_N7 (gs_DrawFixVar_j7 K k)) c_s_DrawFixVar_J7 :=
  seg_sound O (by rw [hP]; kernel_rfl) (es_DrawFixVar_j7 K k) (lpOk_of (en := en_s_DrawFixVar K k) (S := hasK su_s_DrawFixVar) (fun i => hasK_lk (sg_s_DrawFixVar K k) i) _ (by rw [show partsOf (hasK su_s_DrawFixVar) c_s_DrawFixVar_J7 = [] from by kernel_rfl]; exact trivial))
theorem es_DrawFixVar_l6 {R : Type} (K : Nat) (k : Nat) (x : den lv_s_DrawFixVar_L6.ty) (kx : Nat → St → Option R) (kr : St → Option R) : gs_DrawFixVar_l6 K (k + 1) x kx kr = evC (cf_s_DrawFixVar K) (en_s_DrawFixVar K k) c_s_DrawFixVar_L6 (mkSt lv_s_DrawFixVar_L6 x) (fun s => mkLoop lv_s_DrawFixVar_L6 (gs_DrawFixVar_l6 K k) s kx kr) kx kr := by kernel_rfl
theorem ss_DrawFixVar_l6 {R : Type} (K : Nat) (C : Cx) (hP : C.P = Try.prog) (O : CfgOk C (cf_s_DrawFixVar K)) (k : Nat) : LpS C (R := R) (mkLoop lv_s_DrawFixVar_L6 (gs_DrawFixVar_l6 K k)) c_s_DrawFixVar_L6 :=
  loop_sound O (by rw [hP]; kernel_rfl) (fun x kx kr => rfl) (es_DrawFixVar_l6 K) (fun k => lpOk_of (en := en_s_DrawFixVar K k) (S := hasK su_s_DrawFixVar) (fun i => hasK_lk (sg_s_DrawFixVar K k) i) _ (by rw [show partsOf (hasK su_s_DrawFixVar) c_s_DrawFixVar_L6 = [(false, c_s_DrawFixVar_J7)] from by kernel_rfl]; exact (lpL_seg (f := mkSeg lv_s_DrawFixVar_J7 lv_s_DrawFixVar_N7 (gs_DrawFixVar_j7 K k)) (by kernel_rfl) (ss_DrawFixVar_j7 K C hP O k) trivial))) k
theorem es_DrawFixVar_j8 {R : Type} (K : Nat) (k : Nat) (x : den lv_s_DrawFixVar_J8.ty) (kn : den lv_s_DrawFixVar_N8.ty → Option R) (kx : Nat → St → Option R) (kr : St → Option R) : gs_DrawFixVar_j8 K k x kn kx kr = evC (cf_s_DrawFixVar K) (en_s_DrawFixVar K k) c_s_DrawFixVar_J8 (mkSt lv_s_DrawFixVar_J8 x) (cutK lv_s_DrawFixVar_N8 kn) kx kr := by kernel_rfl
theorem ss_DrawFixVar_j8 {R : Type} (K : Nat) (C : Cx) (hP : C.P = Try.prog) (O : CfgOk C (cf_s_DrawFixVar K)) (k : Nat) : SgS C (R := R) (mkSeg lv_s_DrawFixVar_J8 lv_s_DrawFixVar_N8 (gs_DrawFixVar_j8 K k)) c_s_DrawFixVar_J8 :=
  seg_sound O (by rw [hP]; kernel_rfl) (es_DrawFixVar_j8 K k) (lpOk_of (en := en_s_DrawFixVar K k) (S := hasK su_s_DrawFixVar) (fun i => hasK_lk (sg_s_DrawFixVar K k) i) _ (by rw [show partsOf (hasK su_s_DrawFixVar) c_s_DrawFixVar_J8 = [] from by kernel_rfl]; exact trivial))
theorem e_s_DrawFixVar (K : Nat) (x : den ps_s_DrawFixVar.ty) : s_DrawFixVar K x = evFnS (cf_s_DrawFixVar K) ps_s_DrawFixVar rl_s_DrawFixVar (en_s_DrawFixVar K K) Try.f31.results.toList (bodyOf Try.f31) x := by kernel_rfl
theorem ok_s_DrawFixVar (K : Nat) : ShOk Try.prog 31 (sp_s_DrawFixVar (s_DrawFixVar K)) :=
  sh_ok (cf := cf_s_DrawFixVar K) (en := en_s_DrawFixVar K K) (c := bodyOf Try.f31) Try.func31 (by kernel_rfl) (by kernel_rfl) tysOk (fns_ok (l := []) trivial) (shs_ok (l := [(54, sp_s_l01From (s_l01From K)), (65, sp_s_l01Next (s_l01Next K)), (85, sp_s_l09DrawOf (s_l09DrawOf K)), (86, sp_s_l09Bad (s_l09Bad K)), (97, sp_s_l01Near (s_l01Near K))]) ⟨ok_s_l01From K, ⟨ok_s_l01Next K, ⟨ok_s_l09DrawOf K, ⟨ok_s_l09Bad K, ⟨ok_s_l01Near K, trivial⟩⟩⟩⟩⟩) (by kernel_rfl) rfl (Nat.le_of_ble_eq_true (by kernel_rfl)) (by kernel_rfl) (Nat.le_of_ble_eq_true (by kernel_rfl)) (by kernel_rfl) (fun C hP O => lpOk_of (en := en_s_DrawFixVar K K) (S := hasK su_s_DrawFixVar) (fun i => hasK_lk (sg_s_DrawFixVar K K) i) _ (by rw [show partsOf (hasK su_s_DrawFixVar) (bodyOf Try.f31) = [(true, c_s_DrawFixVar_L6), (false, c_s_DrawFixVar_J8)] from by kernel_rfl]; exact (lpL_loop (f := mkLoop lv_s_DrawFixVar_L6 (gs_DrawFixVar_l6 K K)) (by kernel_rfl) (ss_DrawFixVar_l6 K C hP O K) (lpL_seg (f := mkSeg lv_s_DrawFixVar_J8 lv_s_DrawFixVar_N8 (gs_DrawFixVar_j8 K K)) (by kernel_rfl) (ss_DrawFixVar_j8 K C hP O K) trivial)))) (fun x y h => by rw [← e_s_DrawFixVar]; exact h)
noncomputable def ps_s_l09Draw : Lv := [(0, (.bx (.v (.st (.pair (.sl (.int .u8)) (.pair (.int .i64) (.pair (.int .u64) .unit)))))))]
noncomputable def rl_s_l09Draw : Lv := [(0, (.v (.st (.pair (.int .i64) (.pair (.sl (.st (.pair (.st (.pair (.int .i64) (.pair (.int .i64) .unit))) (.pair (.sl (.int .i64)) .unit)))) .unit)))))]
noncomputable def sp_s_l09Draw (F : (((List Int) × Int × Int × Unit) × Unit) → Option (((Int × (List ((Int × Int × Unit) × (List Int) × Unit)) × Unit) × Unit) × (((List Int) × Int × Int × Unit) × Unit))) : ShSpec := ⟨ps_s_l09Draw, rl_s_l09Draw, F⟩
noncomputable def s_l09Draw (K : Nat) (x : (((List Int) × Int × Int × Unit) × Unit)) : Option (((Int × (List ((Int × Int × Unit) × (List Int) × Unit)) × Unit) × Unit) × (((List Int) × Int × Int × Unit) × Unit)) :=
    (s_l09DrawOf K (x.1, ())).bind fun y1 =>
    (s_l09Bad K (y1.2.1, (y1.1.1.1, y1.1.1.2.1, ()), ())).bind fun y2 =>
    some ((y2.1.1, ()), (y2.2.1, ()))
noncomputable def rv_s_l09Draw : Lv := [(0, (.bx (.v (.st (.pair (.sl (.int .u8)) (.pair (.int .i64) (.pair (.int .u64) .unit))))))), (2, (.bx (.v (.st (.pair (.int .i64) (.pair (.sl (.st (.pair (.st (.pair (.int .i64) (.pair (.int .i64) .unit))) (.pair (.sl (.int .i64)) .unit)))) .unit))))))]
noncomputable def sg_s_l09Draw {R : Type} (K : Nat) (k : Nat) : List (Nat × SegS R) := []
noncomputable def su_s_l09Draw : List (Nat × Unit) := []
noncomputable def en_s_l09Draw {R : Type} (K : Nat) (k : Nat) : Env R := { L := lk [], X := lk [], S := lk (sg_s_l09Draw K k), rv := rv_s_l09Draw }
noncomputable def cf_s_l09Draw (K : Nat) : Cfg := { ty := lk tys, fn := lk [], fs := lk [(85, sp_s_l09DrawOf (s_l09DrawOf K)), (86, sp_s_l09Bad (s_l09Bad K))], prot := 1, nt := Try.f100.ntmps }
theorem e_s_l09Draw (K : Nat) (x : den ps_s_l09Draw.ty) : s_l09Draw K x = evFnS (cf_s_l09Draw K) ps_s_l09Draw rl_s_l09Draw (en_s_l09Draw K K) Try.f100.results.toList (bodyOf Try.f100) x := by kernel_rfl
theorem ok_s_l09Draw (K : Nat) : ShOk Try.prog 100 (sp_s_l09Draw (s_l09Draw K)) :=
  sh_ok (cf := cf_s_l09Draw K) (en := en_s_l09Draw K K) (c := bodyOf Try.f100) Try.func100 (by kernel_rfl) (by kernel_rfl) tysOk (fns_ok (l := []) trivial) (shs_ok (l := [(85, sp_s_l09DrawOf (s_l09DrawOf K)), (86, sp_s_l09Bad (s_l09Bad K))]) ⟨ok_s_l09DrawOf K, ⟨ok_s_l09Bad K, trivial⟩⟩) (by kernel_rfl) rfl (Nat.le_of_ble_eq_true (by kernel_rfl)) (by kernel_rfl) (Nat.le_of_ble_eq_true (by kernel_rfl)) (by kernel_rfl) (fun C hP O => lpOk_of (en := en_s_l09Draw K K) (S := hasK su_s_l09Draw) (fun i => hasK_lk (sg_s_l09Draw K K) i) _ (by rw [show partsOf (hasK su_s_l09Draw) (bodyOf Try.f100) = [] from by kernel_rfl]; exact trivial)) (fun x y h => by rw [← e_s_l09Draw]; exact h)
noncomputable def ps_s_DrawForcedOf : Lv := [(0, (.v (.sl (.int .u8))))]
noncomputable def rl_s_DrawForcedOf : Lv := [(0, (.v (.st (.pair (.int .i64) (.pair (.sl (.st (.pair (.st (.pair (.int .i64) (.pair (.int .i64) .unit))) (.pair (.sl (.int .i64)) .unit)))) .unit)))))]
noncomputable def sp_s_DrawForcedOf (F : ((List Int) × Unit) → Option (((Int × (List ((Int × Int × Unit) × (List Int) × Unit)) × Unit) × Unit) × Unit)) : ShSpec := ⟨ps_s_DrawForcedOf, rl_s_DrawForcedOf, F⟩
noncomputable def s_DrawForcedOf (K : Nat) (x : ((List Int) × Unit)) : Option (((Int × (List ((Int × Int × Unit) × (List Int) × Unit)) × Unit) × Unit) × Unit) :=
    (s_l01From K (x.1, ())).bind fun y1 =>
    (s_l09Draw K (y1.1.1, ())).bind fun y2 =>
    some ((y2.1.1, ()), ())
noncomputable def rv_s_DrawForcedOf : Lv := [(2, (.bx (.v (.st (.pair (.int .i64) (.pair (.sl (.st (.pair (.st (.pair (.int .i64) (.pair (.int .i64) .unit))) (.pair (.sl (.int .i64)) .unit)))) .unit))))))]
noncomputable def sg_s_DrawForcedOf {R : Type} (K : Nat) (k : Nat) : List (Nat × SegS R) := []
noncomputable def su_s_DrawForcedOf : List (Nat × Unit) := []
noncomputable def en_s_DrawForcedOf {R : Type} (K : Nat) (k : Nat) : Env R := { L := lk [], X := lk [], S := lk (sg_s_DrawForcedOf K k), rv := rv_s_DrawForcedOf }
noncomputable def cf_s_DrawForcedOf (K : Nat) : Cfg := { ty := lk tys, fn := lk [], fs := lk [(54, sp_s_l01From (s_l01From K)), (100, sp_s_l09Draw (s_l09Draw K))], prot := 0, nt := Try.f36.ntmps }
theorem e_s_DrawForcedOf (K : Nat) (x : den ps_s_DrawForcedOf.ty) : s_DrawForcedOf K x = evFnS (cf_s_DrawForcedOf K) ps_s_DrawForcedOf rl_s_DrawForcedOf (en_s_DrawForcedOf K K) Try.f36.results.toList (bodyOf Try.f36) x := by kernel_rfl
theorem ok_s_DrawForcedOf (K : Nat) : ShOk Try.prog 36 (sp_s_DrawForcedOf (s_DrawForcedOf K)) :=
  sh_ok (cf := cf_s_DrawForcedOf K) (en := en_s_DrawForcedOf K K) (c := bodyOf Try.f36) Try.func36 (by kernel_rfl) (by kernel_rfl) tysOk (fns_ok (l := []) trivial) (shs_ok (l := [(54, sp_s_l01From (s_l01From K)), (100, sp_s_l09Draw (s_l09Draw K))]) ⟨ok_s_l01From K, ⟨ok_s_l09Draw K, trivial⟩⟩) (by kernel_rfl) rfl (Nat.le_of_ble_eq_true (by kernel_rfl)) (by kernel_rfl) (Nat.le_of_ble_eq_true (by kernel_rfl)) (by kernel_rfl) (fun C hP O => lpOk_of (en := en_s_DrawForcedOf K K) (S := hasK su_s_DrawForcedOf) (fun i => hasK_lk (sg_s_DrawForcedOf K K) i) _ (by rw [show partsOf (hasK su_s_DrawForcedOf) (bodyOf Try.f36) = [] from by kernel_rfl]; exact trivial)) (fun x y h => by rw [← e_s_DrawForcedOf]; exact h)
noncomputable def ps_s_DrawNarrowDomains : Lv := [(0, (.v (.sl (.int .u8))))]
noncomputable def rl_s_DrawNarrowDomains : Lv := [(0, (.v (.st (.pair (.int .i64) (.pair (.sl (.st (.pair (.st (.pair (.int .i64) (.pair (.int .i64) .unit))) (.pair (.sl (.int .i64)) .unit)))) .unit))))), (1, (.r (.int .i64)))]
noncomputable def sp_s_DrawNarrowDomains (F : ((List Int) × Unit) → Option (((Int × (List ((Int × Int × Unit) × (List Int) × Unit)) × Unit) × (List Int) × Unit) × Unit)) : ShSpec := ⟨ps_s_DrawNarrowDomains, rl_s_DrawNarrowDomains, F⟩
noncomputable def s_DrawNarrowDomains_l4 {R : Type} (K : Nat) : Nat → Int → (List ((Int × Int × Unit) × (List Int) × Unit)) → ((List Int) × Int × Int × Unit) → Int → (List ((Int × Int × Unit) × (List Int) × Unit)) → (List Int) → Int → (Int → (List ((Int × Int × Unit) × (List Int) × Unit)) → ((List Int) × Int × Int × Unit) → Int → (List ((Int × Int × Unit) × (List Int) × Unit)) → (List Int) → Option R) → Option R
  | 0, _, _, _, _, _, _, _, _ => none
  | k + 1, v2_0, v2_1, v4, v5_0, v5_1, v6, v7, kx0 =>
    (if (decide (v7 < v5_0)) = true then
    let l4 := [(0 : Int), (1 : Int), (2 : Int), (2 : Int), (2 : Int), (2 : Int)]
    (s_l01Pick K (v4, l4, ())).bind fun y5 =>
    (if (decide (v6.length + ([y5.1.1]).length ≤ lim)) = true then
    let l6 := (v6 ++ [y5.1.1])
    s_DrawNarrowDomains_l4 K k v2_0 v2_1 y5.2.1 v5_0 v5_1 l6 (IntKind.i64.wrap (v7 + (1 : Int))) kx0
    else
    none)
    else
    kx0 v2_0 v2_1 v4 v5_0 v5_1 v6)
noncomputable def s_DrawNarrowDomains_j13 {R : Type} (K : Nat) (k : Nat) (v2_0 : Int) (v2_1 : (List ((Int × Int × Unit) × (List Int) × Unit))) (v4 : ((List Int) × Int × Int × Unit)) (v5_0 : Int) (v5_1 : (List ((Int × Int × Unit) × (List Int) × Unit))) (v6 : (List Int)) (kn : Option R) (kr : ((Int × (List ((Int × Int × Unit) × (List Int) × Unit)) × Unit) → (List Int) → Option R)) : Option R :=
    (s_l09Bad K (v4, (v5_0, v5_1, ()), ())).bind fun y16 =>
    kr y16.1.1 v6
noncomputable def s_DrawNarrowDomains (K : Nat) (x : ((List Int) × Unit)) : Option (((Int × (List ((Int × Int × Unit) × (List Int) × Unit)) × Unit) × (List Int) × Unit) × Unit) :=
    (s_l01From K (x.1, ())).bind fun y1 =>
    (s_l09DrawOf K (y1.1.1, ())).bind fun y2 =>
    let l3 := ([] : List Int)
    s_DrawNarrowDomains_l4 K K (0 : Int) ([] : List ((Int × Int × Unit) × (List Int) × Unit)) y2.2.1 y2.1.1.1 y2.1.1.2.1 l3 (0 : Int) (fun z7 z8 z9 z10 z11 z12 =>
    (s_l01Next K (z9, (24 : Int), ())).bind fun y13 =>
    (if (decide (y13.1.1 = (0 : Int))) = true then
    let l14 := [(2 : Int)]
    (if (decide (z12.length + l14.length ≤ lim)) = true then
    let l15 := (z12 ++ l14)
    s_DrawNarrowDomains_j13 K K z7 z8 y13.2.1 z10 z11 l15 none (fun z17 z18 =>
    some ((z17, z18, ()), ()))
    else
    none)
    else
    (if (decide (y13.1.1 = (1 : Int))) = true then
    (if (decide ((z12.length : Int) > (0 : Int))) = true then
    let l19 := [(3 : Int), (-1 : Int)]
    (s_l01Pick K (y13.2.1, l19, ())).bind fun y20 =>
    (if (bnds (0 : Int) (z12.length : Int)) = true then
    let l21 := (z12.set (0 : Int).toNat y20.1.1)
    s_DrawNarrowDomains_j13 K K z7 z8 y20.2.1 z10 z11 l21 none (fun z22 z23 =>
    some ((z22, z23, ()), ()))
    else
    none)
    else
    s_DrawNarrowDomains_j13 K K z7 z8 y13.2.1 z10 z11 z12 none (fun z24 z25 =>
    some ((z24, z25, ()), ())))
    else
    s_DrawNarrowDomains_j13 K K z7 z8 y13.2.1 z10 z11 z12 none (fun z26 z27 =>
    some ((z26, z27, ()), ())))))
noncomputable def lv_s_DrawNarrowDomains_J13 : Lv := [(2, (.bx (.st (.pair (.v (.int .i64)) (.pair (.r (.st (.pair (.st (.pair (.int .i64) (.pair (.int .i64) .unit))) (.pair (.sl (.int .i64)) .unit)))) .unit))))), (4, (.bx (.v (.st (.pair (.sl (.int .u8)) (.pair (.int .i64) (.pair (.int .u64) .unit))))))), (5, (.bx (.st (.pair (.v (.int .i64)) (.pair (.r (.st (.pair (.st (.pair (.int .i64) (.pair (.int .i64) .unit))) (.pair (.sl (.int .i64)) .unit)))) .unit))))), (6, (.r (.int .i64)))]
noncomputable def lv_s_DrawNarrowDomains_L4 : Lv := [(2, (.bx (.st (.pair (.v (.int .i64)) (.pair (.r (.st (.pair (.st (.pair (.int .i64) (.pair (.int .i64) .unit))) (.pair (.sl (.int .i64)) .unit)))) .unit))))), (4, (.bx (.v (.st (.pair (.sl (.int .u8)) (.pair (.int .i64) (.pair (.int .u64) .unit))))))), (5, (.bx (.st (.pair (.v (.int .i64)) (.pair (.r (.st (.pair (.st (.pair (.int .i64) (.pair (.int .i64) .unit))) (.pair (.sl (.int .i64)) .unit)))) .unit))))), (6, (.r (.int .i64))), (7, (.v (.int .i64)))]
noncomputable def lv_s_DrawNarrowDomains_N13 : Lv := []
noncomputable def lv_s_DrawNarrowDomains_X0 : Lv := [(2, (.bx (.st (.pair (.v (.int .i64)) (.pair (.r (.st (.pair (.st (.pair (.int .i64) (.pair (.int .i64) .unit))) (.pair (.sl (.int .i64)) .unit)))) .unit))))), (4, (.bx (.v (.st (.pair (.sl (.int .u8)) (.pair (.int .i64) (.pair (.int .u64) .unit))))))), (5, (.bx (.st (.pair (.v (.int .i64)) (.pair (.r (.st (.pair (.st (.pair (.int .i64) (.pair (.int .i64) .unit))) (.pair (.sl (.int .i64)) .unit)))) .unit))))), (6, (.r (.int .i64)))]
noncomputable def rv_s_DrawNarrowDomains : Lv := [(2, (.bx (.v (.st (.pair (.int .i64) (.pair (.sl (.st (.pair (.st (.pair (.int .i64) (.pair (.int .i64) .unit))) (.pair (.sl (.int .i64)) .unit)))) .unit)))))), (3, (.r (.int .i64)))]
noncomputable def gs_DrawNarrowDomains_l4 {R : Type} (K : Nat) (k : Nat) (x : den lv_s_DrawNarrowDomains_L4.ty) (kx : Nat → St → Option R) (kr : St → Option R) : Option R := s_DrawNarrowDomains_l4 K k x.1.1 x.1.2.1 x.2.1 x.2.2.1.1 x.2.2.1.2.1 x.2.2.2.1 x.2.2.2.2.1 (fun z0 z1 z2 z3 z4 z5 => kx 0 (mkSt lv_s_DrawNarrowDomains_X0 ((z0, z1, ()), z2, (z3, z4, ()), z5, ())))
noncomputable def gs_DrawNarrowDomains_j13 {R : Type} (K : Nat) (k : Nat) (x : den lv_s_DrawNarrowDomains_J13.ty) (kn : den lv_s_DrawNarrowDomains_N13.ty → Option R) (kx : Nat → St → Option R) (kr : St → Option R) : Option R := s_DrawNarrowDomains_j13 K k x.1.1 x.1.2.1 x.2.1 x.2.2.1.1 x.2.2.1.2.1 x.2.2.2.1 (kn ()) (fun z0 z1 => kr (mkSt rv_s_DrawNarrowDomains (z0, z1, ())))
noncomputable def sg_s_DrawNarrowDomains {R : Type} (K : Nat) (k : Nat) : List (Nat × SegS R) := [(13, mkSeg lv_s_DrawNarrowDomains_J13 lv_s_DrawNarrowDomains_N13 (gs_DrawNarrowDomains_j13 K k))]
noncomputable def su_s_DrawNarrowDomains : List (Nat × Unit) := [(13, ())]
noncomputable def en_s_DrawNarrowDomains {R : Type} (K : Nat) (k : Nat) : Env R := { L := lk [(4, mkLoop lv_s_DrawNarrowDomains_L4 (gs_DrawNarrowDomains_l4 K k))], X := lk [(0, lv_s_DrawNarrowDomains_X0)], S := lk (sg_s_DrawNarrowDomains K k), rv := rv_s_DrawNarrowDomains }
noncomputable def cf_s_DrawNarrowDomains (K : Nat) : Cfg := { ty := lk tys, fn := lk [], fs := lk [(54, sp_s_l01From (s_l01From K)), (57, sp_s_l01Pick (s_l01Pick K)), (65, sp_s_l01Next (s_l01Next K)), (85, sp_s_l09DrawOf (s_l09DrawOf K)), (86, sp_s_l09Bad (s_l09Bad K))], prot := 0, nt := Try.f26.ntmps }
noncomputable def c_s_DrawNarrowDomains_L4 : Code := nthC (partsOf (hasK su_s_DrawNarrowDomains) (bodyOf Try.f26)) 0
noncomputable def c_s_DrawNarrowDomains_J13 : Code := nthC (partsOf (hasK su_s_DrawNarrowDomains) (bodyOf Try.f26)) 1
theorem es_DrawNarrowDomains_l4 {R : Type} (K : Nat) (k : Nat) (x : den lv_s_DrawNarrowDomains_L4.ty) (kx : Nat → St → Option R) (kr : St → Option R) : gs_DrawNarrowDomains_l4 K (k + 1) x kx kr = evC (cf_s_DrawNarrowDomains K) (en_s_DrawNarrowDomains K k) c_s_DrawNarrowDomains_L4 (mkSt lv_s_DrawNarrowDomains_L4 x) (fun s => mkLoop lv_s_DrawNarrowDomains_L4 (gs_DrawNarrowDomains_l4 K k) s kx kr) kx kr := by kernel_rfl
theorem ss_DrawNarrowDomains_l4 {R : Type} (K : Nat) (C : Cx) (hP : C.P = Try.prog) (O : CfgOk C (cf_s_DrawNarrowDomains K)) (k : Nat) : LpS C (R := R) (mkLoop lv_s_DrawNarrowDomains_L4 (gs_DrawNarrowDomains_l4 K k)) c_s_DrawNarrowDomains_L4 :=
  loop_sound O (by rw [hP]; kernel_rfl) (fun x kx kr => rfl) (es_DrawNarrowDomains_l4 K) (fun k => lpOk_of (en := en_s_DrawNarrowDomains K k) (S := hasK su_s_DrawNarrowDomains) (fun i => hasK_lk (sg_s_DrawNarrowDomains K k) i) _ (by rw [show partsOf (hasK su_s_DrawNarrowDomains) c_s_DrawNarrowDomains_L4 = [] from by kernel_rfl]; exact trivial)) k
theorem es_DrawNarrowDomains_j13 {R : Type} (K : Nat) (k : Nat) (x : den lv_s_DrawNarrowDomains_J13.ty) (kn : den lv_s_DrawNarrowDomains_N13.ty → Option R) (kx : Nat → St → Option R) (kr : St → Option R) : gs_DrawNarrowDomains_j13 K k x kn kx kr = evC (cf_s_DrawNarrowDomains K) (en_s_DrawNarrowDomains K k) c_s_DrawNarrowDomains_J13 (mkSt lv_s_DrawNarrowDomains_J13 x) (cutK lv_s_DrawNarrowDomains_N13 kn) kx kr := by kernel_rfl
theorem ss_DrawNarrowDomains_j13 {R : Type} (K : Nat) (C : Cx) (hP : C.P = Try.prog) (O : CfgOk C (cf_s_DrawNarrowDomains K)) (k : Nat) : SgS C (R := R) (mkSeg lv_s_DrawNarrowDomains_J13 lv_s_DrawNarrowDomains_N13 (gs_DrawNarrowDomains_j13 K k)) c_s_DrawNarrowDomains_J13 :=
  seg_sound O (by rw [hP]; kernel_rfl) (es_DrawNarrowDomains_j13 K k) (lpOk_of (en := en_s_DrawNarrowDomains K k) (S := hasK su_s_DrawNarrowDomains) (fun i => hasK_lk (sg_s_DrawNarrowDomains K k) i) _ (by rw [show partsOf (hasK su_s_DrawNarrowDomains) c_s_DrawNarrowDomains_J13 = [] from by kernel_rfl]; exact trivial))
theorem e_s_DrawNarrowDomains (K : Nat) (x : den ps_s_DrawNarrowDomains.ty) : s_DrawNarrowDomains K x = evFnS (cf_s_DrawNarrowDomains K) ps_s_DrawNarrowDomains rl_s_DrawNarrowDomains (en_s_DrawNarrowDomains K K) Try.f26.results.toList (bodyOf Try.f26) x := by kernel_rfl
theorem ok_s_DrawNarrowDomains (K : Nat) : ShOk Try.prog 26 (sp_s_DrawNarrowDomains (s_DrawNarrowDomains K)) :=
  sh_ok (cf := cf_s_DrawNarrowDomains K) (en := en_s_DrawNarrowDomains K K) (c := bodyOf Try.f26) Try.func26 (by kernel_rfl) (by kernel_rfl) tysOk (fns_ok (l := []) trivial) (shs_ok (l := [(54, sp_s_l01From (s_l01From K)), (57, sp_s_l01Pick (s_l01Pick K)), (65, sp_s_l01Next (s_l01Next K)), (85, sp_s_l09DrawOf (s_l09DrawOf K)), (86, sp_s_l09Bad (s_l09Bad K))]) ⟨ok_s_l01From K, ⟨ok_s_l01Pick K, ⟨ok_s_l01Next K, ⟨ok_s_l09DrawOf K, ⟨ok_s_l09Bad K, trivial⟩⟩⟩⟩⟩) (by kernel_rfl) rfl (Nat.le_of_ble_eq_true (by kernel_rfl)) (by kernel_rfl) (Nat.le_of_ble_eq_true (by kernel_rfl)) (by kernel_rfl) (fun C hP O => lpOk_of (en := en_s_DrawNarrowDomains K K) (S := hasK su_s_DrawNarrowDomains) (fun i => hasK_lk (sg_s_DrawNarrowDomains K K) i) _ (by rw [show partsOf (hasK su_s_DrawNarrowDomains) (bodyOf Try.f26) = [(true, c_s_DrawNarrowDomains_L4), (false, c_s_DrawNarrowDomains_J13)] from by kernel_rfl]; exact (lpL_loop (f := mkLoop lv_s_DrawNarrowDomains_L4 (gs_DrawNarrowDomains_l4 K K)) (by kernel_rfl) (ss_DrawNarrowDomains_l4 K C hP O K) (lpL_seg (f := mkSeg lv_s_DrawNarrowDomains_J13 lv_s_DrawNarrowDomains_N13 (gs_DrawNarrowDomains_j13 K K)) (by kernel_rfl) (ss_DrawNarrowDomains_j13 K C hP O K) trivial)))) (fun x y h => by rw [← e_s_DrawNarrowDomains]; exact h)
noncomputable def as_s_l09Tuple : Ty := (.pair (.st (.pair (.st (.pair (.int .i64) (.pair (.int .i64) .unit))) (.pair (.sl (.int .i64)) .unit))) (.pair (.int .i64) .unit))
noncomputable def sp_s_l09Tuple (F : (((Int × Int × Unit) × (List Int) × Unit) × Int × Unit) → Option Int) : FnSpec := ⟨as_s_l09Tuple, [false, false], (.int .i64), F⟩
noncomputable def s_l09Tuple_l3 {R : Type} (K : Nat) : Nat → Int → ((Int × Int × Unit) × (List Int) × Unit) → Int → Int → (Int → Option R) → Option R
  | 0, _, _, _, _, _ => none
  | k + 1, v1, v2, v5, v6, kx0 =>
    (if (decide (v6 < (v2.2.1.length : Int))) = true then
    (if (bnds v6 (v2.2.1.length : Int)) = true then
    (if (decide ((0 : Int) ≤ (IntKind.u64.wrap (v2.2.1.getD v6.toNat (0 : Int))))) = true then
    let x1 := (shrI .i64 v1 (IntKind.u64.wrap (v2.2.1.getD v6.toNat (0 : Int))))
    (if (decide ((0 : Int) ≤ (IntKind.u64.wrap v6))) = true then
    let x2 := (shlI .i64 (bitI .and .i64 x1 (1 : Int)) (IntKind.u64.wrap v6))
    s_l09Tuple_l3 K k v1 v2 (IntKind.i64.wrap (v5 + x2)) (IntKind.i64.wrap (v6 + (1 : Int))) kx0
    else
    none)
    else
    none)
    else
    none)
    else
    kx0 v5)
noncomputable def s_l09Tuple (K : Nat) (x : (((Int × Int × Unit) × (List Int) × Unit) × Int × Unit)) : Option Int :=
    s_l09Tuple_l3 K K x.2.1 x.1 (0 : Int) (0 : Int) (fun z3 =>
    some z3)
noncomputable def lv_s_l09Tuple_L3 : Lv := [(1, (.v (.int .i64))), (2, (.bx (.v (.st (.pair (.st (.pair (.int .i64) (.pair (.int .i64) .unit))) (.pair (.sl (.int .i64)) .unit)))))), (5, (.v (.int .i64))), (6, (.v (.int .i64)))]
noncomputable def lv_s_l09Tuple_X0 : Lv := [(5, (.v (.int .i64)))]
noncomputable def rv_s_l09Tuple : Lv := [(4, (.v (.int .i64)))]
noncomputable def gs_l09Tuple_l3 {R : Type} (K : Nat) (k : Nat) (x : den lv_s_l09Tuple_L3.ty) (kx : Nat → St → Option R) (kr : St → Option R) : Option R := s_l09Tuple_l3 K k x.1 x.2.1 x.2.2.1 x.2.2.2.1 (fun z0 => kx 0 (mkSt lv_s_l09Tuple_X0 (z0, ())))
noncomputable def sg_s_l09Tuple {R : Type} (K : Nat) (k : Nat) : List (Nat × SegS R) := []
noncomputable def su_s_l09Tuple : List (Nat × Unit) := []
noncomputable def en_s_l09Tuple {R : Type} (K : Nat) (k : Nat) : Env R := { L := lk [(3, mkLoop lv_s_l09Tuple_L3 (gs_l09Tuple_l3 K k))], X := lk [(0, lv_s_l09Tuple_X0)], S := lk (sg_s_l09Tuple K k), rv := rv_s_l09Tuple }
noncomputable def cf_s_l09Tuple (K : Nat) : Cfg := { ty := lk tys, fn := lk [], fs := lk [], prot := 0, nt := Try.f108.ntmps }
noncomputable def c_s_l09Tuple_L3 : Code := nthC (partsOf (hasK su_s_l09Tuple) (bodyOf Try.f108)) 0
theorem es_l09Tuple_l3 {R : Type} (K : Nat) (k : Nat) (x : den lv_s_l09Tuple_L3.ty) (kx : Nat → St → Option R) (kr : St → Option R) : gs_l09Tuple_l3 K (k + 1) x kx kr = evC (cf_s_l09Tuple K) (en_s_l09Tuple K k) c_s_l09Tuple_L3 (mkSt lv_s_l09Tuple_L3 x) (fun s => mkLoop lv_s_l09Tuple_L3 (gs_l09Tuple_l3 K k) s kx kr) kx kr := by kernel_rfl
theorem ss_l09Tuple_l3 {R : Type} (K : Nat) (C : Cx) (hP : C.P = Try.prog) (O : CfgOk C (cf_s_l09Tuple K)) (k : Nat) : LpS C (R := R) (mkLoop lv_s_l09Tuple_L3 (gs_l09Tuple_l3 K k)) c_s_l09Tuple_L3 :=
  loop_sound O (by rw [hP]; kernel_rfl) (fun x kx kr => rfl) (es_l09Tuple_l3 K) (fun k => lpOk_of (en := en_s_l09Tuple K k) (S := hasK su_s_l09Tuple) (fun i => hasK_lk (sg_s_l09Tuple K k) i) _ (by rw [show partsOf (hasK su_s_l09Tuple) c_s_l09Tuple_L3 = [] from by kernel_rfl]; exact trivial)) k
theorem e_s_l09Tuple (K : Nat) (x : den as_s_l09Tuple) : s_l09Tuple K x = evFn (cf_s_l09Tuple K) as_s_l09Tuple [false, false] (.int .i64) (en_s_l09Tuple K K) Try.f108.results.toList (bodyOf Try.f108) x := by kernel_rfl
theorem ok_s_l09Tuple (K : Nat) : FnOk Try.prog 108 (sp_s_l09Tuple (s_l09Tuple K)) :=
  fn_ok (cf := cf_s_l09Tuple K) (en := en_s_l09Tuple K K) (c := bodyOf Try.f108) Try.func108 (by kernel_rfl) (by kernel_rfl) tysOk (fns_ok (l := []) trivial) (shs_ok (l := []) trivial) (by kernel_rfl) rfl (Nat.le_of_ble_eq_true (by kernel_rfl)) (by kernel_rfl) (of_decide_eq_true (by kernel_rfl)) (by decide) (fun C hP O => lpOk_of (en := en_s_l09Tuple K K) (S := hasK su_s_l09Tuple) (fun i => hasK_lk (sg_s_l09Tuple K K) i) _ (by rw [show partsOf (hasK su_s_l09Tuple) (bodyOf Try.f108) = [(true, c_s_l09Tuple_L3)] from by kernel_rfl]; exact (lpL_loop (f := mkLoop lv_s_l09Tuple_L3 (gs_l09Tuple_l3 K K)) (by kernel_rfl) (ss_l09Tuple_l3 K C hP O K) trivial))) (fun x y h => by rw [← e_s_l09Tuple]; exact h)
noncomputable def as_s_l09Solves : Ty := (.pair (.st (.pair (.int .i64) (.pair (.sl (.st (.pair (.st (.pair (.int .i64) (.pair (.int .i64) .unit))) (.pair (.sl (.int .i64)) .unit)))) .unit))) (.pair (.int .i64) .unit))
noncomputable def sp_s_l09Solves (F : ((Int × (List ((Int × Int × Unit) × (List Int) × Unit)) × Unit) × Int × Unit) → Option Bool) : FnSpec := ⟨as_s_l09Solves, [false, false], .bool, F⟩
noncomputable def s_l09Solves_l2 {R : Type} (K : Nat) : Nat → Int → (Int × (List ((Int × Int × Unit) × (List Int) × Unit)) × Unit) → Int → (Option R) → (Bool → Option R) → Option R
  | 0, _, _, _, _, _ => none
  | k + 1, v1, v2, v5, kx0, kr =>
    (if (decide (v5 < (v2.2.1.length : Int))) = true then
    (if (bnds v5 (v2.2.1.length : Int)) = true then
    let x1 := (v2.2.1.getD v5.toNat (((0 : Int), (0 : Int), ()), ([] : List Int), ()))
    (if (bnds v5 (v2.2.1.length : Int)) = true then
    let x2 := (v2.2.1.getD v5.toNat (((0 : Int), (0 : Int), ()), ([] : List Int), ()))
    (s_l09Tuple K (x2, v1, ())).bind fun y3 =>
    (s_l09Has K (x1.1, y3, ())).bind fun y4 =>
    (if (!y4) = true then
    kr false
    else
    s_l09Solves_l2 K k v1 v2 (IntKind.i64.wrap (v5 + (1 : Int))) kx0 kr)
    else
    none)
    else
    none)
    else
    kx0)
noncomputable def s_l09Solves (K : Nat) (x : ((Int × (List ((Int × Int × Unit) × (List Int) × Unit)) × Unit) × Int × Unit)) : Option Bool :=
    s_l09Solves_l2 K K x.2.1 x.1 (0 : Int) (some true) (fun z5 =>
    some z5)
noncomputable def lv_s_l09Solves_L2 : Lv := [(1, (.v (.int .i64))), (2, (.bx (.v (.st (.pair (.int .i64) (.pair (.sl (.st (.pair (.st (.pair (.int .i64) (.pair (.int .i64) .unit))) (.pair (.sl (.int .i64)) .unit)))) .unit)))))), (5, (.v (.int .i64)))]
noncomputable def lv_s_l09Solves_X0 : Lv := []
noncomputable def rv_s_l09Solves : Lv := [(4, (.v .bool))]
noncomputable def gs_l09Solves_l2 {R : Type} (K : Nat) (k : Nat) (x : den lv_s_l09Solves_L2.ty) (kx : Nat → St → Option R) (kr : St → Option R) : Option R := s_l09Solves_l2 K k x.1 x.2.1 x.2.2.1 (kx 0 (mkSt lv_s_l09Solves_X0 ())) (fun z0 => kr (mkSt rv_s_l09Solves (z0, ())))
noncomputable def sg_s_l09Solves {R : Type} (K : Nat) (k : Nat) : List (Nat × SegS R) := []
noncomputable def su_s_l09Solves : List (Nat × Unit) := []
noncomputable def en_s_l09Solves {R : Type} (K : Nat) (k : Nat) : Env R := { L := lk [(2, mkLoop lv_s_l09Solves_L2 (gs_l09Solves_l2 K k))], X := lk [(0, lv_s_l09Solves_X0)], S := lk (sg_s_l09Solves K k), rv := rv_s_l09Solves }
noncomputable def cf_s_l09Solves (K : Nat) : Cfg := { ty := lk tys, fn := lk [(107, sp_s_l09Has (s_l09Has K)), (108, sp_s_l09Tuple (s_l09Tuple K))], fs := lk [], prot := 0, nt := Try.f141.ntmps }
noncomputable def c_s_l09Solves_L2 : Code := nthC (partsOf (hasK su_s_l09Solves) (bodyOf Try.f141)) 0
theorem es_l09Solves_l2 {R : Type} (K : Nat) (k : Nat) (x : den lv_s_l09Solves_L2.ty) (kx : Nat → St → Option R) (kr : St → Option R) : gs_l09Solves_l2 K (k + 1) x kx kr = evC (cf_s_l09Solves K) (en_s_l09Solves K k) c_s_l09Solves_L2 (mkSt lv_s_l09Solves_L2 x) (fun s => mkLoop lv_s_l09Solves_L2 (gs_l09Solves_l2 K k) s kx kr) kx kr := by kernel_rfl
theorem ss_l09Solves_l2 {R : Type} (K : Nat) (C : Cx) (hP : C.P = Try.prog) (O : CfgOk C (cf_s_l09Solves K)) (k : Nat) : LpS C (R := R) (mkLoop lv_s_l09Solves_L2 (gs_l09Solves_l2 K k)) c_s_l09Solves_L2 :=
  loop_sound O (by rw [hP]; kernel_rfl) (fun x kx kr => rfl) (es_l09Solves_l2 K) (fun k => lpOk_of (en := en_s_l09Solves K k) (S := hasK su_s_l09Solves) (fun i => hasK_lk (sg_s_l09Solves K k) i) _ (by rw [show partsOf (hasK su_s_l09Solves) c_s_l09Solves_L2 = [] from by kernel_rfl]; exact trivial)) k
theorem e_s_l09Solves (K : Nat) (x : den as_s_l09Solves) : s_l09Solves K x = evFn (cf_s_l09Solves K) as_s_l09Solves [false, false] .bool (en_s_l09Solves K K) Try.f141.results.toList (bodyOf Try.f141) x := by kernel_rfl
theorem ok_s_l09Solves (K : Nat) : FnOk Try.prog 141 (sp_s_l09Solves (s_l09Solves K)) :=
  fn_ok (cf := cf_s_l09Solves K) (en := en_s_l09Solves K K) (c := bodyOf Try.f141) Try.func141 (by kernel_rfl) (by kernel_rfl) tysOk (fns_ok (l := [(107, sp_s_l09Has (s_l09Has K)), (108, sp_s_l09Tuple (s_l09Tuple K))]) ⟨ok_s_l09Has K, ⟨ok_s_l09Tuple K, trivial⟩⟩) (shs_ok (l := []) trivial) (by kernel_rfl) rfl (Nat.le_of_ble_eq_true (by kernel_rfl)) (by kernel_rfl) (of_decide_eq_true (by kernel_rfl)) (by decide) (fun C hP O => lpOk_of (en := en_s_l09Solves K K) (S := hasK su_s_l09Solves) (fun i => hasK_lk (sg_s_l09Solves K K) i) _ (by rw [show partsOf (hasK su_s_l09Solves) (bodyOf Try.f141) = [(true, c_s_l09Solves_L2)] from by kernel_rfl]; exact (lpL_loop (f := mkLoop lv_s_l09Solves_L2 (gs_l09Solves_l2 K K)) (by kernel_rfl) (ss_l09Solves_l2 K C hP O K) trivial))) (fun x y h => by rw [← e_s_l09Solves]; exact h)
noncomputable def as_s_l09Solutions : Ty := (.pair (.st (.pair (.int .i64) (.pair (.sl (.st (.pair (.st (.pair (.int .i64) (.pair (.int .i64) .unit))) (.pair (.sl (.int .i64)) .unit)))) .unit))) .unit)
noncomputable def sp_s_l09Solutions (F : ((Int × (List ((Int × Int × Unit) × (List Int) × Unit)) × Unit) × Unit) → Option (List Int)) : FnSpec := ⟨as_s_l09Solutions, [false], (.sl (.int .i64)), F⟩
noncomputable def s_l09Solutions_l3 {R : Type} (K : Nat) : Nat → (Int × (List ((Int × Int × Unit) × (List Int) × Unit)) × Unit) → (List Int) → Int → ((List Int) → Option R) → Option R
  | 0, _, _, _, _ => none
  | k + 1, v1, v3, v4, kx0 =>
    (s_l01Rows K (v1.1, ())).bind fun y2 =>
    (if (decide (v4 < y2)) = true then
    (s_l09Solves K (v1, v4, ())).bind fun y3 =>
    (if y3 = true then
    (if (decide (v3.length + ([v4]).length ≤ lim)) = true then
    let l4 := (v3 ++ [v4])
    s_l09Solutions_l3 K k v1 l4 (IntKind.i64.wrap (v4 + (1 : Int))) kx0
    else
    none)
    else
    s_l09Solutions_l3 K k v1 v3 (IntKind.i64.wrap (v4 + (1 : Int))) kx0)
    else
    kx0 v3)
noncomputable def s_l09Solutions (K : Nat) (x : ((Int × (List ((Int × Int × Unit) × (List Int) × Unit)) × Unit) × Unit)) : Option (List Int) :=
    let l1 := ([] : List Int)
    s_l09Solutions_l3 K K x.1 l1 (0 : Int) (fun z5 =>
    some z5)
noncomputable def lv_s_l09Solutions_L3 : Lv := [(1, (.bx (.v (.st (.pair (.int .i64) (.pair (.sl (.st (.pair (.st (.pair (.int .i64) (.pair (.int .i64) .unit))) (.pair (.sl (.int .i64)) .unit)))) .unit)))))), (3, (.r (.int .i64))), (4, (.v (.int .i64)))]
noncomputable def lv_s_l09Solutions_X0 : Lv := [(3, (.r (.int .i64)))]
noncomputable def rv_s_l09Solutions : Lv := [(2, (.r (.int .i64)))]
noncomputable def gs_l09Solutions_l3 {R : Type} (K : Nat) (k : Nat) (x : den lv_s_l09Solutions_L3.ty) (kx : Nat → St → Option R) (kr : St → Option R) : Option R := s_l09Solutions_l3 K k x.1 x.2.1 x.2.2.1 (fun z0 => kx 0 (mkSt lv_s_l09Solutions_X0 (z0, ())))
noncomputable def sg_s_l09Solutions {R : Type} (K : Nat) (k : Nat) : List (Nat × SegS R) := []
noncomputable def su_s_l09Solutions : List (Nat × Unit) := []
noncomputable def en_s_l09Solutions {R : Type} (K : Nat) (k : Nat) : Env R := { L := lk [(3, mkLoop lv_s_l09Solutions_L3 (gs_l09Solutions_l3 K k))], X := lk [(0, lv_s_l09Solutions_X0)], S := lk (sg_s_l09Solutions K k), rv := rv_s_l09Solutions }
noncomputable def cf_s_l09Solutions (K : Nat) : Cfg := { ty := lk tys, fn := lk [(78, sp_s_l01Rows (s_l01Rows K)), (141, sp_s_l09Solves (s_l09Solves K))], fs := lk [], prot := 0, nt := Try.f104.ntmps }
noncomputable def c_s_l09Solutions_L3 : Code := nthC (partsOf (hasK su_s_l09Solutions) (bodyOf Try.f104)) 0
theorem es_l09Solutions_l3 {R : Type} (K : Nat) (k : Nat) (x : den lv_s_l09Solutions_L3.ty) (kx : Nat → St → Option R) (kr : St → Option R) : gs_l09Solutions_l3 K (k + 1) x kx kr = evC (cf_s_l09Solutions K) (en_s_l09Solutions K k) c_s_l09Solutions_L3 (mkSt lv_s_l09Solutions_L3 x) (fun s => mkLoop lv_s_l09Solutions_L3 (gs_l09Solutions_l3 K k) s kx kr) kx kr := by kernel_rfl
theorem ss_l09Solutions_l3 {R : Type} (K : Nat) (C : Cx) (hP : C.P = Try.prog) (O : CfgOk C (cf_s_l09Solutions K)) (k : Nat) : LpS C (R := R) (mkLoop lv_s_l09Solutions_L3 (gs_l09Solutions_l3 K k)) c_s_l09Solutions_L3 :=
  loop_sound O (by rw [hP]; kernel_rfl) (fun x kx kr => rfl) (es_l09Solutions_l3 K) (fun k => lpOk_of (en := en_s_l09Solutions K k) (S := hasK su_s_l09Solutions) (fun i => hasK_lk (sg_s_l09Solutions K k) i) _ (by rw [show partsOf (hasK su_s_l09Solutions) c_s_l09Solutions_L3 = [] from by kernel_rfl]; exact trivial)) k
theorem e_s_l09Solutions (K : Nat) (x : den as_s_l09Solutions) : s_l09Solutions K x = evFn (cf_s_l09Solutions K) as_s_l09Solutions [false] (.sl (.int .i64)) (en_s_l09Solutions K K) Try.f104.results.toList (bodyOf Try.f104) x := by kernel_rfl
theorem ok_s_l09Solutions (K : Nat) : FnOk Try.prog 104 (sp_s_l09Solutions (s_l09Solutions K)) :=
  fn_ok (cf := cf_s_l09Solutions K) (en := en_s_l09Solutions K K) (c := bodyOf Try.f104) Try.func104 (by kernel_rfl) (by kernel_rfl) tysOk (fns_ok (l := [(78, sp_s_l01Rows (s_l01Rows K)), (141, sp_s_l09Solves (s_l09Solves K))]) ⟨ok_s_l01Rows K, ⟨ok_s_l09Solves K, trivial⟩⟩) (shs_ok (l := []) trivial) (by kernel_rfl) rfl (Nat.le_of_ble_eq_true (by kernel_rfl)) (by kernel_rfl) (of_decide_eq_true (by kernel_rfl)) (by decide) (fun C hP O => lpOk_of (en := en_s_l09Solutions K K) (S := hasK su_s_l09Solutions) (fun i => hasK_lk (sg_s_l09Solutions K K) i) _ (by rw [show partsOf (hasK su_s_l09Solutions) (bodyOf Try.f104) = [(true, c_s_l09Solutions_L3)] from by kernel_rfl]; exact (lpL_loop (f := mkLoop lv_s_l09Solutions_L3 (gs_l09Solutions_l3 K K)) (by kernel_rfl) (ss_l09Solutions_l3 K C hP O K) trivial))) (fun x y h => by rw [← e_s_l09Solutions]; exact h)
noncomputable def ps_s_DrawSatisfiedBy : Lv := [(0, (.v (.sl (.int .u8))))]
noncomputable def rl_s_DrawSatisfiedBy : Lv := [(0, (.v (.st (.pair (.int .i64) (.pair (.sl (.st (.pair (.st (.pair (.int .i64) (.pair (.int .i64) .unit))) (.pair (.sl (.int .i64)) .unit)))) .unit))))), (1, (.v (.int .i64)))]
noncomputable def sp_s_DrawSatisfiedBy (F : ((List Int) × Unit) → Option (((Int × (List ((Int × Int × Unit) × (List Int) × Unit)) × Unit) × Int × Unit) × Unit)) : ShSpec := ⟨ps_s_DrawSatisfiedBy, rl_s_DrawSatisfiedBy, F⟩
noncomputable def s_DrawSatisfiedBy_j7 {R : Type} (K : Nat) (k : Nat) (v2_0 : Int) (v2_1 : (List ((Int × Int × Unit) × (List Int) × Unit))) (v4 : ((List Int) × Int × Int × Unit)) (v5_0 : Int) (v5_1 : (List ((Int × Int × Unit) × (List Int) × Unit))) (v6 : Int) (kn : Option R) (kr : ((Int × (List ((Int × Int × Unit) × (List Int) × Unit)) × Unit) → Int → Option R)) : Option R :=
    (s_l09Bad K (v4, (v5_0, v5_1, ()), ())).bind fun y8 =>
    kr y8.1.1 v6
noncomputable def s_DrawSatisfiedBy (K : Nat) (x : ((List Int) × Unit)) : Option (((Int × (List ((Int × Int × Unit) × (List Int) × Unit)) × Unit) × Int × Unit) × Unit) :=
    (s_l01From K (x.1, ())).bind fun y1 =>
    (s_l09DrawOf K (y1.1.1, ())).bind fun y2 =>
    (s_l01Rows K (y2.1.1.1, ())).bind fun y3 =>
    (s_l01Near K (y2.2.1, (IntKind.i64.wrap (y3 - (1 : Int))), ())).bind fun y4 =>
    (s_l09Solutions K ((y2.1.1.1, y2.1.1.2.1, ()), ())).bind fun y5 =>
    (if (decide ((y5.length : Int) > (0 : Int))) = true then
    (s_l01Next K (y4.2.1, (3 : Int), ())).bind fun y6 =>
    (if (decide (y6.1.1 = (0 : Int))) = true then
    (s_l01Next K (y6.2.1, (y5.length : Int), ())).bind fun y7 =>
    (if (bnds y7.1.1 (y5.length : Int)) = true then
    s_DrawSatisfiedBy_j7 K K (0 : Int) ([] : List ((Int × Int × Unit) × (List Int) × Unit)) y7.2.1 y2.1.1.1 y2.1.1.2.1 (y5.getD y7.1.1.toNat (0 : Int)) none (fun z9 z10 =>
    some ((z9, z10, ()), ()))
    else
    none)
    else
    s_DrawSatisfiedBy_j7 K K (0 : Int) ([] : List ((Int × Int × Unit) × (List Int) × Unit)) y6.2.1 y2.1.1.1 y2.1.1.2.1 y4.1.1 none (fun z11 z12 =>
    some ((z11, z12, ()), ())))
    else
    s_DrawSatisfiedBy_j7 K K (0 : Int) ([] : List ((Int × Int × Unit) × (List Int) × Unit)) y4.2.1 y2.1.1.1 y2.1.1.2.1 y4.1.1 none (fun z13 z14 =>
    some ((z13, z14, ()), ())))
noncomputable def lv_s_DrawSatisfiedBy_J7 : Lv := [(2, (.bx (.st (.pair (.v (.int .i64)) (.pair (.r (.st (.pair (.st (.pair (.int .i64) (.pair (.int .i64) .unit))) (.pair (.sl (.int .i64)) .unit)))) .unit))))), (4, (.bx (.v (.st (.pair (.sl (.int .u8)) (.pair (.int .i64) (.pair (.int .u64) .unit))))))), (5, (.bx (.st (.pair (.v (.int .i64)) (.pair (.r (.st (.pair (.st (.pair (.int .i64) (.pair (.int .i64) .unit))) (.pair (.sl (.int .i64)) .unit)))) .unit))))), (6, (.v (.int .i64)))]
noncomputable def lv_s_DrawSatisfiedBy_N7 : Lv := []
noncomputable def rv_s_DrawSatisfiedBy : Lv := [(2, (.bx (.v (.st (.pair (.int .i64) (.pair (.sl (.st (.pair (.st (.pair (.int .i64) (.pair (.int .i64) .unit))) (.pair (.sl (.int .i64)) .unit)))) .unit)))))), (3, (.v (.int .i64)))]
noncomputable def gs_DrawSatisfiedBy_j7 {R : Type} (K : Nat) (k : Nat) (x : den lv_s_DrawSatisfiedBy_J7.ty) (kn : den lv_s_DrawSatisfiedBy_N7.ty → Option R) (kx : Nat → St → Option R) (kr : St → Option R) : Option R := s_DrawSatisfiedBy_j7 K k x.1.1 x.1.2.1 x.2.1 x.2.2.1.1 x.2.2.1.2.1 x.2.2.2.1 (kn ()) (fun z0 z1 => kr (mkSt rv_s_DrawSatisfiedBy (z0, z1, ())))
noncomputable def sg_s_DrawSatisfiedBy {R : Type} (K : Nat) (k : Nat) : List (Nat × SegS R) := [(7, mkSeg lv_s_DrawSatisfiedBy_J7 lv_s_DrawSatisfiedBy_N7 (gs_DrawSatisfiedBy_j7 K k))]
noncomputable def su_s_DrawSatisfiedBy : List (Nat × Unit) := [(7, ())]
noncomputable def en_s_DrawSatisfiedBy {R : Type} (K : Nat) (k : Nat) : Env R := { L := lk [], X := lk [], S := lk (sg_s_DrawSatisfiedBy K k), rv := rv_s_DrawSatisfiedBy }
noncomputable def cf_s_DrawSatisfiedBy (K : Nat) : Cfg := { ty := lk tys, fn := lk [(78, sp_s_l01Rows (s_l01Rows K)), (104, sp_s_l09Solutions (s_l09Solutions K))], fs := lk [(54, sp_s_l01From (s_l01From K)), (65, sp_s_l01Next (s_l01Next K)), (85, sp_s_l09DrawOf (s_l09DrawOf K)), (86, sp_s_l09Bad (s_l09Bad K)), (97, sp_s_l01Near (s_l01Near K))], prot := 0, nt := Try.f39.ntmps }
noncomputable def c_s_DrawSatisfiedBy_J7 : Code := nthC (partsOf (hasK su_s_DrawSatisfiedBy) (bodyOf Try.f39)) 0
theorem es_DrawSatisfiedBy_j7 {R : Type} (K : Nat) (k : Nat) (x : den lv_s_DrawSatisfiedBy_J7.ty) (kn : den lv_s_DrawSatisfiedBy_N7.ty → Option R) (kx : Nat → St → Option R) (kr : St → Option R) : gs_DrawSatisfiedBy_j7 K k x kn kx kr = evC (cf_s_DrawSatisfiedBy K) (en_s_DrawSatisfiedBy K k) c_s_DrawSatisfiedBy_J7 (mkSt lv_s_DrawSatisfiedBy_J7 x) (cutK lv_s_DrawSatisfiedBy_N7 kn) kx kr := by kernel_rfl
theorem ss_DrawSatisfiedBy_j7 {R : Type} (K : Nat) (C : Cx) (hP : C.P = Try.prog) (O : CfgOk C (cf_s_DrawSatisfiedBy K)) (k : Nat) : SgS C (R := R) (mkSeg lv_s_DrawSatisfiedBy_J7 lv_s_DrawSatisfiedBy_N7 (gs_DrawSatisfiedBy_j7 K k)) c_s_DrawSatisfiedBy_J7 :=
  seg_sound O (by rw [hP]; kernel_rfl) (es_DrawSatisfiedBy_j7 K k) (lpOk_of (en := en_s_DrawSatisfiedBy K k) (S := hasK su_s_DrawSatisfiedBy) (fun i => hasK_lk (sg_s_DrawSatisfiedBy K k) i) _ (by rw [show partsOf (hasK su_s_DrawSatisfiedBy) c_s_DrawSatisfiedBy_J7 = [] from by kernel_rfl]; exact trivial))
theorem e_s_DrawSatisfiedBy (K : Nat) (x : den ps_s_DrawSatisfiedBy.ty) : s_DrawSatisfiedBy K x = evFnS (cf_s_DrawSatisfiedBy K) ps_s_DrawSatisfiedBy rl_s_DrawSatisfiedBy (en_s_DrawSatisfiedBy K K) Try.f39.results.toList (bodyOf Try.f39) x := by kernel_rfl
theorem ok_s_DrawSatisfiedBy (K : Nat) : ShOk Try.prog 39 (sp_s_DrawSatisfiedBy (s_DrawSatisfiedBy K)) :=
  sh_ok (cf := cf_s_DrawSatisfiedBy K) (en := en_s_DrawSatisfiedBy K K) (c := bodyOf Try.f39) Try.func39 (by kernel_rfl) (by kernel_rfl) tysOk (fns_ok (l := [(78, sp_s_l01Rows (s_l01Rows K)), (104, sp_s_l09Solutions (s_l09Solutions K))]) ⟨ok_s_l01Rows K, ⟨ok_s_l09Solutions K, trivial⟩⟩) (shs_ok (l := [(54, sp_s_l01From (s_l01From K)), (65, sp_s_l01Next (s_l01Next K)), (85, sp_s_l09DrawOf (s_l09DrawOf K)), (86, sp_s_l09Bad (s_l09Bad K)), (97, sp_s_l01Near (s_l01Near K))]) ⟨ok_s_l01From K, ⟨ok_s_l01Next K, ⟨ok_s_l09DrawOf K, ⟨ok_s_l09Bad K, ⟨ok_s_l01Near K, trivial⟩⟩⟩⟩⟩) (by kernel_rfl) rfl (Nat.le_of_ble_eq_true (by kernel_rfl)) (by kernel_rfl) (Nat.le_of_ble_eq_true (by kernel_rfl)) (by kernel_rfl) (fun C hP O => lpOk_of (en := en_s_DrawSatisfiedBy K K) (S := hasK su_s_DrawSatisfiedBy) (fun i => hasK_lk (sg_s_DrawSatisfiedBy K K) i) _ (by rw [show partsOf (hasK su_s_DrawSatisfiedBy) (bodyOf Try.f39) = [(false, c_s_DrawSatisfiedBy_J7)] from by kernel_rfl]; exact (lpL_seg (f := mkSeg lv_s_DrawSatisfiedBy_J7 lv_s_DrawSatisfiedBy_N7 (gs_DrawSatisfiedBy_j7 K K)) (by kernel_rfl) (ss_DrawSatisfiedBy_j7 K C hP O K) trivial))) (fun x y h => by rw [← e_s_DrawSatisfiedBy]; exact h)
noncomputable def as_s_l01All : Ty := (.pair (.int .i64) .unit)
noncomputable def sp_s_l01All (F : (Int × Unit) → Option Int) : FnSpec := ⟨as_s_l01All, [false], (.int .i64), F⟩
noncomputable def s_l01All (K : Nat) (x : (Int × Unit)) : Option Int :=
    (s_l01Rows K (x.1, ())).bind fun y1 =>
    (if (decide ((0 : Int) ≤ (IntKind.u64.wrap y1))) = true then
    let x2 := (IntKind.i64.wrap ((shlI .i64 (1 : Int) (IntKind.u64.wrap y1)) - (1 : Int)))
    some x2
    else
    none)
noncomputable def rv_s_l01All : Lv := [(2, (.v (.int .i64)))]
noncomputable def sg_s_l01All {R : Type} (K : Nat) (k : Nat) : List (Nat × SegS R) := []
noncomputable def su_s_l01All : List (Nat × Unit) := []
noncomputable def en_s_l01All {R : Type} (K : Nat) (k : Nat) : Env R := { L := lk [], X := lk [], S := lk (sg_s_l01All K k), rv := rv_s_l01All }
noncomputable def cf_s_l01All (K : Nat) : Cfg := { ty := lk tys, fn := lk [(78, sp_s_l01Rows (s_l01Rows K))], fs := lk [], prot := 0, nt := Try.f125.ntmps }
theorem e_s_l01All (K : Nat) (x : den as_s_l01All) : s_l01All K x = evFn (cf_s_l01All K) as_s_l01All [false] (.int .i64) (en_s_l01All K K) Try.f125.results.toList (bodyOf Try.f125) x := by kernel_rfl
theorem ok_s_l01All (K : Nat) : FnOk Try.prog 125 (sp_s_l01All (s_l01All K)) :=
  fn_ok (cf := cf_s_l01All K) (en := en_s_l01All K K) (c := bodyOf Try.f125) Try.func125 (by kernel_rfl) (by kernel_rfl) tysOk (fns_ok (l := [(78, sp_s_l01Rows (s_l01Rows K))]) ⟨ok_s_l01Rows K, trivial⟩) (shs_ok (l := []) trivial) (by kernel_rfl) rfl (Nat.le_of_ble_eq_true (by kernel_rfl)) (by kernel_rfl) (of_decide_eq_true (by kernel_rfl)) (by decide) (fun C hP O => lpOk_of (en := en_s_l01All K K) (S := hasK su_s_l01All) (fun i => hasK_lk (sg_s_l01All K K) i) _ (by rw [show partsOf (hasK su_s_l01All) (bodyOf Try.f125) = [] from by kernel_rfl]; exact trivial)) (fun x y h => by rw [← e_s_l01All]; exact h)
noncomputable def as_s_l06Is : Ty := (.pair (.st (.pair (.int .i64) (.pair (.int .i64) .unit))) .unit)
noncomputable def sp_s_l06Is (F : ((Int × Int × Unit) × Unit) → Option Bool) : FnSpec := ⟨as_s_l06Is, [false], .bool, F⟩
noncomputable def s_l06Is (K : Nat) (x : ((Int × Int × Unit) × Unit)) : Option Bool :=
    (s_l01In K (x.1.1, (1 : Int), (4 : Int), ())).bind fun y1 =>
    (if y1 = true then
    (s_l01All K (x.1.1, ())).bind fun y2 =>
    (s_l01In K (x.1.2.1, (0 : Int), y2, ())).bind fun y3 =>
    some y3
    else
    some false)
noncomputable def rv_s_l06Is : Lv := [(2, (.v .bool))]
noncomputable def sg_s_l06Is {R : Type} (K : Nat) (k : Nat) : List (Nat × SegS R) := []
noncomputable def su_s_l06Is : List (Nat × Unit) := []
noncomputable def en_s_l06Is {R : Type} (K : Nat) (k : Nat) : Env R := { L := lk [], X := lk [], S := lk (sg_s_l06Is K k), rv := rv_s_l06Is }
noncomputable def cf_s_l06Is (K : Nat) : Cfg := { ty := lk tys, fn := lk [(71, sp_s_l01In (s_l01In K)), (125, sp_s_l01All (s_l01All K))], fs := lk [], prot := 0, nt := Try.f63.ntmps }
theorem e_s_l06Is (K : Nat) (x : den as_s_l06Is) : s_l06Is K x = evFn (cf_s_l06Is K) as_s_l06Is [false] .bool (en_s_l06Is K K) Try.f63.results.toList (bodyOf Try.f63) x := by kernel_rfl
theorem ok_s_l06Is (K : Nat) : FnOk Try.prog 63 (sp_s_l06Is (s_l06Is K)) :=
  fn_ok (cf := cf_s_l06Is K) (en := en_s_l06Is K K) (c := bodyOf Try.f63) Try.func63 (by kernel_rfl) (by kernel_rfl) tysOk (fns_ok (l := [(71, sp_s_l01In (s_l01In K)), (125, sp_s_l01All (s_l01All K))]) ⟨ok_s_l01In K, ⟨ok_s_l01All K, trivial⟩⟩) (shs_ok (l := []) trivial) (by kernel_rfl) rfl (Nat.le_of_ble_eq_true (by kernel_rfl)) (by kernel_rfl) (of_decide_eq_true (by kernel_rfl)) (by decide) (fun C hP O => lpOk_of (en := en_s_l06Is K K) (S := hasK su_s_l06Is) (fun i => hasK_lk (sg_s_l06Is K K) i) _ (by rw [show partsOf (hasK su_s_l06Is) (bodyOf Try.f63) = [] from by kernel_rfl]; exact trivial)) (fun x y h => by rw [← e_s_l06Is]; exact h)
noncomputable def as_s_l09Is : Ty := (.pair (.st (.pair (.int .i64) (.pair (.sl (.st (.pair (.st (.pair (.int .i64) (.pair (.int .i64) .unit))) (.pair (.sl (.int .i64)) .unit)))) .unit))) .unit)
noncomputable def sp_s_l09Is (F : ((Int × (List ((Int × Int × Unit) × (List Int) × Unit)) × Unit) × Unit) → Option Bool) : FnSpec := ⟨as_s_l09Is, [false], .bool, F⟩
noncomputable def s_l09Is_l10 {R : Type} (K : Nat) : Nat → (Int × (List ((Int × Int × Unit) × (List Int) × Unit)) × Unit) → Int → ((Int × Int × Unit) × (List Int) × Unit) → Int → ((Int × (List ((Int × Int × Unit) × (List Int) × Unit)) × Unit) → Int → Option R) → (Bool → Option R) → Option R
  | 0, _, _, _, _, _, _ => none
  | k + 1, v1, v3, v4, v5, kx2, kr =>
    (if (decide (v5 < (v4.2.1.length : Int))) = true then
    (if (bnds v5 (v4.2.1.length : Int)) = true then
    (s_l01In K ((v4.2.1.getD v5.toNat (0 : Int)), (0 : Int), (IntKind.i64.wrap (v1.1 - (1 : Int))), ())).bind fun y4 =>
    (if (!y4) = true then
    kr false
    else
    s_l09Is_l10 K k v1 v3 v4 (IntKind.i64.wrap (v5 + (1 : Int))) kx2 kr)
    else
    none)
    else
    kx2 v1 v3)
noncomputable def s_l09Is_j9 {R : Type} (K : Nat) (k : Nat) (v1 : (Int × (List ((Int × Int × Unit) × (List Int) × Unit)) × Unit)) (v3 : Int) (v4 : ((Int × Int × Unit) × (List Int) × Unit)) (kn : (Int × (List ((Int × Int × Unit) × (List Int) × Unit)) × Unit) → Int → Option R) (kr : (Bool → Option R)) : Option R :=
    s_l09Is_l10 K k v1 v3 v4 (0 : Int) (fun z5 z6 =>
    kn z5 z6) (fun z7 =>
    kr z7)
noncomputable def s_l09Is_l4 {R : Type} (K : Nat) : Nat → (Int × (List ((Int × Int × Unit) × (List Int) × Unit)) × Unit) → Int → (Option R) → (Bool → Option R) → Option R
  | 0, _, _, _, _ => none
  | k + 1, v1, v3, kx0, kr =>
    (if (decide (v3 < (v1.2.1.length : Int))) = true then
    (if (bnds v3 (v1.2.1.length : Int)) = true then
    let x2 := (v1.2.1.getD v3.toNat (((0 : Int), (0 : Int), ()), ([] : List Int), ()))
    (s_l06Is K (x2.1, ())).bind fun y3 =>
    (if (!y3) = true then
    kr false
    else
    (if (!decide ((x2.2.1.length : Int) = x2.1.1)) = true then
    kr false
    else
    s_l09Is_j9 K k v1 v3 x2 (fun z8 z9 =>
    s_l09Is_l4 K k z8 (IntKind.i64.wrap (z9 + (1 : Int))) kx0 kr) (fun z10 =>
    kr z10)))
    else
    none)
    else
    kx0)
noncomputable def s_l09Is_j3 {R : Type} (K : Nat) (k : Nat) (v1 : (Int × (List ((Int × Int × Unit) × (List Int) × Unit)) × Unit)) (kn : Option R) (kr : (Bool → Option R)) : Option R :=
    s_l09Is_l4 K k v1 (0 : Int) (kr true) (fun z11 =>
    kr z11)
noncomputable def s_l09Is (K : Nat) (x : ((Int × (List ((Int × Int × Unit) × (List Int) × Unit)) × Unit) × Unit)) : Option Bool :=
    (s_l01In K (x.1.1, (0 : Int), (8 : Int), ())).bind fun y1 =>
    (if (!y1) = true then
    some false
    else
    (if (decide ((x.1.2.1.length : Int) > (12 : Int))) = true then
    some false
    else
    s_l09Is_j3 K K x.1 none (fun z12 =>
    some z12)))
noncomputable def lv_s_l09Is_J3 : Lv := [(1, (.bx (.v (.st (.pair (.int .i64) (.pair (.sl (.st (.pair (.st (.pair (.int .i64) (.pair (.int .i64) .unit))) (.pair (.sl (.int .i64)) .unit)))) .unit))))))]
noncomputable def lv_s_l09Is_J9 : Lv := [(1, (.bx (.v (.st (.pair (.int .i64) (.pair (.sl (.st (.pair (.st (.pair (.int .i64) (.pair (.int .i64) .unit))) (.pair (.sl (.int .i64)) .unit)))) .unit)))))), (3, (.v (.int .i64))), (4, (.bx (.v (.st (.pair (.st (.pair (.int .i64) (.pair (.int .i64) .unit))) (.pair (.sl (.int .i64)) .unit))))))]
noncomputable def lv_s_l09Is_L4 : Lv := [(1, (.bx (.v (.st (.pair (.int .i64) (.pair (.sl (.st (.pair (.st (.pair (.int .i64) (.pair (.int .i64) .unit))) (.pair (.sl (.int .i64)) .unit)))) .unit)))))), (3, (.v (.int .i64)))]
noncomputable def lv_s_l09Is_L10 : Lv := [(1, (.bx (.v (.st (.pair (.int .i64) (.pair (.sl (.st (.pair (.st (.pair (.int .i64) (.pair (.int .i64) .unit))) (.pair (.sl (.int .i64)) .unit)))) .unit)))))), (3, (.v (.int .i64))), (4, (.bx (.v (.st (.pair (.st (.pair (.int .i64) (.pair (.int .i64) .unit))) (.pair (.sl (.int .i64)) .unit)))))), (5, (.v (.int .i64)))]
noncomputable def lv_s_l09Is_N3 : Lv := []
noncomputable def lv_s_l09Is_N9 : Lv := [(1, (.bx (.v (.st (.pair (.int .i64) (.pair (.sl (.st (.pair (.st (.pair (.int .i64) (.pair (.int .i64) .unit))) (.pair (.sl (.int .i64)) .unit)))) .unit)))))), (3, (.v (.int .i64)))]
noncomputable def lv_s_l09Is_X0 : Lv := []
noncomputable def lv_s_l09Is_X2 : Lv := [(1, (.bx (.v (.st (.pair (.int .i64) (.pair (.sl (.st (.pair (.st (.pair (.int .i64) (.pair (.int .i64) .unit))) (.pair (.sl (.int .i64)) .unit)))) .unit)))))), (3, (.v (.int .i64)))]
noncomputable def rv_s_l09Is : Lv := [(2, (.v .bool))]
noncomputable def gs_l09Is_l10 {R : Type} (K : Nat) (k : Nat) (x : den lv_s_l09Is_L10.ty) (kx : Nat → St → Option R) (kr : St → Option R) : Option R := s_l09Is_l10 K k x.1 x.2.1 x.2.2.1 x.2.2.2.1 (fun z0 z1 => kx 2 (mkSt lv_s_l09Is_X2 (z0, z1, ()))) (fun z0 => kr (mkSt rv_s_l09Is (z0, ())))
noncomputable def gs_l09Is_j9 {R : Type} (K : Nat) (k : Nat) (x : den lv_s_l09Is_J9.ty) (kn : den lv_s_l09Is_N9.ty → Option R) (kx : Nat → St → Option R) (kr : St → Option R) : Option R := s_l09Is_j9 K k x.1 x.2.1 x.2.2.1 (fun z0 z1 => kn (z0, z1, ())) (fun z0 => kr (mkSt rv_s_l09Is (z0, ())))
noncomputable def gs_l09Is_l4 {R : Type} (K : Nat) (k : Nat) (x : den lv_s_l09Is_L4.ty) (kx : Nat → St → Option R) (kr : St → Option R) : Option R := s_l09Is_l4 K k x.1 x.2.1 (kx 0 (mkSt lv_s_l09Is_X0 ())) (fun z0 => kr (mkSt rv_s_l09Is (z0, ())))
noncomputable def gs_l09Is_j3 {R : Type} (K : Nat) (k : Nat) (x : den lv_s_l09Is_J3.ty) (kn : den lv_s_l09Is_N3.ty → Option R) (kx : Nat → St → Option R) (kr : St → Option R) : Option R := s_l09Is_j3 K k x.1 (kn ()) (fun z0 => kr (mkSt rv_s_l09Is (z0, ())))
noncomputable def sg_s_l09Is {R : Type} (K : Nat) (k : Nat) : List (Nat × SegS R) := [(9, mkSeg lv_s_l09Is_J9 lv_s_l09Is_N9 (gs_l09Is_j9 K k)), (3, mkSeg lv_s_l09Is_J3 lv_s_l09Is_N3 (gs_l09Is_j3 K k))]
noncomputable def su_s_l09Is : List (Nat × Unit) := [(9, ()), (3, ())]
noncomputable def en_s_l09Is {R : Type} (K : Nat) (k : Nat) : Env R := { L := lk [(10, mkLoop lv_s_l09Is_L10 (gs_l09Is_l10 K k)), (4, mkLoop lv_s_l09Is_L4 (gs_l09Is_l4 K k))], X := lk [(0, lv_s_l09Is_X0), (2, lv_s_l09Is_X2)], S := lk (sg_s_l09Is K k), rv := rv_s_l09Is }
noncomputable def cf_s_l09Is (K : Nat) : Cfg := { ty := lk tys, fn := lk [(63, sp_s_l06Is (s_l06Is K)), (71, sp_s_l01In (s_l01In K))], fs := lk [], prot := 0, nt := Try.f93.ntmps }
noncomputable def c_s_l09Is_J3 : Code := nthC (partsOf (hasK su_s_l09Is) (bodyOf Try.f93)) 0
noncomputable def c_s_l09Is_L4 : Code := nthC (partsOf (hasK su_s_l09Is) c_s_l09Is_J3) 0
noncomputable def c_s_l09Is_J9 : Code := nthC (partsOf (hasK su_s_l09Is) c_s_l09Is_L4) 0
noncomputable def c_s_l09Is_L10 : Code := nthC (partsOf (hasK su_s_l09Is) c_s_l09Is_J9) 0
theorem es_l09Is_l10 {R : Type} (K : Nat) (k : Nat) (x : den lv_s_l09Is_L10.ty) (kx : Nat → St → Option R) (kr : St → Option R) : gs_l09Is_l10 K (k + 1) x kx kr = evC (cf_s_l09Is K) (en_s_l09Is K k) c_s_l09Is_L10 (mkSt lv_s_l09Is_L10 x) (fun s => mkLoop lv_s_l09Is_L10 (gs_l09Is_l10 K k) s kx kr) kx kr := by kernel_rfl
theorem ss_l09Is_l10 {R : Type} (K : Nat) (C : Cx) (hP : C.P = Try.prog) (O : CfgOk C (cf_s_l09Is K)) (k : Nat) : LpS C (R := R) (mkLoop lv_s_l09Is_L10 (gs_l09Is_l10 K k)) c_s_l09Is_L10 :=
  loop_sound O (by rw [hP]; kernel_rfl) (fun x kx kr => rfl) (es_l09Is_l10 K) (fun k => lpOk_of (en := en_s_l09Is K k) (S := hasK su_s_l09Is) (fun i => hasK_lk (sg_s_l09Is K k) i) _ (by rw [show partsOf (hasK su_s_l09Is) c_s_l09Is_L10 = [] from by kernel_rfl]; exact trivial)) k
theorem es_l09Is_j9 {R : Type} (K : Nat) (k : Nat) (x : den lv_s_l09Is_J9.ty) (kn : den lv_s_l09Is_N9.ty → Option R) (kx : Nat → St → Option R) (kr : St → Option R) : gs_l09Is_j9 K k x kn kx kr = evC (cf_s_l09Is K) (en_s_l09Is K k) c_s_l09Is_J9 (mkSt lv_s_l09Is_J9 x) (cutK lv_s_l09Is_N9 kn) kx kr := by kernel_rfl
theorem ss_l09Is_j9 {R : Type} (K : Nat) (C : Cx) (hP : C.P = Try.prog) (O : CfgOk C (cf_s_l09Is K)) (k : Nat) : SgS C (R := R) (mkSeg lv_s_l09Is_J9 lv_s_l09Is_N9 (gs_l09Is_j9 K k)) c_s_l09Is_J9 :=
  seg_sound O (by rw [hP]; kernel_rfl) (es_l09Is_j9 K k) (lpOk_of (en := en_s_l09Is K k) (S := hasK su_s_l09Is) (fun i => hasK_lk (sg_s_l09Is K k) i) _ (by rw [show partsOf (hasK su_s_l09Is) c_s_l09Is_J9 = [(true, c_s_l09Is_L10)] from by kernel_rfl]; exact (lpL_loop (f := mkLoop lv_s_l09Is_L10 (gs_l09Is_l10 K k)) (by kernel_rfl) (ss_l09Is_l10 K C hP O k) trivial)))
theorem es_l09Is_l4 {R : Type} (K : Nat) (k : Nat) (x : den lv_s_l09Is_L4.ty) (kx : Nat → St → Option R) (kr : St → Option R) : gs_l09Is_l4 K (k + 1) x kx kr = evC (cf_s_l09Is K) (en_s_l09Is K k) c_s_l09Is_L4 (mkSt lv_s_l09Is_L4 x) (fun s => mkLoop lv_s_l09Is_L4 (gs_l09Is_l4 K k) s kx kr) kx kr := by kernel_rfl
theorem ss_l09Is_l4 {R : Type} (K : Nat) (C : Cx) (hP : C.P = Try.prog) (O : CfgOk C (cf_s_l09Is K)) (k : Nat) : LpS C (R := R) (mkLoop lv_s_l09Is_L4 (gs_l09Is_l4 K k)) c_s_l09Is_L4 :=
  loop_sound O (by rw [hP]; kernel_rfl) (fun x kx kr => rfl) (es_l09Is_l4 K) (fun k => lpOk_of (en := en_s_l09Is K k) (S := hasK su_s_l09Is) (fun i => hasK_lk (sg_s_l09Is K k) i) _ (by rw [show partsOf (hasK su_s_l09Is) c_s_l09Is_L4 = [(false, c_s_l09Is_J9)] from by kernel_rfl]; exact (lpL_seg (f := mkSeg lv_s_l09Is_J9 lv_s_l09Is_N9 (gs_l09Is_j9 K k)) (by kernel_rfl) (ss_l09Is_j9 K C hP O k) trivial))) k
theorem es_l09Is_j3 {R : Type} (K : Nat) (k : Nat) (x : den lv_s_l09Is_J3.ty) (kn : den lv_s_l09Is_N3.ty → Option R) (kx : Nat → St → Option R) (kr : St → Option R) : gs_l09Is_j3 K k x kn kx kr = evC (cf_s_l09Is K) (en_s_l09Is K k) c_s_l09Is_J3 (mkSt lv_s_l09Is_J3 x) (cutK lv_s_l09Is_N3 kn) kx kr := by kernel_rfl
theorem ss_l09Is_j3 {R : Type} (K : Nat) (C : Cx) (hP : C.P = Try.prog) (O : CfgOk C (cf_s_l09Is K)) (k : Nat) : SgS C (R := R) (mkSeg lv_s_l09Is_J3 lv_s_l09Is_N3 (gs_l09Is_j3 K k)) c_s_l09Is_J3 :=
  seg_sound O (by rw [hP]; kernel_rfl) (es_l09Is_j3 K k) (lpOk_of (en := en_s_l09Is K k) (S := hasK su_s_l09Is) (fun i => hasK_lk (sg_s_l09Is K k) i) _ (by rw [show partsOf (hasK su_s_l09Is) c_s_l09Is_J3 = [(true, c_s_l09Is_L4)] from by kernel_rfl]; exact (lpL_loop (f := mkLoop lv_s_l09Is_L4 (gs_l09Is_l4 K k)) (by kernel_rfl) (ss_l09Is_l4 K C hP O k) trivial)))
theorem e_s_l09Is (K : Nat) (x : den as_s_l09Is) : s_l09Is K x = evFn (cf_s_l09Is K) as_s_l09Is [false] .bool (en_s_l09Is K K) Try.f93.results.toList (bodyOf Try.f93) x := by kernel_rfl
theorem ok_s_l09Is (K : Nat) : FnOk Try.prog 93 (sp_s_l09Is (s_l09Is K)) :=
  fn_ok (cf := cf_s_l09Is K) (en := en_s_l09Is K K) (c := bodyOf Try.f93) Try.func93 (by kernel_rfl) (by kernel_rfl) tysOk (fns_ok (l := [(63, sp_s_l06Is (s_l06Is K)), (71, sp_s_l01In (s_l01In K))]) ⟨ok_s_l06Is K, ⟨ok_s_l01In K, trivial⟩⟩) (shs_ok (l := []) trivial) (by kernel_rfl) rfl (Nat.le_of_ble_eq_true (by kernel_rfl)) (by kernel_rfl) (of_decide_eq_true (by kernel_rfl)) (by decide) (fun C hP O => lpOk_of (en := en_s_l09Is K K) (S := hasK su_s_l09Is) (fun i => hasK_lk (sg_s_l09Is K K) i) _ (by rw [show partsOf (hasK su_s_l09Is) (bodyOf Try.f93) = [(false, c_s_l09Is_J3)] from by kernel_rfl]; exact (lpL_seg (f := mkSeg lv_s_l09Is_J3 lv_s_l09Is_N3 (gs_l09Is_j3 K K)) (by kernel_rfl) (ss_l09Is_j3 K C hP O K) trivial))) (fun x y h => by rw [← e_s_l09Is]; exact h)
noncomputable def as_s_FixVar : Ty := (.pair (.st (.pair (.int .i64) (.pair (.sl (.st (.pair (.st (.pair (.int .i64) (.pair (.int .i64) .unit))) (.pair (.sl (.int .i64)) .unit)))) .unit))) (.pair (.int .i64) (.pair (.int .i64) .unit)))
noncomputable def sp_s_FixVar (F : ((Int × (List ((Int × Int × Unit) × (List Int) × Unit)) × Unit) × Int × Int × Unit) → Option ((Int × (List ((Int × Int × Unit) × (List Int) × Unit)) × Unit) × Int × Unit)) : FnSpec := ⟨as_s_FixVar, [false, false, false], (.tup (.pair (.st (.pair (.int .i64) (.pair (.sl (.st (.pair (.st (.pair (.int .i64) (.pair (.int .i64) .unit))) (.pair (.sl (.int .i64)) .unit)))) .unit))) (.pair (.int .i64) .unit))), F⟩
noncomputable def s_FixVar_j7 {R : Type} (K : Nat) (k : Nat) (v1 : Int) (v2 : Int) (v3 : (Int × (List ((Int × Int × Unit) × (List Int) × Unit)) × Unit)) (v6_0 : Int) (v6_1 : (List ((Int × Int × Unit) × (List Int) × Unit))) (kn : Option R) (kr : (Int → (List ((Int × Int × Unit) × (List Int) × Unit)) → Int → Option R)) : Option R :=
    let x4 := (((1 : Int), ((0 : Int), (0 : Int), ()).2.1, ()).1, (IntKind.i64.wrap ((1 : Int) + v2)), ())
    (s_l09Copy K (v3, ())).bind fun y5 =>
    let l6 := [(x4, [v1], ())]
    (if (decide (y5.length + l6.length ≤ lim)) = true then
    let l7 := (y5 ++ l6)
    kr v3.1 l7 (0 : Int)
    else
    none)
noncomputable def s_FixVar (K : Nat) (x : ((Int × (List ((Int × Int × Unit) × (List Int) × Unit)) × Unit) × Int × Int × Unit)) : Option ((Int × (List ((Int × Int × Unit) × (List Int) × Unit)) × Unit) × Int × Unit) :=
    (s_l09Is K (x.1, ())).bind fun y1 =>
    (if (!y1) = true then
    some (((0 : Int), ([] : List ((Int × Int × Unit) × (List Int) × Unit)), ()), (1 : Int), ())
    else
    (s_l01In K (x.2.1, (0 : Int), (IntKind.i64.wrap (x.1.1 - (1 : Int))), ())).bind fun y2 =>
    (if (!y2) = true then
    some (((0 : Int), ([] : List ((Int × Int × Unit) × (List Int) × Unit)), ()), (2 : Int), ())
    else
    (s_l01In K (x.2.2.1, (0 : Int), (1 : Int), ())).bind fun y3 =>
    (if (!y3) = true then
    some (((0 : Int), ([] : List ((Int × Int × Unit) × (List Int) × Unit)), ()), (2 : Int), ())
    else
    (if (decide ((x.1.2.1.length : Int) = (12 : Int))) = true then
    some (((0 : Int), ([] : List ((Int × Int × Unit) × (List Int) × Unit)), ()), (3 : Int), ())
    else
    s_FixVar_j7 K K x.2.1 x.2.2.1 x.1 (0 : Int) ([] : List ((Int × Int × Unit) × (List Int) × Unit)) none (fun z8 z9 z10 =>
    some ((z8, z9, ()), z10, ()))))))
noncomputable def lv_s_FixVar_J7 : Lv := [(1, (.v (.int .i64))), (2, (.v (.int .i64))), (3, (.bx (.v (.st (.pair (.int .i64) (.pair (.sl (.st (.pair (.st (.pair (.int .i64) (.pair (.int .i64) .unit))) (.pair (.sl (.int .i64)) .unit)))) .unit)))))), (6, (.bx (.st (.pair (.v (.int .i64)) (.pair (.r (.st (.pair (.st (.pair (.int .i64) (.pair (.int .i64) .unit))) (.pair (.sl (.int .i64)) .unit)))) .unit)))))]
noncomputable def lv_s_FixVar_N7 : Lv := []
noncomputable def rv_s_FixVar : Lv := [(6, (.bx (.st (.pair (.v (.int .i64)) (.pair (.r (.st (.pair (.st (.pair (.int .i64) (.pair (.int .i64) .unit))) (.pair (.sl (.int .i64)) .unit)))) .unit))))), (7, (.v (.int .i64)))]
noncomputable def gs_FixVar_j7 {R : Type} (K : Nat) (k : Nat) (x : den lv_s_FixVar_J7.ty) (kn : den lv_s_FixVar_N7.ty → Option R) (kx : Nat → St → Option R) (kr : St → Option R) : Option R := s_FixVar_j7 K k x.1 x.2.1 x.2.2.1 x.2.2.2.1.1 x.2.2.2.1.2.1 (kn ()) (fun z0 z1 z2 => kr (mkSt rv_s_FixVar ((z0, z1, ()), z2, ())))
noncomputable def sg_s_FixVar {R : Type} (K : Nat) (k : Nat) : List (Nat × SegS R) := [(7, mkSeg lv_s_FixVar_J7 lv_s_FixVar_N7 (gs_FixVar_j7 K k))]
noncomputable def su_s_FixVar : List (Nat × Unit) := [(7, ())]
noncomputable def en_s_FixVar {R : Type} (K : Nat) (k : Nat) : Env R := { L := lk [], X := lk [], S := lk (sg_s_FixVar K k), rv := rv_s_FixVar }
noncomputable def cf_s_FixVar (K : Nat) : Cfg := { ty := lk tys, fn := lk [(71, sp_s_l01In (s_l01In K)), (93, sp_s_l09Is (s_l09Is K)), (99, sp_s_l09Copy (s_l09Copy K))], fs := lk [], prot := 0, nt := Try.f33.ntmps }
noncomputable def c_s_FixVar_J7 : Code := nthC (partsOf (hasK su_s_FixVar) (bodyOf Try.f33)) 0
theorem es_FixVar_j7 {R : Type} (K : Nat) (k : Nat) (x : den lv_s_FixVar_J7.ty) (kn : den lv_s_FixVar_N7.ty → Option R) (kx : Nat → St → Option R) (kr : St → Option R) : gs_FixVar_j7 K k x kn kx kr = evC (cf_s_FixVar K) (en_s_FixVar K k) c_s_FixVar_J7 (mkSt lv_s_FixVar_J7 x) (cutK lv_s_FixVar_N7 kn) kx kr := by kernel_rfl
theorem ss_FixVar_j7 {R : Type} (K : Nat) (C : Cx) (hP : C.P = Try.prog) (O : CfgOk C (cf_s_FixVar K)) (k : Nat) : SgS C (R := R) (mkSeg lv_s_FixVar_J7 lv_s_FixVar_N7 (gs_FixVar_j7 K k)) c_s_FixVar_J7 :=
  seg_sound O (by rw [hP]; kernel_rfl) (es_FixVar_j7 K k) (lpOk_of (en := en_s_FixVar K k) (S := hasK su_s_FixVar) (fun i => hasK_lk (sg_s_FixVar K k) i) _ (by rw [show partsOf (hasK su_s_FixVar) c_s_FixVar_J7 = [] from by kernel_rfl]; exact trivial))
theorem e_s_FixVar (K : Nat) (x : den as_s_FixVar) : s_FixVar K x = evFn (cf_s_FixVar K) as_s_FixVar [false, false, false] (.tup (.pair (.st (.pair (.int .i64) (.pair (.sl (.st (.pair (.st (.pair (.int .i64) (.pair (.int .i64) .unit))) (.pair (.sl (.int .i64)) .unit)))) .unit))) (.pair (.int .i64) .unit))) (en_s_FixVar K K) Try.f33.results.toList (bodyOf Try.f33) x := by kernel_rfl
theorem ok_s_FixVar (K : Nat) : FnOk Try.prog 33 (sp_s_FixVar (s_FixVar K)) :=
  fn_ok (cf := cf_s_FixVar K) (en := en_s_FixVar K K) (c := bodyOf Try.f33) Try.func33 (by kernel_rfl) (by kernel_rfl) tysOk (fns_ok (l := [(71, sp_s_l01In (s_l01In K)), (93, sp_s_l09Is (s_l09Is K)), (99, sp_s_l09Copy (s_l09Copy K))]) ⟨ok_s_l01In K, ⟨ok_s_l09Is K, ⟨ok_s_l09Copy K, trivial⟩⟩⟩) (shs_ok (l := []) trivial) (by kernel_rfl) rfl (Nat.le_of_ble_eq_true (by kernel_rfl)) (by kernel_rfl) (of_decide_eq_true (by kernel_rfl)) (by decide) (fun C hP O => lpOk_of (en := en_s_FixVar K K) (S := hasK su_s_FixVar) (fun i => hasK_lk (sg_s_FixVar K K) i) _ (by rw [show partsOf (hasK su_s_FixVar) (bodyOf Try.f33) = [(false, c_s_FixVar_J7)] from by kernel_rfl]; exact (lpL_seg (f := mkSeg lv_s_FixVar_J7 lv_s_FixVar_N7 (gs_FixVar_j7 K K)) (by kernel_rfl) (ss_FixVar_j7 K C hP O K) trivial))) (fun x y h => by rw [← e_s_FixVar]; exact h)
noncomputable def as_s_l09Given : Ty := (.pair (.st (.pair (.int .i64) (.pair (.sl (.st (.pair (.st (.pair (.int .i64) (.pair (.int .i64) .unit))) (.pair (.sl (.int .i64)) .unit)))) .unit))) .unit)
noncomputable def sp_s_l09Given (F : ((Int × (List ((Int × Int × Unit) × (List Int) × Unit)) × Unit) × Unit) → Option ((List Int) × Int × Unit)) : FnSpec := ⟨as_s_l09Given, [false], (.tup (.pair (.sl (.int .i64)) (.pair (.int .i64) .unit))), F⟩
noncomputable def s_l09Given (K : Nat) (x : ((Int × (List ((Int × Int × Unit) × (List Int) × Unit)) × Unit) × Unit)) : Option ((List Int) × Int × Unit) :=
    (s_l09Is K (x.1, ())).bind fun y1 =>
    (if (!y1) = true then
    some (([] : List Int), (1 : Int), ())
    else
    (s_l09Solutions K (x.1, ())).bind fun y2 =>
    (if (decide ((y2.length : Int) = (0 : Int))) = true then
    some (([] : List Int), (4 : Int), ())
    else
    some (y2, (0 : Int), ())))
noncomputable def rv_s_l09Given : Lv := [(2, (.r (.int .i64))), (3, (.v (.int .i64)))]
noncomputable def sg_s_l09Given {R : Type} (K : Nat) (k : Nat) : List (Nat × SegS R) := []
noncomputable def su_s_l09Given : List (Nat × Unit) := []
noncomputable def en_s_l09Given {R : Type} (K : Nat) (k : Nat) : Env R := { L := lk [], X := lk [], S := lk (sg_s_l09Given K k), rv := rv_s_l09Given }
noncomputable def cf_s_l09Given (K : Nat) : Cfg := { ty := lk tys, fn := lk [(93, sp_s_l09Is (s_l09Is K)), (104, sp_s_l09Solutions (s_l09Solutions K))], fs := lk [], prot := 0, nt := Try.f103.ntmps }
theorem e_s_l09Given (K : Nat) (x : den as_s_l09Given) : s_l09Given K x = evFn (cf_s_l09Given K) as_s_l09Given [false] (.tup (.pair (.sl (.int .i64)) (.pair (.int .i64) .unit))) (en_s_l09Given K K) Try.f103.results.toList (bodyOf Try.f103) x := by kernel_rfl
theorem ok_s_l09Given (K : Nat) : FnOk Try.prog 103 (sp_s_l09Given (s_l09Given K)) :=
  fn_ok (cf := cf_s_l09Given K) (en := en_s_l09Given K K) (c := bodyOf Try.f103) Try.func103 (by kernel_rfl) (by kernel_rfl) tysOk (fns_ok (l := [(93, sp_s_l09Is (s_l09Is K)), (104, sp_s_l09Solutions (s_l09Solutions K))]) ⟨ok_s_l09Is K, ⟨ok_s_l09Solutions K, trivial⟩⟩) (shs_ok (l := []) trivial) (by kernel_rfl) rfl (Nat.le_of_ble_eq_true (by kernel_rfl)) (by kernel_rfl) (of_decide_eq_true (by kernel_rfl)) (by decide) (fun C hP O => lpOk_of (en := en_s_l09Given K K) (S := hasK su_s_l09Given) (fun i => hasK_lk (sg_s_l09Given K K) i) _ (by rw [show partsOf (hasK su_s_l09Given) (bodyOf Try.f103) = [] from by kernel_rfl]; exact trivial)) (fun x y h => by rw [← e_s_l09Given]; exact h)
noncomputable def as_s_ForcedOf : Ty := (.pair (.st (.pair (.int .i64) (.pair (.sl (.st (.pair (.st (.pair (.int .i64) (.pair (.int .i64) .unit))) (.pair (.sl (.int .i64)) .unit)))) .unit))) .unit)
noncomputable def sp_s_ForcedOf (F : ((Int × (List ((Int × Int × Unit) × (List Int) × Unit)) × Unit) × Unit) → Option ((List Int) × Int × Unit)) : FnSpec := ⟨as_s_ForcedOf, [false], (.tup (.pair (.sl (.int .i64)) (.pair (.int .i64) .unit))), F⟩
noncomputable def s_ForcedOf_l10 {R : Type} (K : Nat) : Nat → (Int × (List ((Int × Int × Unit) × (List Int) × Unit)) × Unit) → (List Int) → (List Int) → Int → Int → Int → ((Int × (List ((Int × Int × Unit) × (List Int) × Unit)) × Unit) → (List Int) → (List Int) → Int → Int → Option R) → Option R
  | 0, _, _, _, _, _, _, _ => none
  | k + 1, v1, v4, v6, v7, v8, v9, kx2 =>
    (if (decide (v9 < (v4.length : Int))) = true then
    (if (bnds v9 (v4.length : Int)) = true then
    (if (decide ((0 : Int) ≤ (IntKind.u64.wrap v7))) = true then
    let x4 := (shrI .i64 (v4.getD v9.toNat (0 : Int)) (IntKind.u64.wrap v7))
    (if (!decide ((bitI .and .i64 x4 (1 : Int)) = v8)) = true then
    kx2 v1 v4 v6 v7 (2 : Int)
    else
    s_ForcedOf_l10 K k v1 v4 v6 v7 v8 (IntKind.i64.wrap (v9 + (1 : Int))) kx2)
    else
    none)
    else
    none)
    else
    kx2 v1 v4 v6 v7 v8)
noncomputable def s_ForcedOf_l6 {R : Type} (K : Nat) : Nat → (Int × (List ((Int × Int × Unit) × (List Int) × Unit)) × Unit) → (List Int) → (List Int) → Int → ((List Int) → Option R) → Option R
  | 0, _, _, _, _, _ => none
  | k + 1, v1, v4, v6, v7, kx0 =>
    (if (decide (v7 < v1.1)) = true then
    (if (bnds (0 : Int) (v4.length : Int)) = true then
    (if (decide ((0 : Int) ≤ (IntKind.u64.wrap v7))) = true then
    let x3 := (shrI .i64 (v4.getD (0 : Int).toNat (0 : Int)) (IntKind.u64.wrap v7))
    s_ForcedOf_l10 K k v1 v4 v6 v7 (bitI .and .i64 x3 (1 : Int)) (1 : Int) (fun z5 z6 z7 z8 z9 =>
    (if (decide (z7.length + ([z9]).length ≤ lim)) = true then
    let l10 := (z7 ++ [z9])
    s_ForcedOf_l6 K k z5 z6 l10 (IntKind.i64.wrap (z8 + (1 : Int))) kx0
    else
    none))
    else
    none)
    else
    none)
    else
    kx0 v6)
noncomputable def s_ForcedOf (K : Nat) (x : ((Int × (List ((Int × Int × Unit) × (List Int) × Unit)) × Unit) × Unit)) : Option ((List Int) × Int × Unit) :=
    (s_l09Given K (x.1, ())).bind fun y1 =>
    (if (!decide (y1.2.1 = (0 : Int))) = true then
    some (([] : List Int), y1.2.1, ())
    else
    let l2 := ([] : List Int)
    s_ForcedOf_l6 K K x.1 y1.1 l2 (0 : Int) (fun z11 =>
    some (z11, (0 : Int), ())))
noncomputable def lv_s_ForcedOf_L6 : Lv := [(1, (.bx (.v (.st (.pair (.int .i64) (.pair (.sl (.st (.pair (.st (.pair (.int .i64) (.pair (.int .i64) .unit))) (.pair (.sl (.int .i64)) .unit)))) .unit)))))), (4, (.r (.int .i64))), (6, (.r (.int .i64))), (7, (.v (.int .i64)))]
noncomputable def lv_s_ForcedOf_L10 : Lv := [(1, (.bx (.v (.st (.pair (.int .i64) (.pair (.sl (.st (.pair (.st (.pair (.int .i64) (.pair (.int .i64) .unit))) (.pair (.sl (.int .i64)) .unit)))) .unit)))))), (4, (.r (.int .i64))), (6, (.r (.int .i64))), (7, (.v (.int .i64))), (8, (.v (.int .i64))), (9, (.v (.int .i64)))]
noncomputable def lv_s_ForcedOf_X0 : Lv := [(6, (.r (.int .i64)))]
noncomputable def lv_s_ForcedOf_X2 : Lv := [(1, (.bx (.v (.st (.pair (.int .i64) (.pair (.sl (.st (.pair (.st (.pair (.int .i64) (.pair (.int .i64) .unit))) (.pair (.sl (.int .i64)) .unit)))) .unit)))))), (4, (.r (.int .i64))), (6, (.r (.int .i64))), (7, (.v (.int .i64))), (8, (.v (.int .i64)))]
noncomputable def rv_s_ForcedOf : Lv := [(2, (.r (.int .i64))), (3, (.v (.int .i64)))]
noncomputable def gs_ForcedOf_l10 {R : Type} (K : Nat) (k : Nat) (x : den lv_s_ForcedOf_L10.ty) (kx : Nat → St → Option R) (kr : St → Option R) : Option R := s_ForcedOf_l10 K k x.1 x.2.1 x.2.2.1 x.2.2.2.1 x.2.2.2.2.1 x.2.2.2.2.2.1 (fun z0 z1 z2 z3 z4 => kx 2 (mkSt lv_s_ForcedOf_X2 (z0, z1, z2, z3, z4, ())))
noncomputable def gs_ForcedOf_l6 {R : Type} (K : Nat) (k : Nat) (x : den lv_s_ForcedOf_L6.ty) (kx : Nat → St → Option R) (kr : St → Option R) : Option R := s_ForcedOf_l6 K k x.1 x.2.1 x.2.2.1 x.2.2.2.1 (fun z0 => kx 0 (mkSt lv_s_ForcedOf_X0 (z0, ())))
noncomputable def sg_s_ForcedOf {R : Type} (K : Nat) (k : Nat) : List (Nat × SegS R) := []
noncomputable def su_s_ForcedOf : List (Nat × Unit) := []
noncomputable def en_s_ForcedOf {R : Type} (K : Nat) (k : Nat) : Env R := { L := lk [(10, mkLoop lv_s_ForcedOf_L10 (gs_ForcedOf_l10 K k)), (6, mkLoop lv_s_ForcedOf_L6 (gs_ForcedOf_l6 K k))], X := lk [(0, lv_s_ForcedOf_X0), (2, lv_s_ForcedOf_X2)], S := lk (sg_s_ForcedOf K k), rv := rv_s_ForcedOf }
noncomputable def cf_s_ForcedOf (K : Nat) : Cfg := { ty := lk tys, fn := lk [(103, sp_s_l09Given (s_l09Given K))], fs := lk [], prot := 0, nt := Try.f38.ntmps }
noncomputable def c_s_ForcedOf_L6 : Code := nthC (partsOf (hasK su_s_ForcedOf) (bodyOf Try.f38)) 0
noncomputable def c_s_ForcedOf_L10 : Code := nthC (partsOf (hasK su_s_ForcedOf) c_s_ForcedOf_L6) 0
theorem es_ForcedOf_l10 {R : Type} (K : Nat) (k : Nat) (x : den lv_s_ForcedOf_L10.ty) (kx : Nat → St → Option R) (kr : St → Option R) : gs_ForcedOf_l10 K (k + 1) x kx kr = evC (cf_s_ForcedOf K) (en_s_ForcedOf K k) c_s_ForcedOf_L10 (mkSt lv_s_ForcedOf_L10 x) (fun s => mkLoop lv_s_ForcedOf_L10 (gs_ForcedOf_l10 K k) s kx kr) kx kr := by kernel_rfl
theorem ss_ForcedOf_l10 {R : Type} (K : Nat) (C : Cx) (hP : C.P = Try.prog) (O : CfgOk C (cf_s_ForcedOf K)) (k : Nat) : LpS C (R := R) (mkLoop lv_s_ForcedOf_L10 (gs_ForcedOf_l10 K k)) c_s_ForcedOf_L10 :=
  loop_sound O (by rw [hP]; kernel_rfl) (fun x kx kr => rfl) (es_ForcedOf_l10 K) (fun k => lpOk_of (en := en_s_ForcedOf K k) (S := hasK su_s_ForcedOf) (fun i => hasK_lk (sg_s_ForcedOf K k) i) _ (by rw [show partsOf (hasK su_s_ForcedOf) c_s_ForcedOf_L10 = [] from by kernel_rfl]; exact trivial)) k
theorem es_ForcedOf_l6 {R : Type} (K : Nat) (k : Nat) (x : den lv_s_ForcedOf_L6.ty) (kx : Nat → St → Option R) (kr : St → Option R) : gs_ForcedOf_l6 K (k + 1) x kx kr = evC (cf_s_ForcedOf K) (en_s_ForcedOf K k) c_s_ForcedOf_L6 (mkSt lv_s_ForcedOf_L6 x) (fun s => mkLoop lv_s_ForcedOf_L6 (gs_ForcedOf_l6 K k) s kx kr) kx kr := by kernel_rfl
theorem ss_ForcedOf_l6 {R : Type} (K : Nat) (C : Cx) (hP : C.P = Try.prog) (O : CfgOk C (cf_s_ForcedOf K)) (k : Nat) : LpS C (R := R) (mkLoop lv_s_ForcedOf_L6 (gs_ForcedOf_l6 K k)) c_s_ForcedOf_L6 :=
  loop_sound O (by rw [hP]; kernel_rfl) (fun x kx kr => rfl) (es_ForcedOf_l6 K) (fun k => lpOk_of (en := en_s_ForcedOf K k) (S := hasK su_s_ForcedOf) (fun i => hasK_lk (sg_s_ForcedOf K k) i) _ (by rw [show partsOf (hasK su_s_ForcedOf) c_s_ForcedOf_L6 = [(true, c_s_ForcedOf_L10)] from by kernel_rfl]; exact (lpL_loop (f := mkLoop lv_s_ForcedOf_L10 (gs_ForcedOf_l10 K k)) (by kernel_rfl) (ss_ForcedOf_l10 K C hP O k) trivial))) k
theorem e_s_ForcedOf (K : Nat) (x : den as_s_ForcedOf) : s_ForcedOf K x = evFn (cf_s_ForcedOf K) as_s_ForcedOf [false] (.tup (.pair (.sl (.int .i64)) (.pair (.int .i64) .unit))) (en_s_ForcedOf K K) Try.f38.results.toList (bodyOf Try.f38) x := by kernel_rfl
theorem ok_s_ForcedOf (K : Nat) : FnOk Try.prog 38 (sp_s_ForcedOf (s_ForcedOf K)) :=
  fn_ok (cf := cf_s_ForcedOf K) (en := en_s_ForcedOf K K) (c := bodyOf Try.f38) Try.func38 (by kernel_rfl) (by kernel_rfl) tysOk (fns_ok (l := [(103, sp_s_l09Given (s_l09Given K))]) ⟨ok_s_l09Given K, trivial⟩) (shs_ok (l := []) trivial) (by kernel_rfl) rfl (Nat.le_of_ble_eq_true (by kernel_rfl)) (by kernel_rfl) (of_decide_eq_true (by kernel_rfl)) (by decide) (fun C hP O => lpOk_of (en := en_s_ForcedOf K K) (S := hasK su_s_ForcedOf) (fun i => hasK_lk (sg_s_ForcedOf K K) i) _ (by rw [show partsOf (hasK su_s_ForcedOf) (bodyOf Try.f38) = [(true, c_s_ForcedOf_L6)] from by kernel_rfl]; exact (lpL_loop (f := mkLoop lv_s_ForcedOf_L6 (gs_ForcedOf_l6 K K)) (by kernel_rfl) (ss_ForcedOf_l6 K C hP O K) trivial))) (fun x y h => by rw [← e_s_ForcedOf]; exact h)
noncomputable def as_s_l09Allows : Ty := (.pair (.int .i64) (.pair (.int .i64) .unit))
noncomputable def sp_s_l09Allows (F : (Int × Int × Unit) → Option Bool) : FnSpec := ⟨as_s_l09Allows, [false, false], .bool, F⟩
noncomputable def s_l09Allows (K : Nat) (x : (Int × Int × Unit)) : Option Bool :=
    (if (decide (x.1 = (2 : Int))) = true then
    some true
    else
    some (decide (x.1 = x.2.1)))
noncomputable def rv_s_l09Allows : Lv := [(4, (.v .bool))]
noncomputable def sg_s_l09Allows {R : Type} (K : Nat) (k : Nat) : List (Nat × SegS R) := []
noncomputable def su_s_l09Allows : List (Nat × Unit) := []
noncomputable def en_s_l09Allows {R : Type} (K : Nat) (k : Nat) : Env R := { L := lk [], X := lk [], S := lk (sg_s_l09Allows K k), rv := rv_s_l09Allows }
noncomputable def cf_s_l09Allows (K : Nat) : Cfg := { ty := lk tys, fn := lk [], fs := lk [], prot := 0, nt := Try.f94.ntmps }
theorem e_s_l09Allows (K : Nat) (x : den as_s_l09Allows) : s_l09Allows K x = evFn (cf_s_l09Allows K) as_s_l09Allows [false, false] .bool (en_s_l09Allows K K) Try.f94.results.toList (bodyOf Try.f94) x := by kernel_rfl
theorem ok_s_l09Allows (K : Nat) : FnOk Try.prog 94 (sp_s_l09Allows (s_l09Allows K)) :=
  fn_ok (cf := cf_s_l09Allows K) (en := en_s_l09Allows K K) (c := bodyOf Try.f94) Try.func94 (by kernel_rfl) (by kernel_rfl) tysOk (fns_ok (l := []) trivial) (shs_ok (l := []) trivial) (by kernel_rfl) rfl (Nat.le_of_ble_eq_true (by kernel_rfl)) (by kernel_rfl) (of_decide_eq_true (by kernel_rfl)) (by decide) (fun C hP O => lpOk_of (en := en_s_l09Allows K K) (S := hasK su_s_l09Allows) (fun i => hasK_lk (sg_s_l09Allows K K) i) _ (by rw [show partsOf (hasK su_s_l09Allows) (bodyOf Try.f94) = [] from by kernel_rfl]; exact trivial)) (fun x y h => by rw [← e_s_l09Allows]; exact h)
noncomputable def as_s_l09Supported : Ty := (.pair (.st (.pair (.st (.pair (.int .i64) (.pair (.int .i64) .unit))) (.pair (.sl (.int .i64)) .unit))) (.pair (.sl (.int .i64)) (.pair (.int .i64) (.pair (.int .i64) .unit))))
noncomputable def sp_s_l09Supported (F : (((Int × Int × Unit) × (List Int) × Unit) × (List Int) × Int × Int × Unit) → Option Bool) : FnSpec := ⟨as_s_l09Supported, [false, false, false, false], .bool, F⟩
noncomputable def s_l09Supported_j12 {R : Type} (K : Nat) (k : Nat) (v1 : (List Int)) (v2 : Int) (v3 : Int) (v4 : ((Int × Int × Unit) × (List Int) × Unit)) (v9 : Int) (v10 : Bool) (v11 : Int) (v12 : Int) (v13 : Int) (kn : (List Int) → Int → Int → ((Int × Int × Unit) × (List Int) × Unit) → Int → Bool → Int → Int → Int → Option R)  : Option R :=
    kn v1 v2 v3 v4 v9 v10 v11 v12 (IntKind.i64.wrap (v13 + (1 : Int)))
noncomputable def s_l09Supported_l11 {R : Type} (K : Nat) : Nat → (List Int) → Int → Int → ((Int × Int × Unit) × (List Int) × Unit) → Int → Bool → Int → Int → Int → ((List Int) → Int → Int → ((Int × Int × Unit) × (List Int) × Unit) → Int → Bool → Int → Option R) → Option R
  | 0, _, _, _, _, _, _, _, _, _, _ => none
  | k + 1, v1, v2, v3, v4, v9, v10, v11, v12, v13, kx4 =>
    (if (decide (v13 < v11)) = true then
    (if (bnds v13 (v4.2.1.length : Int)) = true then
    (if (bnds v11 (v4.2.1.length : Int)) = true then
    let x6 := (decide ((v4.2.1.getD v13.toNat (0 : Int)) = (v4.2.1.getD v11.toNat (0 : Int))))
    (if x6 = true then
    (if (decide ((0 : Int) ≤ (IntKind.u64.wrap v13))) = true then
    let x7 := (bitI .and .i64 (shrI .i64 v9 (IntKind.u64.wrap v13)) (1 : Int))
    (if (!decide (x7 = v12)) = true then
    s_l09Supported_j12 K k v1 v2 v3 v4 v9 false v11 v12 v13 (fun z8 z9 z10 z11 z12 z13 z14 z15 z16 =>
    s_l09Supported_l11 K k z8 z9 z10 z11 z12 z13 z14 z15 z16 kx4)
    else
    s_l09Supported_j12 K k v1 v2 v3 v4 v9 v10 v11 v12 v13 (fun z17 z18 z19 z20 z21 z22 z23 z24 z25 =>
    s_l09Supported_l11 K k z17 z18 z19 z20 z21 z22 z23 z24 z25 kx4))
    else
    none)
    else
    s_l09Supported_j12 K k v1 v2 v3 v4 v9 v10 v11 v12 v13 (fun z26 z27 z28 z29 z30 z31 z32 z33 z34 =>
    s_l09Supported_l11 K k z26 z27 z28 z29 z30 z31 z32 z33 z34 kx4))
    else
    none)
    else
    none)
    else
    kx4 v1 v2 v3 v4 v9 v10 v11)
noncomputable def s_l09Supported_j8 {R : Type} (K : Nat) (k : Nat) (v1 : (List Int)) (v2 : Int) (v3 : Int) (v4 : ((Int × Int × Unit) × (List Int) × Unit)) (v9 : Int) (v11 : Int) (kn : (List Int) → Int → Int → ((Int × Int × Unit) × (List Int) × Unit) → Int → Bool → Int → Option R)  : Option R :=
    (if (decide ((0 : Int) ≤ (IntKind.u64.wrap v11))) = true then
    let x4 := (bitI .and .i64 (shrI .i64 v9 (IntKind.u64.wrap v11)) (1 : Int))
    (if (bnds v11 (v4.2.1.length : Int)) = true then
    (if (bnds (v4.2.1.getD v11.toNat (0 : Int)) (v1.length : Int)) = true then
    (s_l09Allows K ((v1.getD (v4.2.1.getD v11.toNat (0 : Int)).toNat (0 : Int)), x4, ())).bind fun y5 =>
    s_l09Supported_l11 K k v1 v2 v3 v4 v9 y5 v11 x4 (0 : Int) (fun z35 z36 z37 z38 z39 z40 z41 =>
    kn z35 z36 z37 z38 z39 z40 (IntKind.i64.wrap (z41 + (1 : Int))))
    else
    none)
    else
    none)
    else
    none)
noncomputable def s_l09Supported_l6 {R : Type} (K : Nat) : Nat → (List Int) → Int → Int → ((Int × Int × Unit) × (List Int) × Unit) → Int → Bool → Int → ((List Int) → Int → Int → ((Int × Int × Unit) × (List Int) × Unit) → Int → Bool → Option R) → Option R
  | 0, _, _, _, _, _, _, _, _ => none
  | k + 1, v1, v2, v3, v4, v9, v10, v11, kx2 =>
    (if (decide (v11 < (v4.2.1.length : Int))) = true then
    (if v10 = true then
    s_l09Supported_j8 K k v1 v2 v3 v4 v9 v11 (fun z42 z43 z44 z45 z46 z47 z48 =>
    s_l09Supported_l6 K k z42 z43 z44 z45 z46 z47 z48 kx2)
    else
    kx2 v1 v2 v3 v4 v9 v10)
    else
    kx2 v1 v2 v3 v4 v9 v10)
noncomputable def s_l09Supported_j5 {R : Type} (K : Nat) (k : Nat) (v1 : (List Int)) (v2 : Int) (v3 : Int) (v4 : ((Int × Int × Unit) × (List Int) × Unit)) (v9 : Int) (v10 : Bool) (kn : (List Int) → Int → Int → ((Int × Int × Unit) × (List Int) × Unit) → Int → Option R) (kr : (Bool → Option R)) : Option R :=
    s_l09Supported_l6 K k v1 v2 v3 v4 v9 v10 (0 : Int) (fun z49 z50 z51 z52 z53 z54 =>
    (if z54 = true then
    kr true
    else
    kn z49 z50 z51 z52 z53))
noncomputable def s_l09Supported_l2 {R : Type} (K : Nat) : Nat → (List Int) → Int → Int → ((Int × Int × Unit) × (List Int) × Unit) → Int → (Option R) → (Bool → Option R) → Option R
  | 0, _, _, _, _, _, _, _ => none
  | k + 1, v1, v2, v3, v4, v9, kx0, kr =>
    (s_l01Rows K (v4.1.1, ())).bind fun y1 =>
    (if (decide (v9 < y1)) = true then
    (s_l09Has K (v4.1, v9, ())).bind fun y2 =>
    (if y2 = true then
    (if (decide ((0 : Int) ≤ (IntKind.u64.wrap v2))) = true then
    let x3 := (bitI .and .i64 (shrI .i64 v9 (IntKind.u64.wrap v2)) (1 : Int))
    s_l09Supported_j5 K k v1 v2 v3 v4 v9 (decide (x3 = v3)) (fun z55 z56 z57 z58 z59 =>
    s_l09Supported_l2 K k z55 z56 z57 z58 (IntKind.i64.wrap (z59 + (1 : Int))) kx0 kr) (fun z60 =>
    kr z60)
    else
    none)
    else
    s_l09Supported_j5 K k v1 v2 v3 v4 v9 false (fun z61 z62 z63 z64 z65 =>
    s_l09Supported_l2 K k z61 z62 z63 z64 (IntKind.i64.wrap (z65 + (1 : Int))) kx0 kr) (fun z66 =>
    kr z66))
    else
    kx0)
noncomputable def s_l09Supported (K : Nat) (x : (((Int × Int × Unit) × (List Int) × Unit) × (List Int) × Int × Int × Unit)) : Option Bool :=
    s_l09Supported_l2 K K x.2.1 x.2.2.1 x.2.2.2.1 x.1 (0 : Int) (some false) (fun z67 =>
    some z67)
noncomputable def lv_s_l09Supported_J5 : Lv := [(1, (.v (.sl (.int .i64)))), (2, (.v (.int .i64))), (3, (.v (.int .i64))), (4, (.bx (.v (.st (.pair (.st (.pair (.int .i64) (.pair (.int .i64) .unit))) (.pair (.sl (.int .i64)) .unit)))))), (9, (.v (.int .i64))), (10, (.v .bool))]
noncomputable def lv_s_l09Supported_J8 : Lv := [(1, (.v (.sl (.int .i64)))), (2, (.v (.int .i64))), (3, (.v (.int .i64))), (4, (.bx (.v (.st (.pair (.st (.pair (.int .i64) (.pair (.int .i64) .unit))) (.pair (.sl (.int .i64)) .unit)))))), (9, (.v (.int .i64))), (11, (.v (.int .i64)))]
noncomputable def lv_s_l09Supported_J12 : Lv := [(1, (.v (.sl (.int .i64)))), (2, (.v (.int .i64))), (3, (.v (.int .i64))), (4, (.bx (.v (.st (.pair (.st (.pair (.int .i64) (.pair (.int .i64) .unit))) (.pair (.sl (.int .i64)) .unit)))))), (9, (.v (.int .i64))), (10, (.v .bool)), (11, (.v (.int .i64))), (12, (.v (.int .i64))), (13, (.v (.int .i64)))]
noncomputable def lv_s_l09Supported_L2 : Lv := [(1, (.v (.sl (.int .i64)))), (2, (.v (.int .i64))), (3, (.v (.int .i64))), (4, (.bx (.v (.st (.pair (.st (.pair (.int .i64) (.pair (.int .i64) .unit))) (.pair (.sl (.int .i64)) .unit)))))), (9, (.v (.int .i64)))]
noncomputable def lv_s_l09Supported_L6 : Lv := [(1, (.v (.sl (.int .i64)))), (2, (.v (.int .i64))), (3, (.v (.int .i64))), (4, (.bx (.v (.st (.pair (.st (.pair (.int .i64) (.pair (.int .i64) .unit))) (.pair (.sl (.int .i64)) .unit)))))), (9, (.v (.int .i64))), (10, (.v .bool)), (11, (.v (.int .i64)))]
noncomputable def lv_s_l09Supported_L11 : Lv := [(1, (.v (.sl (.int .i64)))), (2, (.v (.int .i64))), (3, (.v (.int .i64))), (4, (.bx (.v (.st (.pair (.st (.pair (.int .i64) (.pair (.int .i64) .unit))) (.pair (.sl (.int .i64)) .unit)))))), (9, (.v (.int .i64))), (10, (.v .bool)), (11, (.v (.int .i64))), (12, (.v (.int .i64))), (13, (.v (.int .i64)))]
noncomputable def lv_s_l09Supported_N5 : Lv := [(1, (.v (.sl (.int .i64)))), (2, (.v (.int .i64))), (3, (.v (.int .i64))), (4, (.bx (.v (.st (.pair (.st (.pair (.int .i64) (.pair (.int .i64) .unit))) (.pair (.sl (.int .i64)) .unit)))))), (9, (.v (.int .i64)))]
noncomputable def lv_s_l09Supported_N8 : Lv := [(1, (.v (.sl (.int .i64)))), (2, (.v (.int .i64))), (3, (.v (.int .i64))), (4, (.bx (.v (.st (.pair (.st (.pair (.int .i64) (.pair (.int .i64) .unit))) (.pair (.sl (.int .i64)) .unit)))))), (9, (.v (.int .i64))), (10, (.v .bool)), (11, (.v (.int .i64)))]
noncomputable def lv_s_l09Supported_N12 : Lv := [(1, (.v (.sl (.int .i64)))), (2, (.v (.int .i64))), (3, (.v (.int .i64))), (4, (.bx (.v (.st (.pair (.st (.pair (.int .i64) (.pair (.int .i64) .unit))) (.pair (.sl (.int .i64)) .unit)))))), (9, (.v (.int .i64))), (10, (.v .bool)), (11, (.v (.int .i64))), (12, (.v (.int .i64))), (13, (.v (.int .i64)))]
noncomputable def lv_s_l09Supported_X0 : Lv := []
noncomputable def lv_s_l09Supported_X2 : Lv := [(1, (.v (.sl (.int .i64)))), (2, (.v (.int .i64))), (3, (.v (.int .i64))), (4, (.bx (.v (.st (.pair (.st (.pair (.int .i64) (.pair (.int .i64) .unit))) (.pair (.sl (.int .i64)) .unit)))))), (9, (.v (.int .i64))), (10, (.v .bool))]
noncomputable def lv_s_l09Supported_X4 : Lv := [(1, (.v (.sl (.int .i64)))), (2, (.v (.int .i64))), (3, (.v (.int .i64))), (4, (.bx (.v (.st (.pair (.st (.pair (.int .i64) (.pair (.int .i64) .unit))) (.pair (.sl (.int .i64)) .unit)))))), (9, (.v (.int .i64))), (10, (.v .bool)), (11, (.v (.int .i64)))]
noncomputable def rv_s_l09Supported : Lv := [(8, (.v .bool))]
noncomputable def gs_l09Supported_j12 {R : Type} (K : Nat) (k : Nat) (x : den lv_s_l09Supported_J12.ty) (kn : den lv_s_l09Supported_N12.ty → Option R) (kx : Nat → St → Option R) (kr : St → Option R) : Option R := s_l09Supported_j12 K k x.1 x.2.1 x.2.2.1 x.2.2.2.1 x.2.2.2.2.1 x.2.2.2.2.2.1 x.2.2.2.2.2.2.1 x.2.2.2.2.2.2.2.1 x.2.2.2.2.2.2.2.2.1 (fun z0 z1 z2 z3 z4 z5 z6 z7 z8 => kn (z0, z1, z2, z3, z4, z5, z6, z7, z8, ()))
noncomputable def gs_l09Supported_l11 {R : Type} (K : Nat) (k : Nat) (x : den lv_s_l09Supported_L11.ty) (kx : Nat → St → Option R) (kr : St → Option R) : Option R := s_l09Supported_l11 K k x.1 x.2.1 x.2.2.1 x.2.2.2.1 x.2.2.2.2.1 x.2.2.2.2.2.1 x.2.2.2.2.2.2.1 x.2.2.2.2.2.2.2.1 x.2.2.2.2.2.2.2.2.1 (fun z0 z1 z2 z3 z4 z5 z6 => kx 4 (mkSt lv_s_l09Supported_X4 (z0, z1, z2, z3, z4, z5, z6, ())))
noncomputable def gs_l09Supported_j8 {R : Type} (K : Nat) (k : Nat) (x : den lv_s_l09Supported_J8.ty) (kn : den lv_s_l09Supported_N8.ty → Option R) (kx : Nat → St → Option R) (kr : St → Option R) : Option R := s_l09Supported_j8 K k x.1 x.2.1 x.2.2.1 x.2.2.2.1 x.2.2.2.2.1 x.2.2.2.2.2.1 (fun z0 z1 z2 z3 z4 z5 z6 => kn (z0, z1, z2, z3, z4, z5, z6, ()))
noncomputable def gs_l09Supported_l6 {R : Type} (K : Nat) (k : Nat) (x : den lv_s_l09Supported_L6.ty) (kx : Nat → St → Option R) (kr : St → Option R) : Option R := s_l09Supported_l6 K k x.1 x.2.1 x.2.2.1 x.2.2.2.1 x.2.2.2.2.1 x.2.2.2.2.2.1 x.2.2.2.2.2.2.1 (fun z0 z1 z2 z3 z4 z5 => kx 2 (mkSt lv_s_l09Supported_X2 (z0, z1, z2, z3, z4, z5, ())))
noncomputable def gs_l09Supported_j5 {R : Type} (K : Nat) (k : Nat) (x : den lv_s_l09Supported_J5.ty) (kn : den lv_s_l09Supported_N5.ty → Option R) (kx : Nat → St → Option R) (kr : St → Option R) : Option R := s_l09Supported_j5 K k x.1 x.2.1 x.2.2.1 x.2.2.2.1 x.2.2.2.2.1 x.2.2.2.2.2.1 (fun z0 z1 z2 z3 z4 => kn (z0, z1, z2, z3, z4, ())) (fun z0 => kr (mkSt rv_s_l09Supported (z0, ())))
noncomputable def gs_l09Supported_l2 {R : Type} (K : Nat) (k : Nat) (x : den lv_s_l09Supported_L2.ty) (kx : Nat → St → Option R) (kr : St → Option R) : Option R := s_l09Supported_l2 K k x.1 x.2.1 x.2.2.1 x.2.2.2.1 x.2.2.2.2.1 (kx 0 (mkSt lv_s_l09Supported_X0 ())) (fun z0 => kr (mkSt rv_s_l09Supported (z0, ())))
noncomputable def sg_s_l09Supported {R : Type} (K : Nat) (k : Nat) : List (Nat × SegS R) := [(12, mkSeg lv_s_l09Supported_J12 lv_s_l09Supported_N12 (gs_l09Supported_j12 K k)), (8, mkSeg lv_s_l09Supported_J8 lv_s_l09Supported_N8 (gs_l09Supported_j8 K k)), (5, mkSeg lv_s_l09Supported_J5 lv_s_l09Supported_N5 (gs_l09Supported_j5 K k))]
noncomputable def su_s_l09Supported : List (Nat × Unit) := [(12, ()), (8, ()), (5, ())]
noncomputable def en_s_l09Supported {R : Type} (K : Nat) (k : Nat) : Env R := { L := lk [(11, mkLoop lv_s_l09Supported_L11 (gs_l09Supported_l11 K k)), (6, mkLoop lv_s_l09Supported_L6 (gs_l09Supported_l6 K k)), (2, mkLoop lv_s_l09Supported_L2 (gs_l09Supported_l2 K k))], X := lk [(0, lv_s_l09Supported_X0), (2, lv_s_l09Supported_X2), (4, lv_s_l09Supported_X4)], S := lk (sg_s_l09Supported K k), rv := rv_s_l09Supported }
noncomputable def cf_s_l09Supported (K : Nat) : Cfg := { ty := lk tys, fn := lk [(78, sp_s_l01Rows (s_l01Rows K)), (94, sp_s_l09Allows (s_l09Allows K)), (107, sp_s_l09Has (s_l09Has K))], fs := lk [], prot := 0, nt := Try.f95.ntmps }
noncomputable def c_s_l09Supported_L2 : Code := nthC (partsOf (hasK su_s_l09Supported) (bodyOf Try.f95)) 0
noncomputable def c_s_l09Supported_J5 : Code := nthC (partsOf (hasK su_s_l09Supported) c_s_l09Supported_L2) 0
noncomputable def c_s_l09Supported_L6 : Code := nthC (partsOf (hasK su_s_l09Supported) c_s_l09Supported_J5) 0
noncomputable def c_s_l09Supported_J8 : Code := nthC (partsOf (hasK su_s_l09Supported) c_s_l09Supported_L6) 0
noncomputable def c_s_l09Supported_L11 : Code := nthC (partsOf (hasK su_s_l09Supported) c_s_l09Supported_J8) 0
noncomputable def c_s_l09Supported_J12 : Code := nthC (partsOf (hasK su_s_l09Supported) c_s_l09Supported_L11) 0
theorem es_l09Supported_j12 {R : Type} (K : Nat) (k : Nat) (x : den lv_s_l09Supported_J12.ty) (kn : den lv_s_l09Supported_N12.ty → Option R) (kx : Nat → St → Option R) (kr : St → Option R) : gs_l09Supported_j12 K k x kn kx kr = evC (cf_s_l09Supported K) (en_s_l09Supported K k) c_s_l09Supported_J12 (mkSt lv_s_l09Supported_J12 x) (cutK lv_s_l09Supported_N12 kn) kx kr := by kernel_rfl
theorem ss_l09Supported_j12 {R : Type} (K : Nat) (C : Cx) (hP : C.P = Try.prog) (O : CfgOk C (cf_s_l09Supported K)) (k : Nat) : SgS C (R := R) (mkSeg lv_s_l09Supported_J12 lv_s_l09Supported_N12 (gs_l09Supported_j12 K k)) c_s_l09Supported_J12 :=
  seg_sound O (by rw [hP]; kernel_rfl) (es_l09Supported_j12 K k) (lpOk_of (en := en_s_l09Supported K k) (S := hasK su_s_l09Supported) (fun i => hasK_lk (sg_s_l09Supported K k) i) _ (by rw [show partsOf (hasK su_s_l09Supported) c_s_l09Supported_J12 = [] from by kernel_rfl]; exact trivial))
theorem es_l09Supported_l11 {R : Type} (K : Nat) (k : Nat) (x : den lv_s_l09Supported_L11.ty) (kx : Nat → St → Option R) (kr : St → Option R) : gs_l09Supported_l11 K (k + 1) x kx kr = evC (cf_s_l09Supported K) (en_s_l09Supported K k) c_s_l09Supported_L11 (mkSt lv_s_l09Supported_L11 x) (fun s => mkLoop lv_s_l09Supported_L11 (gs_l09Supported_l11 K k) s kx kr) kx kr := by kernel_rfl
theorem ss_l09Supported_l11 {R : Type} (K : Nat) (C : Cx) (hP : C.P = Try.prog) (O : CfgOk C (cf_s_l09Supported K)) (k : Nat) : LpS C (R := R) (mkLoop lv_s_l09Supported_L11 (gs_l09Supported_l11 K k)) c_s_l09Supported_L11 :=
  loop_sound O (by rw [hP]; kernel_rfl) (fun x kx kr => rfl) (es_l09Supported_l11 K) (fun k => lpOk_of (en := en_s_l09Supported K k) (S := hasK su_s_l09Supported) (fun i => hasK_lk (sg_s_l09Supported K k) i) _ (by rw [show partsOf (hasK su_s_l09Supported) c_s_l09Supported_L11 = [(false, c_s_l09Supported_J12)] from by kernel_rfl]; exact (lpL_seg (f := mkSeg lv_s_l09Supported_J12 lv_s_l09Supported_N12 (gs_l09Supported_j12 K k)) (by kernel_rfl) (ss_l09Supported_j12 K C hP O k) trivial))) k
theorem es_l09Supported_j8 {R : Type} (K : Nat) (k : Nat) (x : den lv_s_l09Supported_J8.ty) (kn : den lv_s_l09Supported_N8.ty → Option R) (kx : Nat → St → Option R) (kr : St → Option R) : gs_l09Supported_j8 K k x kn kx kr = evC (cf_s_l09Supported K) (en_s_l09Supported K k) c_s_l09Supported_J8 (mkSt lv_s_l09Supported_J8 x) (cutK lv_s_l09Supported_N8 kn) kx kr := by kernel_rfl
theorem ss_l09Supported_j8 {R : Type} (K : Nat) (C : Cx) (hP : C.P = Try.prog) (O : CfgOk C (cf_s_l09Supported K)) (k : Nat) : SgS C (R := R) (mkSeg lv_s_l09Supported_J8 lv_s_l09Supported_N8 (gs_l09Supported_j8 K k)) c_s_l09Supported_J8 :=
  seg_sound O (by rw [hP]; kernel_rfl) (es_l09Supported_j8 K k) (lpOk_of (en := en_s_l09Supported K k) (S := hasK su_s_l09Supported) (fun i => hasK_lk (sg_s_l09Supported K k) i) _ (by rw [show partsOf (hasK su_s_l09Supported) c_s_l09Supported_J8 = [(true, c_s_l09Supported_L11)] from by kernel_rfl]; exact (lpL_loop (f := mkLoop lv_s_l09Supported_L11 (gs_l09Supported_l11 K k)) (by kernel_rfl) (ss_l09Supported_l11 K C hP O k) trivial)))
theorem es_l09Supported_l6 {R : Type} (K : Nat) (k : Nat) (x : den lv_s_l09Supported_L6.ty) (kx : Nat → St → Option R) (kr : St → Option R) : gs_l09Supported_l6 K (k + 1) x kx kr = evC (cf_s_l09Supported K) (en_s_l09Supported K k) c_s_l09Supported_L6 (mkSt lv_s_l09Supported_L6 x) (fun s => mkLoop lv_s_l09Supported_L6 (gs_l09Supported_l6 K k) s kx kr) kx kr := by kernel_rfl
theorem ss_l09Supported_l6 {R : Type} (K : Nat) (C : Cx) (hP : C.P = Try.prog) (O : CfgOk C (cf_s_l09Supported K)) (k : Nat) : LpS C (R := R) (mkLoop lv_s_l09Supported_L6 (gs_l09Supported_l6 K k)) c_s_l09Supported_L6 :=
  loop_sound O (by rw [hP]; kernel_rfl) (fun x kx kr => rfl) (es_l09Supported_l6 K) (fun k => lpOk_of (en := en_s_l09Supported K k) (S := hasK su_s_l09Supported) (fun i => hasK_lk (sg_s_l09Supported K k) i) _ (by rw [show partsOf (hasK su_s_l09Supported) c_s_l09Supported_L6 = [(false, c_s_l09Supported_J8)] from by kernel_rfl]; exact (lpL_seg (f := mkSeg lv_s_l09Supported_J8 lv_s_l09Supported_N8 (gs_l09Supported_j8 K k)) (by kernel_rfl) (ss_l09Supported_j8 K C hP O k) trivial))) k
theorem es_l09Supported_j5 {R : Type} (K : Nat) (k : Nat) (x : den lv_s_l09Supported_J5.ty) (kn : den lv_s_l09Supported_N5.ty → Option R) (kx : Nat → St → Option R) (kr : St → Option R) : gs_l09Supported_j5 K k x kn kx kr = evC (cf_s_l09Supported K) (en_s_l09Supported K k) c_s_l09Supported_J5 (mkSt lv_s_l09Supported_J5 x) (cutK lv_s_l09Supported_N5 kn) kx kr := by kernel_rfl
theorem ss_l09Supported_j5 {R : Type} (K : Nat) (C : Cx) (hP : C.P = Try.prog) (O : CfgOk C (cf_s_l09Supported K)) (k : Nat) : SgS C (R := R) (mkSeg lv_s_l09Supported_J5 lv_s_l09Supported_N5 (gs_l09Supported_j5 K k)) c_s_l09Supported_J5 :=
  seg_sound O (by rw [hP]; kernel_rfl) (es_l09Supported_j5 K k) (lpOk_of (en := en_s_l09Supported K k) (S := hasK su_s_l09Supported) (fun i => hasK_lk (sg_s_l09Supported K k) i) _ (by rw [show partsOf (hasK su_s_l09Supported) c_s_l09Supported_J5 = [(true, c_s_l09Supported_L6)] from by kernel_rfl]; exact (lpL_loop (f := mkLoop lv_s_l09Supported_L6 (gs_l09Supported_l6 K k)) (by kernel_rfl) (ss_l09Supported_l6 K C hP O k) trivial)))
theorem es_l09Supported_l2 {R : Type} (K : Nat) (k : Nat) (x : den lv_s_l09Supported_L2.ty) (kx : Nat → St → Option R) (kr : St → Option R) : gs_l09Supported_l2 K (k + 1) x kx kr = evC (cf_s_l09Supported K) (en_s_l09Supported K k) c_s_l09Supported_L2 (mkSt lv_s_l09Supported_L2 x) (fun s => mkLoop lv_s_l09Supported_L2 (gs_l09Supported_l2 K k) s kx kr) kx kr := by kernel_rfl
theorem ss_l09Supported_l2 {R : Type} (K : Nat) (C : Cx) (hP : C.P = Try.prog) (O : CfgOk C (cf_s_l09Supported K)) (k : Nat) : LpS C (R := R) (mkLoop lv_s_l09Supported_L2 (gs_l09Supported_l2 K k)) c_s_l09Supported_L2 :=
  loop_sound O (by rw [hP]; kernel_rfl) (fun x kx kr => rfl) (es_l09Supported_l2 K) (fun k => lpOk_of (en := en_s_l09Supported K k) (S := hasK su_s_l09Supported) (fun i => hasK_lk (sg_s_l09Supported K k) i) _ (by rw [show partsOf (hasK su_s_l09Supported) c_s_l09Supported_L2 = [(false, c_s_l09Supported_J5)] from by kernel_rfl]; exact (lpL_seg (f := mkSeg lv_s_l09Supported_J5 lv_s_l09Supported_N5 (gs_l09Supported_j5 K k)) (by kernel_rfl) (ss_l09Supported_j5 K C hP O k) trivial))) k
theorem e_s_l09Supported (K : Nat) (x : den as_s_l09Supported) : s_l09Supported K x = evFn (cf_s_l09Supported K) as_s_l09Supported [false, false, false, false] .bool (en_s_l09Supported K K) Try.f95.results.toList (bodyOf Try.f95) x := by kernel_rfl
theorem ok_s_l09Supported (K : Nat) : FnOk Try.prog 95 (sp_s_l09Supported (s_l09Supported K)) :=
  fn_ok (cf := cf_s_l09Supported K) (en := en_s_l09Supported K K) (c := bodyOf Try.f95) Try.func95 (by kernel_rfl) (by kernel_rfl) tysOk (fns_ok (l := [(78, sp_s_l01Rows (s_l01Rows K)), (94, sp_s_l09Allows (s_l09Allows K)), (107, sp_s_l09Has (s_l09Has K))]) ⟨ok_s_l01Rows K, ⟨ok_s_l09Allows K, ⟨ok_s_l09Has K, trivial⟩⟩⟩) (shs_ok (l := []) trivial) (by kernel_rfl) rfl (Nat.le_of_ble_eq_true (by kernel_rfl)) (by kernel_rfl) (of_decide_eq_true (by kernel_rfl)) (by decide) (fun C hP O => lpOk_of (en := en_s_l09Supported K K) (S := hasK su_s_l09Supported) (fun i => hasK_lk (sg_s_l09Supported K K) i) _ (by rw [show partsOf (hasK su_s_l09Supported) (bodyOf Try.f95) = [(true, c_s_l09Supported_L2)] from by kernel_rfl]; exact (lpL_loop (f := mkLoop lv_s_l09Supported_L2 (gs_l09Supported_l2 K K)) (by kernel_rfl) (ss_l09Supported_l2 K C hP O K) trivial))) (fun x y h => by rw [← e_s_l09Supported]; exact h)
noncomputable def as_s_NarrowDomains : Ty := (.pair (.st (.pair (.int .i64) (.pair (.sl (.st (.pair (.st (.pair (.int .i64) (.pair (.int .i64) .unit))) (.pair (.sl (.int .i64)) .unit)))) .unit))) (.pair (.sl (.int .i64)) .unit))
noncomputable def sp_s_NarrowDomains (F : ((Int × (List ((Int × Int × Unit) × (List Int) × Unit)) × Unit) × (List Int) × Unit) → Option ((List Int) × Int × Unit)) : FnSpec := ⟨as_s_NarrowDomains, [false, false], (.tup (.pair (.sl (.int .i64)) (.pair (.int .i64) .unit))), F⟩
noncomputable def s_NarrowDomains_l4 {R : Type} (K : Nat) : Nat → (List Int) → (Int × (List ((Int × Int × Unit) × (List Int) × Unit)) × Unit) → Int → ((List Int) → (Int × (List ((Int × Int × Unit) × (List Int) × Unit)) × Unit) → Option R) → ((List Int) → Int → Option R) → Option R
  | 0, _, _, _, _, _ => none
  | k + 1, v1, v2, v6, kx0, kr =>
    (if (decide (v6 < (v1.length : Int))) = true then
    (if (bnds v6 (v1.length : Int)) = true then
    (s_l01In K ((v1.getD v6.toNat (0 : Int)), (0 : Int), (2 : Int), ())).bind fun y2 =>
    (if (!y2) = true then
    kr ([] : List Int) (2 : Int)
    else
    s_NarrowDomains_l4 K k v1 v2 (IntKind.i64.wrap (v6 + (1 : Int))) kx0 kr)
    else
    none)
    else
    kx0 v1 v2)
noncomputable def s_NarrowDomains_j26 {R : Type} (K : Nat) (k : Nat) (v2 : (Int × (List ((Int × Int × Unit) × (List Int) × Unit)) × Unit)) (v7 : (List Int)) (v9 : Int) (v10 : ((Int × Int × Unit) × (List Int) × Unit)) (v11 : Int) (v12 : Int) (v13 : Int) (kn : (Int × (List ((Int × Int × Unit) × (List Int) × Unit)) × Unit) → (List Int) → Bool → Int → ((Int × Int × Unit) × (List Int) × Unit) → Int → Int → Option R) (kr : ((List Int) → Int → Option R)) : Option R :=
    (if (bnds v13 (v7.length : Int)) = true then
    (if (!decide ((v7.getD v13.toNat (0 : Int)) = (2 : Int))) = true then
    kr ([] : List Int) (4 : Int)
    else
    (if (bnds v13 (v7.length : Int)) = true then
    let l9 := (v7.set v13.toNat (IntKind.i64.wrap ((1 : Int) - v12)))
    kn v2 l9 true v9 v10 v11 v12
    else
    none))
    else
    none)
noncomputable def s_NarrowDomains_l22 {R : Type} (K : Nat) : Nat → (Int × (List ((Int × Int × Unit) × (List Int) × Unit)) × Unit) → (List Int) → Bool → Int → ((Int × Int × Unit) × (List Int) × Unit) → Int → Int → ((Int × (List ((Int × Int × Unit) × (List Int) × Unit)) × Unit) → (List Int) → Bool → Int → ((Int × Int × Unit) × (List Int) × Unit) → Int → Option R) → ((List Int) → Int → Option R) → Option R
  | 0, _, _, _, _, _, _, _, _, _ => none
  | k + 1, v2, v7, v8, v9, v10, v11, v12, kx8, kr =>
    (if (decide (v12 < (2 : Int))) = true then
    (if (bnds v11 (v10.2.1.length : Int)) = true then
    (if (bnds (v10.2.1.getD v11.toNat (0 : Int)) (v7.length : Int)) = true then
    (s_l09Allows K ((v7.getD (v10.2.1.getD v11.toNat (0 : Int)).toNat (0 : Int)), v12, ())).bind fun y7 =>
    (if (!y7) = true then
    s_NarrowDomains_l22 K k v2 v7 v8 v9 v10 v11 (IntKind.i64.wrap (v12 + (1 : Int))) kx8 kr
    else
    (s_l09Supported K (v10, v7, v11, v12, ())).bind fun y8 =>
    (if y8 = true then
    s_NarrowDomains_l22 K k v2 v7 v8 v9 v10 v11 (IntKind.i64.wrap (v12 + (1 : Int))) kx8 kr
    else
    s_NarrowDomains_j26 K k v2 v7 v9 v10 v11 v12 (v10.2.1.getD v11.toNat (0 : Int)) (fun z10 z11 z12 z13 z14 z15 z16 =>
    s_NarrowDomains_l22 K k z10 z11 z12 z13 z14 z15 (IntKind.i64.wrap (z16 + (1 : Int))) kx8 kr) (fun z17 z18 =>
    kr z17 z18)))
    else
    none)
    else
    none)
    else
    kx8 v2 v7 v8 v9 v10 v11)
noncomputable def s_NarrowDomains_l19 {R : Type} (K : Nat) : Nat → (Int × (List ((Int × Int × Unit) × (List Int) × Unit)) × Unit) → (List Int) → Bool → Int → ((Int × Int × Unit) × (List Int) × Unit) → Int → ((Int × (List ((Int × Int × Unit) × (List Int) × Unit)) × Unit) → (List Int) → Bool → Int → Option R) → ((List Int) → Int → Option R) → Option R
  | 0, _, _, _, _, _, _, _, _ => none
  | k + 1, v2, v7, v8, v9, v10, v11, kx6, kr =>
    (if (decide (v11 < (v10.2.1.length : Int))) = true then
    s_NarrowDomains_l22 K k v2 v7 v8 v9 v10 v11 (0 : Int) (fun z19 z20 z21 z22 z23 z24 =>
    s_NarrowDomains_l19 K k z19 z20 z21 z22 z23 (IntKind.i64.wrap (z24 + (1 : Int))) kx6 kr) (fun z25 z26 =>
    kr z25 z26)
    else
    kx6 v2 v7 v8 v9)
noncomputable def s_NarrowDomains_l15 {R : Type} (K : Nat) : Nat → (Int × (List ((Int × Int × Unit) × (List Int) × Unit)) × Unit) → (List Int) → Bool → Int → ((Int × (List ((Int × Int × Unit) × (List Int) × Unit)) × Unit) → (List Int) → Bool → Option R) → ((List Int) → Int → Option R) → Option R
  | 0, _, _, _, _, _, _ => none
  | k + 1, v2, v7, v8, v9, kx4, kr =>
    (if (decide (v9 < (v2.2.1.length : Int))) = true then
    (if (bnds v9 (v2.2.1.length : Int)) = true then
    let x6 := (v2.2.1.getD v9.toNat (((0 : Int), (0 : Int), ()), ([] : List Int), ()))
    s_NarrowDomains_l19 K k v2 v7 v8 v9 x6 (0 : Int) (fun z27 z28 z29 z30 =>
    s_NarrowDomains_l15 K k z27 z28 z29 (IntKind.i64.wrap (z30 + (1 : Int))) kx4 kr) (fun z31 z32 =>
    kr z31 z32)
    else
    none)
    else
    kx4 v2 v7 v8)
noncomputable def s_NarrowDomains_l12 {R : Type} (K : Nat) : Nat → (Int × (List ((Int × Int × Unit) × (List Int) × Unit)) × Unit) → (List Int) → Bool → ((List Int) → Option R) → ((List Int) → Int → Option R) → Option R
  | 0, _, _, _, _, _ => none
  | k + 1, v2, v7, v8, kx2, kr =>
    (if v8 = true then
    s_NarrowDomains_l15 K k v2 v7 false (0 : Int) (fun z33 z34 z35 =>
    s_NarrowDomains_l12 K k z33 z34 z35 kx2 kr) (fun z36 z37 =>
    kr z36 z37)
    else
    kx2 v7)
noncomputable def s_NarrowDomains (K : Nat) (x : ((Int × (List ((Int × Int × Unit) × (List Int) × Unit)) × Unit) × (List Int) × Unit)) : Option ((List Int) × Int × Unit) :=
    (s_l09Is K (x.1, ())).bind fun y1 =>
    (if (!y1) = true then
    some (([] : List Int), (1 : Int), ())
    else
    s_NarrowDomains_l4 K K x.2.1 x.1 (0 : Int) (fun z3 z4 =>
    (if (!decide ((z3.length : Int) = z4.1)) = true then
    some (([] : List Int), (2 : Int), ())
    else
    (s_l01Own K (z3, ())).bind fun y5 =>
    s_NarrowDomains_l12 K K z4 y5 true (fun z38 =>
    some (z38, (0 : Int), ())) (fun z39 z40 =>
    some (z39, z40, ())))) (fun z41 z42 =>
    some (z41, z42, ())))
noncomputable def lv_s_NarrowDomains_J26 : Lv := [(2, (.bx (.v (.st (.pair (.int .i64) (.pair (.sl (.st (.pair (.st (.pair (.int .i64) (.pair (.int .i64) .unit))) (.pair (.sl (.int .i64)) .unit)))) .unit)))))), (7, (.r (.int .i64))), (9, (.v (.int .i64))), (10, (.bx (.v (.st (.pair (.st (.pair (.int .i64) (.pair (.int .i64) .unit))) (.pair (.sl (.int .i64)) .unit)))))), (11, (.v (.int .i64))), (12, (.v (.int .i64))), (13, (.v (.int .i64)))]
noncomputable def lv_s_NarrowDomains_L4 : Lv := [(1, (.v (.sl (.int .i64)))), (2, (.bx (.v (.st (.pair (.int .i64) (.pair (.sl (.st (.pair (.st (.pair (.int .i64) (.pair (.int .i64) .unit))) (.pair (.sl (.int .i64)) .unit)))) .unit)))))), (6, (.v (.int .i64)))]
noncomputable def lv_s_NarrowDomains_L12 : Lv := [(2, (.bx (.v (.st (.pair (.int .i64) (.pair (.sl (.st (.pair (.st (.pair (.int .i64) (.pair (.int .i64) .unit))) (.pair (.sl (.int .i64)) .unit)))) .unit)))))), (7, (.r (.int .i64))), (8, (.v .bool))]
noncomputable def lv_s_NarrowDomains_L15 : Lv := [(2, (.bx (.v (.st (.pair (.int .i64) (.pair (.sl (.st (.pair (.st (.pair (.int .i64) (.pair (.int .i64) .unit))) (.pair (.sl (.int .i64)) .unit)))) .unit)))))), (7, (.r (.int .i64))), (8, (.v .bool)), (9, (.v (.int .i64)))]
noncomputable def lv_s_NarrowDomains_L19 : Lv := [(2, (.bx (.v (.st (.pair (.int .i64) (.pair (.sl (.st (.pair (.st (.pair (.int .i64) (.pair (.int .i64) .unit))) (.pair (.sl (.int .i64)) .unit)))) .unit)))))), (7, (.r (.int .i64))), (8, (.v .bool)), (9, (.v (.int .i64))), (10, (.bx (.v (.st (.pair (.st (.pair (.int .i64) (.pair (.int .i64) .unit))) (.pair (.sl (.int .i64)) .unit)))))), (11, (.v (.int .i64)))]
noncomputable def lv_s_NarrowDomains_L22 : Lv := [(2, (.bx (.v (.st (.pair (.int .i64) (.pair (.sl (.st (.pair (.st (.pair (.int .i64) (.pair (.int .i64) .unit))) (.pair (.sl (.int .i64)) .unit)))) .unit)))))), (7, (.r (.int .i64))), (8, (.v .bool)), (9, (.v (.int .i64))), (10, (.bx (.v (.st (.pair (.st (.pair (.int .i64) (.pair (.int .i64) .unit))) (.pair (.sl (.int .i64)) .unit)))))), (11, (.v (.int .i64))), (12, (.v (.int .i64)))]
noncomputable def lv_s_NarrowDomains_N26 : Lv := [(2, (.bx (.v (.st (.pair (.int .i64) (.pair (.sl (.st (.pair (.st (.pair (.int .i64) (.pair (.int .i64) .unit))) (.pair (.sl (.int .i64)) .unit)))) .unit)))))), (7, (.r (.int .i64))), (8, (.v .bool)), (9, (.v (.int .i64))), (10, (.bx (.v (.st (.pair (.st (.pair (.int .i64) (.pair (.int .i64) .unit))) (.pair (.sl (.int .i64)) .unit)))))), (11, (.v (.int .i64))), (12, (.v (.int .i64)))]
noncomputable def lv_s_NarrowDomains_X0 : Lv := [(1, (.v (.sl (.int .i64)))), (2, (.bx (.v (.st (.pair (.int .i64) (.pair (.sl (.st (.pair (.st (.pair (.int .i64) (.pair (.int .i64) .unit))) (.pair (.sl (.int .i64)) .unit)))) .unit))))))]
noncomputable def lv_s_NarrowDomains_X2 : Lv := [(7, (.r (.int .i64)))]
noncomputable def lv_s_NarrowDomains_X4 : Lv := [(2, (.bx (.v (.st (.pair (.int .i64) (.pair (.sl (.st (.pair (.st (.pair (.int .i64) (.pair (.int .i64) .unit))) (.pair (.sl (.int .i64)) .unit)))) .unit)))))), (7, (.r (.int .i64))), (8, (.v .bool))]
noncomputable def lv_s_NarrowDomains_X6 : Lv := [(2, (.bx (.v (.st (.pair (.int .i64) (.pair (.sl (.st (.pair (.st (.pair (.int .i64) (.pair (.int .i64) .unit))) (.pair (.sl (.int .i64)) .unit)))) .unit)))))), (7, (.r (.int .i64))), (8, (.v .bool)), (9, (.v (.int .i64)))]
noncomputable def lv_s_NarrowDomains_X8 : Lv := [(2, (.bx (.v (.st (.pair (.int .i64) (.pair (.sl (.st (.pair (.st (.pair (.int .i64) (.pair (.int .i64) .unit))) (.pair (.sl (.int .i64)) .unit)))) .unit)))))), (7, (.r (.int .i64))), (8, (.v .bool)), (9, (.v (.int .i64))), (10, (.bx (.v (.st (.pair (.st (.pair (.int .i64) (.pair (.int .i64) .unit))) (.pair (.sl (.int .i64)) .unit)))))), (11, (.v (.int .i64)))]
noncomputable def lv_s_NarrowDomains_X9 : Lv := [(2, (.bx (.v (.st (.pair (.int .i64) (.pair (.sl (.st (.pair (.st (.pair (.int .i64) (.pair (.int .i64) .unit))) (.pair (.sl (.int .i64)) .unit)))) .unit)))))), (7, (.r (.int .i64))), (8, (.v .bool)), (9, (.v (.int .i64))), (10, (.bx (.v (.st (.pair (.st (.pair (.int .i64) (.pair (.int .i64) .unit))) (.pair (.sl (.int .i64)) .unit)))))), (11, (.v (.int .i64))), (12, (.v (.int .i64)))]
noncomputable def rv_s_NarrowDomains : Lv := [(4, (.r (.int .i64))), (5, (.v (.int .i64)))]
noncomputable def gs_NarrowDomains_l4 {R : Type} (K : Nat) (k : Nat) (x : den lv_s_NarrowDomains_L4.ty) (kx : Nat → St → Option R) (kr : St → Option R) : Option R := s_NarrowDomains_l4 K k x.1 x.2.1 x.2.2.1 (fun z0 z1 => kx 0 (mkSt lv_s_NarrowDomains_X0 (z0, z1, ()))) (fun z0 z1 => kr (mkSt rv_s_NarrowDomains (z0, z1, ())))
noncomputable def gs_NarrowDomains_j26 {R : Type} (K : Nat) (k : Nat) (x : den lv_s_NarrowDomains_J26.ty) (kn : den lv_s_NarrowDomains_N26.ty → Option R) (kx : Nat → St → Option R) (kr : St → Option R) : Option R := s_NarrowDomains_j26 K k x.1 x.2.1 x.2.2.1 x.2.2.2.1 x.2.2.2.2.1 x.2.2.2.2.2.1 x.2.2.2.2.2.2.1 (fun z0 z1 z2 z3 z4 z5 z6 => kn (z0, z1, z2, z3, z4, z5, z6, ())) (fun z0 z1 => kr (mkSt rv_s_NarrowDomains (z0, z1, ())))
noncomputable def gs_NarrowDomains_l22 {R : Type} (K : Nat) (k : Nat) (x : den lv_s_NarrowDomains_L22.ty) (kx : Nat → St → Option R) (kr : St → Option R) : Option R := s_NarrowDomains_l22 K k x.1 x.2.1 x.2.2.1 x.2.2.2.1 x.2.2.2.2.1 x.2.2.2.2.2.1 x.2.2.2.2.2.2.1 (fun z0 z1 z2 z3 z4 z5 => kx 8 (mkSt lv_s_NarrowDomains_X8 (z0, z1, z2, z3, z4, z5, ()))) (fun z0 z1 => kr (mkSt rv_s_NarrowDomains (z0, z1, ())))
noncomputable def gs_NarrowDomains_l19 {R : Type} (K : Nat) (k : Nat) (x : den lv_s_NarrowDomains_L19.ty) (kx : Nat → St → Option R) (kr : St → Option R) : Option R := s_NarrowDomains_l19 K k x.1 x.2.1 x.2.2.1 x.2.2.2.1 x.2.2.2.2.1 x.2.2.2.2.2.1 (fun z0 z1 z2 z3 => kx 6 (mkSt lv_s_NarrowDomains_X6 (z0, z1, z2, z3, ()))) (fun z0 z1 => kr (mkSt rv_s_NarrowDomains (z0, z1, ())))
noncomputable def gs_NarrowDomains_l15 {R : Type} (K : Nat) (k : Nat) (x : den lv_s_NarrowDomains_L15.ty) (kx : Nat → St → Option R) (kr : St → Option R) : Option R := s_NarrowDomains_l15 K k x.1 x.2.1 x.2.2.1 x.2.2.2.1 (fun z0 z1 z2 => kx 4 (mkSt lv_s_NarrowDomains_X4 (z0, z1, z2, ()))) (fun z0 z1 => kr (mkSt rv_s_NarrowDomains (z0, z1, ())))
noncomputable def gs_NarrowDomains_l12 {R : Type} (K : Nat) (k : Nat) (x : den lv_s_NarrowDomains_L12.ty) (kx : Nat → St → Option R) (kr : St → Option R) : Option R := s_NarrowDomains_l12 K k x.1 x.2.1 x.2.2.1 (fun z0 => kx 2 (mkSt lv_s_NarrowDomains_X2 (z0, ()))) (fun z0 z1 => kr (mkSt rv_s_NarrowDomains (z0, z1, ())))
noncomputable def sg_s_NarrowDomains {R : Type} (K : Nat) (k : Nat) : List (Nat × SegS R) := [(26, mkSeg lv_s_NarrowDomains_J26 lv_s_NarrowDomains_N26 (gs_NarrowDomains_j26 K k))]
noncomputable def su_s_NarrowDomains : List (Nat × Unit) := [(26, ())]
noncomputable def en_s_NarrowDomains {R : Type} (K : Nat) (k : Nat) : Env R := { L := lk [(4, mkLoop lv_s_NarrowDomains_L4 (gs_NarrowDomains_l4 K k)), (22, mkLoop lv_s_NarrowDomains_L22 (gs_NarrowDomains_l22 K k)), (19, mkLoop lv_s_NarrowDomains_L19 (gs_NarrowDomains_l19 K k)), (15, mkLoop lv_s_NarrowDomains_L15 (gs_NarrowDomains_l15 K k)), (12, mkLoop lv_s_NarrowDomains_L12 (gs_NarrowDomains_l12 K k))], X := lk [(0, lv_s_NarrowDomains_X0), (2, lv_s_NarrowDomains_X2), (4, lv_s_NarrowDomains_X4), (6, lv_s_NarrowDomains_X6), (8, lv_s_NarrowDomains_X8), (9, lv_s_NarrowDomains_X9)], S := lk (sg_s_NarrowDomains K k), rv := rv_s_NarrowDomains }
noncomputable def cf_s_NarrowDomains (K : Nat) : Cfg := { ty := lk tys, fn := lk [(66, sp_s_l01Own (s_l01Own K)), (71, sp_s_l01In (s_l01In K)), (93, sp_s_l09Is (s_l09Is K)), (94, sp_s_l09Allows (s_l09Allows K)), (95, sp_s_l09Supported (s_l09Supported K))], fs := lk [], prot := 0, nt := Try.f28.ntmps }
noncomputable def c_s_NarrowDomains_L4 : Code := nthC (partsOf (hasK su_s_NarrowDomains) (bodyOf Try.f28)) 0
noncomputable def c_s_NarrowDomains_L12 : Code := nthC (partsOf (hasK su_s_NarrowDomains) (bodyOf Try.f28)) 1
noncomputable def c_s_NarrowDomains_L15 : Code := nthC (partsOf (hasK su_s_NarrowDomains) c_s_NarrowDomains_L12) 0
noncomputable def c_s_NarrowDomains_L19 : Code := nthC (partsOf (hasK su_s_NarrowDomains) c_s_NarrowDomains_L15) 0
noncomputable def c_s_NarrowDomains_L22 : Code := nthC (partsOf (hasK su_s_NarrowDomains) c_s_NarrowDomains_L19) 0
noncomputable def c_s_NarrowDomains_J26 : Code := nthC (partsOf (hasK su_s_NarrowDomains) c_s_NarrowDomains_L22) 0
theorem es_NarrowDomains_l4 {R : Type} (K : Nat) (k : Nat) (x : den lv_s_NarrowDomains_L4.ty) (kx : Nat → St → Option R) (kr : St → Option R) : gs_NarrowDomains_l4 K (k + 1) x kx kr = evC (cf_s_NarrowDomains K) (en_s_NarrowDomains K k) c_s_NarrowDomains_L4 (mkSt lv_s_NarrowDomains_L4 x) (fun s => mkLoop lv_s_NarrowDomains_L4 (gs_NarrowDomains_l4 K k) s kx kr) kx kr := by kernel_rfl
theorem ss_NarrowDomains_l4 {R : Type} (K : Nat) (C : Cx) (hP : C.P = Try.prog) (O : CfgOk C (cf_s_NarrowDomains K)) (k : Nat) : LpS C (R := R) (mkLoop lv_s_NarrowDomains_L4 (gs_NarrowDomains_l4 K k)) c_s_NarrowDomains_L4 :=
  loop_sound O (by rw [hP]; kernel_rfl) (fun x kx kr => rfl) (es_NarrowDomains_l4 K) (fun k => lpOk_of (en := en_s_NarrowDomains K k) (S := hasK su_s_NarrowDomains) (fun i => hasK_lk (sg_s_NarrowDomains K k) i) _ (by rw [show partsOf (hasK su_s_NarrowDomains) c_s_NarrowDomains_L4 = [] from by kernel_rfl]; exact trivial)) k
theorem es_NarrowDomains_j26 {R : Type} (K : Nat) (k : Nat) (x : den lv_s_NarrowDomains_J26.ty) (kn : den lv_s_NarrowDomains_N26.ty → Option R) (kx : Nat → St → Option R) (kr : St → Option R) : gs_NarrowDomains_j26 K k x kn kx kr = evC (cf_s_NarrowDomains K) (en_s_NarrowDomains K k) c_s_NarrowDomains_J26 (mkSt lv_s_NarrowDomains_J26 x) (cutK lv_s_NarrowDomains_N26 kn) kx kr := by kernel_rfl
theorem ss_NarrowDomains_j26 {R : Type} (K : Nat) (C : Cx) (hP : C.P = Try.prog) (O : CfgOk C (cf_s_NarrowDomains K)) (k : Nat) : SgS C (R := R) (mkSeg lv_s_NarrowDomains_J26 lv_s_NarrowDomains_N26 (gs_NarrowDomains_j26 K k)) c_s_NarrowDomains_J26 :=
  seg_sound O (by rw [hP]; kernel_rfl) (es_NarrowDomains_j26 K k) (lpOk_of (en := en_s_NarrowDomains K k) (S := hasK su_s_NarrowDomains) (fun i => hasK_lk (sg_s_NarrowDomains K k) i) _ (by rw [show partsOf (hasK su_s_NarrowDomains) c_s_NarrowDomains_J26 = [] from by kernel_rfl]; exact trivial))
theorem es_NarrowDomains_l22 {R : Type} (K : Nat) (k : Nat) (x : den lv_s_NarrowDomains_L22.ty) (kx : Nat → St → Option R) (kr : St → Option R) : gs_NarrowDomains_l22 K (k + 1) x kx kr = evC (cf_s_NarrowDomains K) (en_s_NarrowDomains K k) c_s_NarrowDomains_L22 (mkSt lv_s_NarrowDomains_L22 x) (fun s => mkLoop lv_s_NarrowDomains_L22 (gs_NarrowDomains_l22 K k) s kx kr) kx kr := by kernel_rfl
theorem ss_NarrowDomains_l22 {R : Type} (K : Nat) (C : Cx) (hP : C.P = Try.prog) (O : CfgOk C (cf_s_NarrowDomains K)) (k : Nat) : LpS C (R := R) (mkLoop lv_s_NarrowDomains_L22 (gs_NarrowDomains_l22 K k)) c_s_NarrowDomains_L22 :=
  loop_sound O (by rw [hP]; kernel_rfl) (fun x kx kr => rfl) (es_NarrowDomains_l22 K) (fun k => lpOk_of (en := en_s_NarrowDomains K k) (S := hasK su_s_NarrowDomains) (fun i => hasK_lk (sg_s_NarrowDomains K k) i) _ (by rw [show partsOf (hasK su_s_NarrowDomains) c_s_NarrowDomains_L22 = [(false, c_s_NarrowDomains_J26)] from by kernel_rfl]; exact (lpL_seg (f := mkSeg lv_s_NarrowDomains_J26 lv_s_NarrowDomains_N26 (gs_NarrowDomains_j26 K k)) (by kernel_rfl) (ss_NarrowDomains_j26 K C hP O k) trivial))) k
theorem es_NarrowDomains_l19 {R : Type} (K : Nat) (k : Nat) (x : den lv_s_NarrowDomains_L19.ty) (kx : Nat → St → Option R) (kr : St → Option R) : gs_NarrowDomains_l19 K (k + 1) x kx kr = evC (cf_s_NarrowDomains K) (en_s_NarrowDomains K k) c_s_NarrowDomains_L19 (mkSt lv_s_NarrowDomains_L19 x) (fun s => mkLoop lv_s_NarrowDomains_L19 (gs_NarrowDomains_l19 K k) s kx kr) kx kr := by kernel_rfl
theorem ss_NarrowDomains_l19 {R : Type} (K : Nat) (C : Cx) (hP : C.P = Try.prog) (O : CfgOk C (cf_s_NarrowDomains K)) (k : Nat) : LpS C (R := R) (mkLoop lv_s_NarrowDomains_L19 (gs_NarrowDomains_l19 K k)) c_s_NarrowDomains_L19 :=
  loop_sound O (by rw [hP]; kernel_rfl) (fun x kx kr => rfl) (es_NarrowDomains_l19 K) (fun k => lpOk_of (en := en_s_NarrowDomains K k) (S := hasK su_s_NarrowDomains) (fun i => hasK_lk (sg_s_NarrowDomains K k) i) _ (by rw [show partsOf (hasK su_s_NarrowDomains) c_s_NarrowDomains_L19 = [(true, c_s_NarrowDomains_L22)] from by kernel_rfl]; exact (lpL_loop (f := mkLoop lv_s_NarrowDomains_L22 (gs_NarrowDomains_l22 K k)) (by kernel_rfl) (ss_NarrowDomains_l22 K C hP O k) trivial))) k
theorem es_NarrowDomains_l15 {R : Type} (K : Nat) (k : Nat) (x : den lv_s_NarrowDomains_L15.ty) (kx : Nat → St → Option R) (kr : St → Option R) : gs_NarrowDomains_l15 K (k + 1) x kx kr = evC (cf_s_NarrowDomains K) (en_s_NarrowDomains K k) c_s_NarrowDomains_L15 (mkSt lv_s_NarrowDomains_L15 x) (fun s => mkLoop lv_s_NarrowDomains_L15 (gs_NarrowDomains_l15 K k) s kx kr) kx kr := by kernel_rfl
theorem ss_NarrowDomains_l15 {R : Type} (K : Nat) (C : Cx) (hP : C.P = Try.prog) (O : CfgOk C (cf_s_NarrowDomains K)) (k : Nat) : LpS C (R := R) (mkLoop lv_s_NarrowDomains_L15 (gs_NarrowDomains_l15 K k)) c_s_NarrowDomains_L15 :=
  loop_sound O (by rw [hP]; kernel_rfl) (fun x kx kr => rfl) (es_NarrowDomains_l15 K) (fun k => lpOk_of (en := en_s_NarrowDomains K k) (S := hasK su_s_NarrowDomains) (fun i => hasK_lk (sg_s_NarrowDomains K k) i) _ (by rw [show partsOf (hasK su_s_NarrowDomains) c_s_NarrowDomains_L15 = [(true, c_s_NarrowDomains_L19)] from by kernel_rfl]; exact (lpL_loop (f := mkLoop lv_s_NarrowDomains_L19 (gs_NarrowDomains_l19 K k)) (by kernel_rfl) (ss_NarrowDomains_l19 K C hP O k) trivial))) k
theorem es_NarrowDomains_l12 {R : Type} (K : Nat) (k : Nat) (x : den lv_s_NarrowDomains_L12.ty) (kx : Nat → St → Option R) (kr : St → Option R) : gs_NarrowDomains_l12 K (k + 1) x kx kr = evC (cf_s_NarrowDomains K) (en_s_NarrowDomains K k) c_s_NarrowDomains_L12 (mkSt lv_s_NarrowDomains_L12 x) (fun s => mkLoop lv_s_NarrowDomains_L12 (gs_NarrowDomains_l12 K k) s kx kr) kx kr := by kernel_rfl
theorem ss_NarrowDomains_l12 {R : Type} (K : Nat) (C : Cx) (hP : C.P = Try.prog) (O : CfgOk C (cf_s_NarrowDomains K)) (k : Nat) : LpS C (R := R) (mkLoop lv_s_NarrowDomains_L12 (gs_NarrowDomains_l12 K k)) c_s_NarrowDomains_L12 :=
  loop_sound O (by rw [hP]; kernel_rfl) (fun x kx kr => rfl) (es_NarrowDomains_l12 K) (fun k => lpOk_of (en := en_s_NarrowDomains K k) (S := hasK su_s_NarrowDomains) (fun i => hasK_lk (sg_s_NarrowDomains K k) i) _ (by rw [show partsOf (hasK su_s_NarrowDomains) c_s_NarrowDomains_L12 = [(true, c_s_NarrowDomains_L15)] from by kernel_rfl]; exact (lpL_loop (f := mkLoop lv_s_NarrowDomains_L15 (gs_NarrowDomains_l15 K k)) (by kernel_rfl) (ss_NarrowDomains_l15 K C hP O k) trivial))) k
theorem e_s_NarrowDomains (K : Nat) (x : den as_s_NarrowDomains) : s_NarrowDomains K x = evFn (cf_s_NarrowDomains K) as_s_NarrowDomains [false, false] (.tup (.pair (.sl (.int .i64)) (.pair (.int .i64) .unit))) (en_s_NarrowDomains K K) Try.f28.results.toList (bodyOf Try.f28) x := by kernel_rfl
theorem ok_s_NarrowDomains (K : Nat) : FnOk Try.prog 28 (sp_s_NarrowDomains (s_NarrowDomains K)) :=
  fn_ok (cf := cf_s_NarrowDomains K) (en := en_s_NarrowDomains K K) (c := bodyOf Try.f28) Try.func28 (by kernel_rfl) (by kernel_rfl) tysOk (fns_ok (l := [(66, sp_s_l01Own (s_l01Own K)), (71, sp_s_l01In (s_l01In K)), (93, sp_s_l09Is (s_l09Is K)), (94, sp_s_l09Allows (s_l09Allows K)), (95, sp_s_l09Supported (s_l09Supported K))]) ⟨ok_s_l01Own K, ⟨ok_s_l01In K, ⟨ok_s_l09Is K, ⟨ok_s_l09Allows K, ⟨ok_s_l09Supported K, trivial⟩⟩⟩⟩⟩) (shs_ok (l := []) trivial) (by kernel_rfl) rfl (Nat.le_of_ble_eq_true (by kernel_rfl)) (by kernel_rfl) (of_decide_eq_true (by kernel_rfl)) (by decide) (fun C hP O => lpOk_of (en := en_s_NarrowDomains K K) (S := hasK su_s_NarrowDomains) (fun i => hasK_lk (sg_s_NarrowDomains K K) i) _ (by rw [show partsOf (hasK su_s_NarrowDomains) (bodyOf Try.f28) = [(true, c_s_NarrowDomains_L4), (true, c_s_NarrowDomains_L12)] from by kernel_rfl]; exact (lpL_loop (f := mkLoop lv_s_NarrowDomains_L4 (gs_NarrowDomains_l4 K K)) (by kernel_rfl) (ss_NarrowDomains_l4 K C hP O K) (lpL_loop (f := mkLoop lv_s_NarrowDomains_L12 (gs_NarrowDomains_l12 K K)) (by kernel_rfl) (ss_NarrowDomains_l12 K C hP O K) trivial)))) (fun x y h => by rw [← e_s_NarrowDomains]; exact h)
noncomputable def as_s_SatisfiedBy : Ty := (.pair (.st (.pair (.int .i64) (.pair (.sl (.st (.pair (.st (.pair (.int .i64) (.pair (.int .i64) .unit))) (.pair (.sl (.int .i64)) .unit)))) .unit))) (.pair (.int .i64) .unit))
noncomputable def sp_s_SatisfiedBy (F : ((Int × (List ((Int × Int × Unit) × (List Int) × Unit)) × Unit) × Int × Unit) → Option ((List Int) × Int × Unit)) : FnSpec := ⟨as_s_SatisfiedBy, [false, false], (.tup (.pair (.sl (.int .i64)) (.pair (.int .i64) .unit))), F⟩
noncomputable def s_SatisfiedBy_l7 {R : Type} (K : Nat) : Nat → Int → (Int × (List ((Int × Int × Unit) × (List Int) × Unit)) × Unit) → (List Int) → Int → ((List Int) → Option R) → Option R
  | 0, _, _, _, _, _ => none
  | k + 1, v1, v2, v6, v7, kx1 =>
    (if (decide (v7 < (v2.2.1.length : Int))) = true then
    (if (bnds v7 (v2.2.1.length : Int)) = true then
    let x5 := (v2.2.1.getD v7.toNat (((0 : Int), (0 : Int), ()), ([] : List Int), ()))
    (if (bnds v7 (v2.2.1.length : Int)) = true then
    let x6 := (v2.2.1.getD v7.toNat (((0 : Int), (0 : Int), ()), ([] : List Int), ()))
    (s_l09Tuple K (x6, v1, ())).bind fun y7 =>
    (s_l09Has K (x5.1, y7, ())).bind fun y8 =>
    (if y8 = true then
    let l9 := [(1 : Int)]
    (if (decide (v6.length + l9.length ≤ lim)) = true then
    let l10 := (v6 ++ l9)
    s_SatisfiedBy_l7 K k v1 v2 l10 (IntKind.i64.wrap (v7 + (1 : Int))) kx1
    else
    none)
    else
    let l11 := [(0 : Int)]
    (if (decide (v6.length + l11.length ≤ lim)) = true then
    let l12 := (v6 ++ l11)
    s_SatisfiedBy_l7 K k v1 v2 l12 (IntKind.i64.wrap (v7 + (1 : Int))) kx1
    else
    none))
    else
    none)
    else
    none)
    else
    kx1 v6)
noncomputable def s_SatisfiedBy (K : Nat) (x : ((Int × (List ((Int × Int × Unit) × (List Int) × Unit)) × Unit) × Int × Unit)) : Option ((List Int) × Int × Unit) :=
    (s_l09Is K (x.1, ())).bind fun y1 =>
    (if (!y1) = true then
    some (([] : List Int), (1 : Int), ())
    else
    (s_l01Rows K (x.1.1, ())).bind fun y2 =>
    (s_l01In K (x.2.1, (0 : Int), (IntKind.i64.wrap (y2 - (1 : Int))), ())).bind fun y3 =>
    (if (!y3) = true then
    some (([] : List Int), (2 : Int), ())
    else
    let l4 := ([] : List Int)
    s_SatisfiedBy_l7 K K x.2.1 x.1 l4 (0 : Int) (fun z13 =>
    some (z13, (0 : Int), ()))))
noncomputable def lv_s_SatisfiedBy_L7 : Lv := [(1, (.v (.int .i64))), (2, (.bx (.v (.st (.pair (.int .i64) (.pair (.sl (.st (.pair (.st (.pair (.int .i64) (.pair (.int .i64) .unit))) (.pair (.sl (.int .i64)) .unit)))) .unit)))))), (6, (.r (.int .i64))), (7, (.v (.int .i64)))]
noncomputable def lv_s_SatisfiedBy_X1 : Lv := [(6, (.r (.int .i64)))]
noncomputable def rv_s_SatisfiedBy : Lv := [(4, (.r (.int .i64))), (5, (.v (.int .i64)))]
noncomputable def gs_SatisfiedBy_l7 {R : Type} (K : Nat) (k : Nat) (x : den lv_s_SatisfiedBy_L7.ty) (kx : Nat → St → Option R) (kr : St → Option R) : Option R := s_SatisfiedBy_l7 K k x.1 x.2.1 x.2.2.1 x.2.2.2.1 (fun z0 => kx 1 (mkSt lv_s_SatisfiedBy_X1 (z0, ())))
noncomputable def sg_s_SatisfiedBy {R : Type} (K : Nat) (k : Nat) : List (Nat × SegS R) := []
noncomputable def su_s_SatisfiedBy : List (Nat × Unit) := []
noncomputable def en_s_SatisfiedBy {R : Type} (K : Nat) (k : Nat) : Env R := { L := lk [(7, mkLoop lv_s_SatisfiedBy_L7 (gs_SatisfiedBy_l7 K k))], X := lk [(1, lv_s_SatisfiedBy_X1)], S := lk (sg_s_SatisfiedBy K k), rv := rv_s_SatisfiedBy }
noncomputable def cf_s_SatisfiedBy (K : Nat) : Cfg := { ty := lk tys, fn := lk [(71, sp_s_l01In (s_l01In K)), (78, sp_s_l01Rows (s_l01Rows K)), (93, sp_s_l09Is (s_l09Is K)), (107, sp_s_l09Has (s_l09Has K)), (108, sp_s_l09Tuple (s_l09Tuple K))], fs := lk [], prot := 0, nt := Try.f41.ntmps }
noncomputable def c_s_SatisfiedBy_L7 : Code := nthC (partsOf (hasK su_s_SatisfiedBy) (bodyOf Try.f41)) 0
theorem es_SatisfiedBy_l7 {R : Type} (K : Nat) (k : Nat) (x : den lv_s_SatisfiedBy_L7.ty) (kx : Nat → St → Option R) (kr : St → Option R) : gs_SatisfiedBy_l7 K (k + 1) x kx kr = evC (cf_s_SatisfiedBy K) (en_s_SatisfiedBy K k) c_s_SatisfiedBy_L7 (mkSt lv_s_SatisfiedBy_L7 x) (fun s => mkLoop lv_s_SatisfiedBy_L7 (gs_SatisfiedBy_l7 K k) s kx kr) kx kr := by kernel_rfl
theorem ss_SatisfiedBy_l7 {R : Type} (K : Nat) (C : Cx) (hP : C.P = Try.prog) (O : CfgOk C (cf_s_SatisfiedBy K)) (k : Nat) : LpS C (R := R) (mkLoop lv_s_SatisfiedBy_L7 (gs_SatisfiedBy_l7 K k)) c_s_SatisfiedBy_L7 :=
  loop_sound O (by rw [hP]; kernel_rfl) (fun x kx kr => rfl) (es_SatisfiedBy_l7 K) (fun k => lpOk_of (en := en_s_SatisfiedBy K k) (S := hasK su_s_SatisfiedBy) (fun i => hasK_lk (sg_s_SatisfiedBy K k) i) _ (by rw [show partsOf (hasK su_s_SatisfiedBy) c_s_SatisfiedBy_L7 = [] from by kernel_rfl]; exact trivial)) k
theorem e_s_SatisfiedBy (K : Nat) (x : den as_s_SatisfiedBy) : s_SatisfiedBy K x = evFn (cf_s_SatisfiedBy K) as_s_SatisfiedBy [false, false] (.tup (.pair (.sl (.int .i64)) (.pair (.int .i64) .unit))) (en_s_SatisfiedBy K K) Try.f41.results.toList (bodyOf Try.f41) x := by kernel_rfl
theorem ok_s_SatisfiedBy (K : Nat) : FnOk Try.prog 41 (sp_s_SatisfiedBy (s_SatisfiedBy K)) :=
  fn_ok (cf := cf_s_SatisfiedBy K) (en := en_s_SatisfiedBy K K) (c := bodyOf Try.f41) Try.func41 (by kernel_rfl) (by kernel_rfl) tysOk (fns_ok (l := [(71, sp_s_l01In (s_l01In K)), (78, sp_s_l01Rows (s_l01Rows K)), (93, sp_s_l09Is (s_l09Is K)), (107, sp_s_l09Has (s_l09Has K)), (108, sp_s_l09Tuple (s_l09Tuple K))]) ⟨ok_s_l01In K, ⟨ok_s_l01Rows K, ⟨ok_s_l09Is K, ⟨ok_s_l09Has K, ⟨ok_s_l09Tuple K, trivial⟩⟩⟩⟩⟩) (shs_ok (l := []) trivial) (by kernel_rfl) rfl (Nat.le_of_ble_eq_true (by kernel_rfl)) (by kernel_rfl) (of_decide_eq_true (by kernel_rfl)) (by decide) (fun C hP O => lpOk_of (en := en_s_SatisfiedBy K K) (S := hasK su_s_SatisfiedBy) (fun i => hasK_lk (sg_s_SatisfiedBy K K) i) _ (by rw [show partsOf (hasK su_s_SatisfiedBy) (bodyOf Try.f41) = [(true, c_s_SatisfiedBy_L7)] from by kernel_rfl]; exact (lpL_loop (f := mkLoop lv_s_SatisfiedBy_L7 (gs_SatisfiedBy_l7 K K)) (by kernel_rfl) (ss_SatisfiedBy_l7 K C hP O K) trivial))) (fun x y h => by rw [← e_s_SatisfiedBy]; exact h)
noncomputable def as_w_big : Ty := (.pair (.sl (.int .u8)) .unit)
noncomputable def sp_w_big (F : ((List Int) × Unit) → Option Bool) : FnSpec := ⟨as_w_big, [false], .bool, F⟩
noncomputable def w_big (K : Nat) (x : ((List Int) × Unit)) : Option Bool :=
    some (decide ((x.1.length : Int) > (4096 : Int)))
noncomputable def rv_w_big : Lv := [(2, (.v .bool))]
noncomputable def sg_w_big {R : Type} (K : Nat) (k : Nat) : List (Nat × SegS R) := []
noncomputable def su_w_big : List (Nat × Unit) := []
noncomputable def en_w_big {R : Type} (K : Nat) (k : Nat) : Env R := { L := lk [], X := lk [], S := lk (sg_w_big K k), rv := rv_w_big }
noncomputable def cf_w_big (K : Nat) : Cfg := { ty := lk tys, fn := lk [], fs := lk [], prot := 0, nt := Try.f6.ntmps }
theorem e_w_big (K : Nat) (x : den as_w_big) : w_big K x = evFn (cf_w_big K) as_w_big [false] .bool (en_w_big K K) Try.f6.results.toList (bodyOf Try.f6) x := by kernel_rfl
theorem ok_w_big (K : Nat) : FnOk Try.prog 6 (sp_w_big (w_big K)) :=
  fn_ok (cf := cf_w_big K) (en := en_w_big K K) (c := bodyOf Try.f6) Try.func6 (by kernel_rfl) (by kernel_rfl) tysOk (fns_ok (l := []) trivial) (shs_ok (l := []) trivial) (by kernel_rfl) rfl (Nat.le_of_ble_eq_true (by kernel_rfl)) (by kernel_rfl) (of_decide_eq_true (by kernel_rfl)) (by decide) (fun C hP O => lpOk_of (en := en_w_big K K) (S := hasK su_w_big) (fun i => hasK_lk (sg_w_big K K) i) _ (by rw [show partsOf (hasK su_w_big) (bodyOf Try.f6) = [] from by kernel_rfl]; exact trivial)) (fun x y h => by rw [← e_w_big]; exact h)
noncomputable def as_w_likeInts : Ty := (.pair (.sl (.int .i64)) (.pair (.sl (.int .i64)) .unit))
noncomputable def sp_w_likeInts (F : ((List Int) × (List Int) × Unit) → Option Bool) : FnSpec := ⟨as_w_likeInts, [false, false], .bool, F⟩
noncomputable def w_likeInts_l4 {R : Type} (K : Nat) : Nat → (List Int) → (List Int) → Int → (Option R) → (Bool → Option R) → Option R
  | 0, _, _, _, _, _ => none
  | k + 1, v0, v1, v5, kx0, kr =>
    (if (decide (v5 < (v0.length : Int))) = true then
    (if (bnds v5 (v0.length : Int)) = true then
    (if (bnds v5 (v1.length : Int)) = true then
    let x1 := (!decide ((v0.getD v5.toNat (0 : Int)) = (v1.getD v5.toNat (0 : Int))))
    (if x1 = true then
    kr false
    else
    w_likeInts_l4 K k v0 v1 (IntKind.i64.wrap (v5 + (1 : Int))) kx0 kr)
    else
    none)
    else
    none)
    else
    kx0)
noncomputable def w_likeInts (K : Nat) (x : ((List Int) × (List Int) × Unit)) : Option Bool :=
    (if (!decide ((x.1.length : Int) = (x.2.1.length : Int))) = true then
    some false
    else
    w_likeInts_l4 K K x.1 x.2.1 (0 : Int) (some true) (fun z2 =>
    some z2))
noncomputable def lv_w_likeInts_L4 : Lv := [(0, (.v (.sl (.int .i64)))), (1, (.v (.sl (.int .i64)))), (5, (.v (.int .i64)))]
noncomputable def lv_w_likeInts_X0 : Lv := []
noncomputable def rv_w_likeInts : Lv := [(4, (.v .bool))]
noncomputable def gw_likeInts_l4 {R : Type} (K : Nat) (k : Nat) (x : den lv_w_likeInts_L4.ty) (kx : Nat → St → Option R) (kr : St → Option R) : Option R := w_likeInts_l4 K k x.1 x.2.1 x.2.2.1 (kx 0 (mkSt lv_w_likeInts_X0 ())) (fun z0 => kr (mkSt rv_w_likeInts (z0, ())))
noncomputable def sg_w_likeInts {R : Type} (K : Nat) (k : Nat) : List (Nat × SegS R) := []
noncomputable def su_w_likeInts : List (Nat × Unit) := []
noncomputable def en_w_likeInts {R : Type} (K : Nat) (k : Nat) : Env R := { L := lk [(4, mkLoop lv_w_likeInts_L4 (gw_likeInts_l4 K k))], X := lk [(0, lv_w_likeInts_X0)], S := lk (sg_w_likeInts K k), rv := rv_w_likeInts }
noncomputable def cf_w_likeInts (K : Nat) : Cfg := { ty := lk tys, fn := lk [], fs := lk [], prot := 0, nt := Try.f29.ntmps }
noncomputable def c_w_likeInts_L4 : Code := nthC (partsOf (hasK su_w_likeInts) (bodyOf Try.f29)) 0
theorem ew_likeInts_l4 {R : Type} (K : Nat) (k : Nat) (x : den lv_w_likeInts_L4.ty) (kx : Nat → St → Option R) (kr : St → Option R) : gw_likeInts_l4 K (k + 1) x kx kr = evC (cf_w_likeInts K) (en_w_likeInts K k) c_w_likeInts_L4 (mkSt lv_w_likeInts_L4 x) (fun s => mkLoop lv_w_likeInts_L4 (gw_likeInts_l4 K k) s kx kr) kx kr := by kernel_rfl
theorem sw_likeInts_l4 {R : Type} (K : Nat) (C : Cx) (hP : C.P = Try.prog) (O : CfgOk C (cf_w_likeInts K)) (k : Nat) : LpS C (R := R) (mkLoop lv_w_likeInts_L4 (gw_likeInts_l4 K k)) c_w_likeInts_L4 :=
  loop_sound O (by rw [hP]; kernel_rfl) (fun x kx kr => rfl) (ew_likeInts_l4 K) (fun k => lpOk_of (en := en_w_likeInts K k) (S := hasK su_w_likeInts) (fun i => hasK_lk (sg_w_likeInts K k) i) _ (by rw [show partsOf (hasK su_w_likeInts) c_w_likeInts_L4 = [] from by kernel_rfl]; exact trivial)) k
theorem e_w_likeInts (K : Nat) (x : den as_w_likeInts) : w_likeInts K x = evFn (cf_w_likeInts K) as_w_likeInts [false, false] .bool (en_w_likeInts K K) Try.f29.results.toList (bodyOf Try.f29) x := by kernel_rfl
theorem ok_w_likeInts (K : Nat) : FnOk Try.prog 29 (sp_w_likeInts (w_likeInts K)) :=
  fn_ok (cf := cf_w_likeInts K) (en := en_w_likeInts K K) (c := bodyOf Try.f29) Try.func29 (by kernel_rfl) (by kernel_rfl) tysOk (fns_ok (l := []) trivial) (shs_ok (l := []) trivial) (by kernel_rfl) rfl (Nat.le_of_ble_eq_true (by kernel_rfl)) (by kernel_rfl) (of_decide_eq_true (by kernel_rfl)) (by decide) (fun C hP O => lpOk_of (en := en_w_likeInts K K) (S := hasK su_w_likeInts) (fun i => hasK_lk (sg_w_likeInts K K) i) _ (by rw [show partsOf (hasK su_w_likeInts) (bodyOf Try.f29) = [(true, c_w_likeInts_L4)] from by kernel_rfl]; exact (lpL_loop (f := mkLoop lv_w_likeInts_L4 (gw_likeInts_l4 K K)) (by kernel_rfl) (sw_likeInts_l4 K C hP O K) trivial))) (fun x y h => by rw [← e_w_likeInts]; exact h)
noncomputable def as_w_instances5 : Ty := (.pair (.st (.pair (.int .i64) (.pair (.sl (.st (.pair (.st (.pair (.int .i64) (.pair (.int .i64) .unit))) (.pair (.sl (.int .i64)) .unit)))) .unit))) (.pair (.st (.pair (.int .i64) (.pair (.sl (.st (.pair (.st (.pair (.int .i64) (.pair (.int .i64) .unit))) (.pair (.sl (.int .i64)) .unit)))) .unit))) .unit))
noncomputable def sp_w_instances5 (F : ((Int × (List ((Int × Int × Unit) × (List Int) × Unit)) × Unit) × (Int × (List ((Int × Int × Unit) × (List Int) × Unit)) × Unit) × Unit) → Option Bool) : FnSpec := ⟨as_w_instances5, [false, false], .bool, F⟩
noncomputable def w_instances5_l4 {R : Type} (K : Nat) : Nat → (Int × (List ((Int × Int × Unit) × (List Int) × Unit)) × Unit) → (Int × (List ((Int × Int × Unit) × (List Int) × Unit)) × Unit) → Int → (Option R) → (Bool → Option R) → Option R
  | 0, _, _, _, _, _ => none
  | k + 1, v2, v3, v5, kx0, kr =>
    (if (decide (v5 < (v2.2.1.length : Int))) = true then
    (if (bnds v5 (v2.2.1.length : Int)) = true then
    let x2 := (v2.2.1.getD v5.toNat (((0 : Int), (0 : Int), ()), ([] : List Int), ()))
    (if (bnds v5 (v3.2.1.length : Int)) = true then
    let x3 := (v3.2.1.getD v5.toNat (((0 : Int), (0 : Int), ()), ([] : List Int), ()))
    let x4 := (!(eqD (.pair (.int .i64) (.pair (.int .i64) .unit)) x2.1 x3.1))
    (if x4 = true then
    kr false
    else
    (if (bnds v5 (v2.2.1.length : Int)) = true then
    let x5 := (v2.2.1.getD v5.toNat (((0 : Int), (0 : Int), ()), ([] : List Int), ()))
    (if (bnds v5 (v3.2.1.length : Int)) = true then
    let x6 := (v3.2.1.getD v5.toNat (((0 : Int), (0 : Int), ()), ([] : List Int), ()))
    (w_likeInts K (x5.2.1, x6.2.1, ())).bind fun y7 =>
    (if (!y7) = true then
    kr false
    else
    w_instances5_l4 K k v2 v3 (IntKind.i64.wrap (v5 + (1 : Int))) kx0 kr)
    else
    none)
    else
    none))
    else
    none)
    else
    none)
    else
    kx0)
noncomputable def w_instances5_j3 {R : Type} (K : Nat) (k : Nat) (v2 : (Int × (List ((Int × Int × Unit) × (List Int) × Unit)) × Unit)) (v3 : (Int × (List ((Int × Int × Unit) × (List Int) × Unit)) × Unit)) (kn : Option R) (kr : (Bool → Option R)) : Option R :=
    w_instances5_l4 K k v2 v3 (0 : Int) (kr true) (fun z8 =>
    kr z8)
noncomputable def w_instances5 (K : Nat) (x : ((Int × (List ((Int × Int × Unit) × (List Int) × Unit)) × Unit) × (Int × (List ((Int × Int × Unit) × (List Int) × Unit)) × Unit) × Unit)) : Option Bool :=
    (if (!decide (x.1.1 = x.2.1.1)) = true then
    some false
    else
    let x1 := (!decide ((x.1.2.1.length : Int) = (x.2.1.2.1.length : Int)))
    (if x1 = true then
    some false
    else
    w_instances5_j3 K K x.1 x.2.1 none (fun z9 =>
    some z9)))
noncomputable def lv_w_instances5_J3 : Lv := [(2, (.bx (.v (.st (.pair (.int .i64) (.pair (.sl (.st (.pair (.st (.pair (.int .i64) (.pair (.int .i64) .unit))) (.pair (.sl (.int .i64)) .unit)))) .unit)))))), (3, (.bx (.v (.st (.pair (.int .i64) (.pair (.sl (.st (.pair (.st (.pair (.int .i64) (.pair (.int .i64) .unit))) (.pair (.sl (.int .i64)) .unit)))) .unit))))))]
noncomputable def lv_w_instances5_L4 : Lv := [(2, (.bx (.v (.st (.pair (.int .i64) (.pair (.sl (.st (.pair (.st (.pair (.int .i64) (.pair (.int .i64) .unit))) (.pair (.sl (.int .i64)) .unit)))) .unit)))))), (3, (.bx (.v (.st (.pair (.int .i64) (.pair (.sl (.st (.pair (.st (.pair (.int .i64) (.pair (.int .i64) .unit))) (.pair (.sl (.int .i64)) .unit)))) .unit)))))), (5, (.v (.int .i64)))]
noncomputable def lv_w_instances5_N3 : Lv := []
noncomputable def lv_w_instances5_X0 : Lv := []
noncomputable def rv_w_instances5 : Lv := [(4, (.v .bool))]
noncomputable def gw_instances5_l4 {R : Type} (K : Nat) (k : Nat) (x : den lv_w_instances5_L4.ty) (kx : Nat → St → Option R) (kr : St → Option R) : Option R := w_instances5_l4 K k x.1 x.2.1 x.2.2.1 (kx 0 (mkSt lv_w_instances5_X0 ())) (fun z0 => kr (mkSt rv_w_instances5 (z0, ())))
noncomputable def gw_instances5_j3 {R : Type} (K : Nat) (k : Nat) (x : den lv_w_instances5_J3.ty) (kn : den lv_w_instances5_N3.ty → Option R) (kx : Nat → St → Option R) (kr : St → Option R) : Option R := w_instances5_j3 K k x.1 x.2.1 (kn ()) (fun z0 => kr (mkSt rv_w_instances5 (z0, ())))
noncomputable def sg_w_instances5 {R : Type} (K : Nat) (k : Nat) : List (Nat × SegS R) := [(3, mkSeg lv_w_instances5_J3 lv_w_instances5_N3 (gw_instances5_j3 K k))]
noncomputable def su_w_instances5 : List (Nat × Unit) := [(3, ())]
noncomputable def en_w_instances5 {R : Type} (K : Nat) (k : Nat) : Env R := { L := lk [(4, mkLoop lv_w_instances5_L4 (gw_instances5_l4 K k))], X := lk [(0, lv_w_instances5_X0)], S := lk (sg_w_instances5 K k), rv := rv_w_instances5 }
noncomputable def cf_w_instances5 (K : Nat) : Cfg := { ty := lk tys, fn := lk [(29, sp_w_likeInts (w_likeInts K))], fs := lk [], prot := 0, nt := Try.f34.ntmps }
noncomputable def c_w_instances5_J3 : Code := nthC (partsOf (hasK su_w_instances5) (bodyOf Try.f34)) 0
noncomputable def c_w_instances5_L4 : Code := nthC (partsOf (hasK su_w_instances5) c_w_instances5_J3) 0
theorem ew_instances5_l4 {R : Type} (K : Nat) (k : Nat) (x : den lv_w_instances5_L4.ty) (kx : Nat → St → Option R) (kr : St → Option R) : gw_instances5_l4 K (k + 1) x kx kr = evC (cf_w_instances5 K) (en_w_instances5 K k) c_w_instances5_L4 (mkSt lv_w_instances5_L4 x) (fun s => mkLoop lv_w_instances5_L4 (gw_instances5_l4 K k) s kx kr) kx kr := by kernel_rfl
theorem sw_instances5_l4 {R : Type} (K : Nat) (C : Cx) (hP : C.P = Try.prog) (O : CfgOk C (cf_w_instances5 K)) (k : Nat) : LpS C (R := R) (mkLoop lv_w_instances5_L4 (gw_instances5_l4 K k)) c_w_instances5_L4 :=
  loop_sound O (by rw [hP]; kernel_rfl) (fun x kx kr => rfl) (ew_instances5_l4 K) (fun k => lpOk_of (en := en_w_instances5 K k) (S := hasK su_w_instances5) (fun i => hasK_lk (sg_w_instances5 K k) i) _ (by rw [show partsOf (hasK su_w_instances5) c_w_instances5_L4 = [] from by kernel_rfl]; exact trivial)) k
theorem ew_instances5_j3 {R : Type} (K : Nat) (k : Nat) (x : den lv_w_instances5_J3.ty) (kn : den lv_w_instances5_N3.ty → Option R) (kx : Nat → St → Option R) (kr : St → Option R) : gw_instances5_j3 K k x kn kx kr = evC (cf_w_instances5 K) (en_w_instances5 K k) c_w_instances5_J3 (mkSt lv_w_instances5_J3 x) (cutK lv_w_instances5_N3 kn) kx kr := by kernel_rfl
theorem sw_instances5_j3 {R : Type} (K : Nat) (C : Cx) (hP : C.P = Try.prog) (O : CfgOk C (cf_w_instances5 K)) (k : Nat) : SgS C (R := R) (mkSeg lv_w_instances5_J3 lv_w_instances5_N3 (gw_instances5_j3 K k)) c_w_instances5_J3 :=
  seg_sound O (by rw [hP]; kernel_rfl) (ew_instances5_j3 K k) (lpOk_of (en := en_w_instances5 K k) (S := hasK su_w_instances5) (fun i => hasK_lk (sg_w_instances5 K k) i) _ (by rw [show partsOf (hasK su_w_instances5) c_w_instances5_J3 = [(true, c_w_instances5_L4)] from by kernel_rfl]; exact (lpL_loop (f := mkLoop lv_w_instances5_L4 (gw_instances5_l4 K k)) (by kernel_rfl) (sw_instances5_l4 K C hP O k) trivial)))
theorem e_w_instances5 (K : Nat) (x : den as_w_instances5) : w_instances5 K x = evFn (cf_w_instances5 K) as_w_instances5 [false, false] .bool (en_w_instances5 K K) Try.f34.results.toList (bodyOf Try.f34) x := by kernel_rfl
theorem ok_w_instances5 (K : Nat) : FnOk Try.prog 34 (sp_w_instances5 (w_instances5 K)) :=
  fn_ok (cf := cf_w_instances5 K) (en := en_w_instances5 K K) (c := bodyOf Try.f34) Try.func34 (by kernel_rfl) (by kernel_rfl) tysOk (fns_ok (l := [(29, sp_w_likeInts (w_likeInts K))]) ⟨ok_w_likeInts K, trivial⟩) (shs_ok (l := []) trivial) (by kernel_rfl) rfl (Nat.le_of_ble_eq_true (by kernel_rfl)) (by kernel_rfl) (of_decide_eq_true (by kernel_rfl)) (by decide) (fun C hP O => lpOk_of (en := en_w_instances5 K K) (S := hasK su_w_instances5) (fun i => hasK_lk (sg_w_instances5 K K) i) _ (by rw [show partsOf (hasK su_w_instances5) (bodyOf Try.f34) = [(false, c_w_instances5_J3)] from by kernel_rfl]; exact (lpL_seg (f := mkSeg lv_w_instances5_J3 lv_w_instances5_N3 (gw_instances5_j3 K K)) (by kernel_rfl) (sw_instances5_j3 K C hP O K) trivial))) (fun x y h => by rw [← e_w_instances5]; exact h)
noncomputable def as_w_sum : Ty := (.pair (.sl (.int .i64)) .unit)
noncomputable def sp_w_sum (F : ((List Int) × Unit) → Option Int) : FnSpec := ⟨as_w_sum, [false], (.int .i64), F⟩
noncomputable def w_sum_l3 {R : Type} (K : Nat) : Nat → (List Int) → Int → Int → (Int → Option R) → Option R
  | 0, _, _, _, _ => none
  | k + 1, v0, v3, v4, kx0 =>
    (if (decide (v4 < (v0.length : Int))) = true then
    (if (bnds v4 (v0.length : Int)) = true then
    w_sum_l3 K k v0 (IntKind.i64.wrap (v3 + (v0.getD v4.toNat (0 : Int)))) (IntKind.i64.wrap (v4 + (1 : Int))) kx0
    else
    none)
    else
    kx0 v3)
noncomputable def w_sum (K : Nat) (x : ((List Int) × Unit)) : Option Int :=
    w_sum_l3 K K x.1 (0 : Int) (0 : Int) (fun z1 =>
    some z1)
noncomputable def lv_w_sum_L3 : Lv := [(0, (.v (.sl (.int .i64)))), (3, (.v (.int .i64))), (4, (.v (.int .i64)))]
noncomputable def lv_w_sum_X0 : Lv := [(3, (.v (.int .i64)))]
noncomputable def rv_w_sum : Lv := [(2, (.v (.int .i64)))]
noncomputable def gw_sum_l3 {R : Type} (K : Nat) (k : Nat) (x : den lv_w_sum_L3.ty) (kx : Nat → St → Option R) (kr : St → Option R) : Option R := w_sum_l3 K k x.1 x.2.1 x.2.2.1 (fun z0 => kx 0 (mkSt lv_w_sum_X0 (z0, ())))
noncomputable def sg_w_sum {R : Type} (K : Nat) (k : Nat) : List (Nat × SegS R) := []
noncomputable def su_w_sum : List (Nat × Unit) := []
noncomputable def en_w_sum {R : Type} (K : Nat) (k : Nat) : Env R := { L := lk [(3, mkLoop lv_w_sum_L3 (gw_sum_l3 K k))], X := lk [(0, lv_w_sum_X0)], S := lk (sg_w_sum K k), rv := rv_w_sum }
noncomputable def cf_w_sum (K : Nat) : Cfg := { ty := lk tys, fn := lk [], fs := lk [], prot := 0, nt := Try.f42.ntmps }
noncomputable def c_w_sum_L3 : Code := nthC (partsOf (hasK su_w_sum) (bodyOf Try.f42)) 0
theorem ew_sum_l3 {R : Type} (K : Nat) (k : Nat) (x : den lv_w_sum_L3.ty) (kx : Nat → St → Option R) (kr : St → Option R) : gw_sum_l3 K (k + 1) x kx kr = evC (cf_w_sum K) (en_w_sum K k) c_w_sum_L3 (mkSt lv_w_sum_L3 x) (fun s => mkLoop lv_w_sum_L3 (gw_sum_l3 K k) s kx kr) kx kr := by kernel_rfl
theorem sw_sum_l3 {R : Type} (K : Nat) (C : Cx) (hP : C.P = Try.prog) (O : CfgOk C (cf_w_sum K)) (k : Nat) : LpS C (R := R) (mkLoop lv_w_sum_L3 (gw_sum_l3 K k)) c_w_sum_L3 :=
  loop_sound O (by rw [hP]; kernel_rfl) (fun x kx kr => rfl) (ew_sum_l3 K) (fun k => lpOk_of (en := en_w_sum K k) (S := hasK su_w_sum) (fun i => hasK_lk (sg_w_sum K k) i) _ (by rw [show partsOf (hasK su_w_sum) c_w_sum_L3 = [] from by kernel_rfl]; exact trivial)) k
theorem e_w_sum (K : Nat) (x : den as_w_sum) : w_sum K x = evFn (cf_w_sum K) as_w_sum [false] (.int .i64) (en_w_sum K K) Try.f42.results.toList (bodyOf Try.f42) x := by kernel_rfl
theorem ok_w_sum (K : Nat) : FnOk Try.prog 42 (sp_w_sum (w_sum K)) :=
  fn_ok (cf := cf_w_sum K) (en := en_w_sum K K) (c := bodyOf Try.f42) Try.func42 (by kernel_rfl) (by kernel_rfl) tysOk (fns_ok (l := []) trivial) (shs_ok (l := []) trivial) (by kernel_rfl) rfl (Nat.le_of_ble_eq_true (by kernel_rfl)) (by kernel_rfl) (of_decide_eq_true (by kernel_rfl)) (by decide) (fun C hP O => lpOk_of (en := en_w_sum K K) (S := hasK su_w_sum) (fun i => hasK_lk (sg_w_sum K K) i) _ (by rw [show partsOf (hasK su_w_sum) (bodyOf Try.f42) = [(true, c_w_sum_L3)] from by kernel_rfl]; exact (lpL_loop (f := mkLoop lv_w_sum_L3 (gw_sum_l3 K K)) (by kernel_rfl) (sw_sum_l3 K C hP O K) trivial))) (fun x y h => by rw [← e_w_sum]; exact h)
noncomputable def as_w_FnDomains : Ty := (.pair (.sl (.int .u8)) .unit)
noncomputable def sp_w_FnDomains (F : ((List Int) × Unit) → Option Bool) : FnSpec := ⟨as_w_FnDomains, [false], .bool, F⟩
noncomputable def w_FnDomains_j21 {R : Type} (K : Nat) (k : Nat) (v0 : (List Int)) (v3 : (Int × (List ((Int × Int × Unit) × (List Int) × Unit)) × Unit)) (v4 : (List Int)) (v5 : (List Int)) (v6 : Int) (v9 : (List Int)) (v11 : Int) (v12 : Bool) (v13 : Bool) (v14 : Int) (v15 : Int) (kn : (List Int) → (Int × (List ((Int × Int × Unit) × (List Int) × Unit)) × Unit) → (List Int) → (List Int) → Int → (List Int) → Int → Bool → Bool → Int → Option R)  : Option R :=
    (if v13 = true then
    (if (decide (v6 = (0 : Int))) = true then
    (if (bnds v14 (v5.length : Int)) = true then
    (if (decide ((v5.getD v14.toNat (0 : Int)) = (2 : Int))) = true then
    kn v0 v3 v4 v5 v6 v9 v11 v12 true v14
    else
    (if (bnds v14 (v5.length : Int)) = true then
    kn v0 v3 v4 v5 v6 v9 v11 v12 (decide ((v5.getD v14.toNat (0 : Int)) = v15)) v14
    else
    none))
    else
    none)
    else
    kn v0 v3 v4 v5 v6 v9 v11 v12 false v14)
    else
    kn v0 v3 v4 v5 v6 v9 v11 v12 false v14)
noncomputable def w_FnDomains_j18 {R : Type} (K : Nat) (k : Nat) (v0 : (List Int)) (v3 : (Int × (List ((Int × Int × Unit) × (List Int) × Unit)) × Unit)) (v4 : (List Int)) (v5 : (List Int)) (v6 : Int) (v9 : (List Int)) (v11 : Int) (v12 : Bool) (v13 : Bool) (v14 : Int) (kn : (List Int) → (Int × (List ((Int × Int × Unit) × (List Int) × Unit)) × Unit) → (List Int) → (List Int) → Int → (List Int) → Int → Bool → Bool → Int → Option R)  : Option R :=
    kn v0 v3 v4 v5 v6 v9 v11 v12 v13 (IntKind.i64.wrap (v14 + (1 : Int)))
noncomputable def w_FnDomains_l17 {R : Type} (K : Nat) : Nat → (List Int) → (Int × (List ((Int × Int × Unit) × (List Int) × Unit)) × Unit) → (List Int) → (List Int) → Int → (List Int) → Int → Bool → Bool → Int → ((List Int) → (Int × (List ((Int × Int × Unit) × (List Int) × Unit)) × Unit) → (List Int) → (List Int) → Int → (List Int) → Int → Bool → Bool → Option R) → Option R
  | 0, _, _, _, _, _, _, _, _, _, _, _ => none
  | k + 1, v0, v3, v4, v5, v6, v9, v11, v12, v13, v14, kx2 =>
    (if (decide (v14 < (v4.length : Int))) = true then
    (if (bnds v11 (v9.length : Int)) = true then
    (if (decide ((0 : Int) ≤ (IntKind.u64.wrap v14))) = true then
    let x7 := (shrI .i64 (v9.getD v11.toNat (0 : Int)) (IntKind.u64.wrap v14))
    (if v12 = true then
    (if (bnds v14 (v4.length : Int)) = true then
    (if (decide ((v4.getD v14.toNat (0 : Int)) = (2 : Int))) = true then
    w_FnDomains_j21 K k v0 v3 v4 v5 v6 v9 v11 true v13 v14 (bitI .and .i64 x7 (1 : Int)) (fun z8 z9 z10 z11 z12 z13 z14 z15 z16 z17 =>
    w_FnDomains_j18 K k z8 z9 z10 z11 z12 z13 z14 z15 z16 z17 (fun z18 z19 z20 z21 z22 z23 z24 z25 z26 z27 =>
    w_FnDomains_l17 K k z18 z19 z20 z21 z22 z23 z24 z25 z26 z27 kx2))
    else
    (if (bnds v14 (v4.length : Int)) = true then
    let x28 := (decide ((v4.getD v14.toNat (0 : Int)) = (bitI .and .i64 x7 (1 : Int))))
    w_FnDomains_j21 K k v0 v3 v4 v5 v6 v9 v11 x28 v13 v14 (bitI .and .i64 x7 (1 : Int)) (fun z29 z30 z31 z32 z33 z34 z35 z36 z37 z38 =>
    w_FnDomains_j18 K k z29 z30 z31 z32 z33 z34 z35 z36 z37 z38 (fun z39 z40 z41 z42 z43 z44 z45 z46 z47 z48 =>
    w_FnDomains_l17 K k z39 z40 z41 z42 z43 z44 z45 z46 z47 z48 kx2))
    else
    none))
    else
    none)
    else
    w_FnDomains_j21 K k v0 v3 v4 v5 v6 v9 v11 false v13 v14 (bitI .and .i64 x7 (1 : Int)) (fun z49 z50 z51 z52 z53 z54 z55 z56 z57 z58 =>
    w_FnDomains_j18 K k z49 z50 z51 z52 z53 z54 z55 z56 z57 z58 (fun z59 z60 z61 z62 z63 z64 z65 z66 z67 z68 =>
    w_FnDomains_l17 K k z59 z60 z61 z62 z63 z64 z65 z66 z67 z68 kx2)))
    else
    none)
    else
    none)
    else
    kx2 v0 v3 v4 v5 v6 v9 v11 v12 v13)
noncomputable def w_FnDomains_l13 {R : Type} (K : Nat) : Nat → (List Int) → (Int × (List ((Int × Int × Unit) × (List Int) × Unit)) × Unit) → (List Int) → (List Int) → Int → (List Int) → Int → ((List Int) → (Int × (List ((Int × Int × Unit) × (List Int) × Unit)) × Unit) → (List Int) → Int → Option R) → (Bool → Option R) → Option R
  | 0, _, _, _, _, _, _, _, _, _ => none
  | k + 1, v0, v3, v4, v5, v6, v9, v11, kx0, kr =>
    (if (decide (v11 < (v9.length : Int))) = true then
    w_FnDomains_l17 K k v0 v3 v4 v5 v6 v9 v11 true true (0 : Int) (fun z69 z70 z71 z72 z73 z74 z75 z76 z77 =>
    (if z76 = true then
    (if (!z77) = true then
    kr false
    else
    w_FnDomains_l13 K k z69 z70 z71 z72 z73 z74 (IntKind.i64.wrap (z75 + (1 : Int))) kx0 kr)
    else
    w_FnDomains_l13 K k z69 z70 z71 z72 z73 z74 (IntKind.i64.wrap (z75 + (1 : Int))) kx0 kr))
    else
    kx0 v0 v3 v5 v6)
noncomputable def w_FnDomains_l54 {R : Type} (K : Nat) : Nat → Int → (List Int) → (List Int) → Int → Bool → Int → ((List Int) → Int → Bool → Option R) → Option R
  | 0, _, _, _, _, _, _, _ => none
  | k + 1, v39, v40, v44, v45, v46, v47, kx4 =>
    (if (decide (v47 < (v44.length : Int))) = true then
    (if v46 = true then
    w_FnDomains_l54 K k v39 v40 v44 v45 true (IntKind.i64.wrap (v47 + (1 : Int))) kx4
    else
    (if (bnds v47 (v44.length : Int)) = true then
    w_FnDomains_l54 K k v39 v40 v44 v45 (decide ((v44.getD v47.toNat (0 : Int)) = v39)) (IntKind.i64.wrap (v47 + (1 : Int))) kx4
    else
    none))
    else
    kx4 v40 v45 v46)
noncomputable def w_FnDomains_j50 {R : Type} (K : Nat) (k : Nat) (v38 : (Int × (List ((Int × Int × Unit) × (List Int) × Unit)) × Unit)) (v39 : Int) (v40 : (List Int)) (v41 : Int) (kn : Option R) (kr : (Bool → Option R)) : Option R :=
    (if (decide (v41 = (0 : Int))) = true then
    (i_SolutionsOf K (v38, ())).bind fun y100 =>
    w_FnDomains_l54 K k v39 v40 y100.1 y100.2.1 false (0 : Int) (fun z101 z102 z103 =>
    (if (!decide (z102 = (0 : Int))) = true then
    kr false
    else
    (w_sum K (z101, ())).bind fun y104 =>
    (if (!(z103 == (decide (y104 = (z101.length : Int))))) = true then
    kr false
    else
    kr true)))
    else
    kr true)
noncomputable def w_FnDomains_j45 {R : Type} (K : Nat) (k : Nat) (v0 : (List Int)) (kn : Option R) (kr : (Bool → Option R)) : Option R :=
    (s_DrawSatisfiedBy K (v0, ())).bind fun y96 =>
    (i_SatisfiedBy K (y96.1.1, y96.1.2.1, ())).bind fun y97 =>
    (s_SatisfiedBy K (y96.1.1, y96.1.2.1, ())).bind fun y98 =>
    (if (!decide (y97.2.1 = y98.2.1)) = true then
    kr false
    else
    (w_likeInts K (y97.1, y98.1, ())).bind fun y99 =>
    (if (!y99) = true then
    kr false
    else
    w_FnDomains_j50 K k y96.1.1 y96.1.2.1 y97.1 y97.2.1 none (fun z105 =>
    kr z105)))
noncomputable def w_FnDomains_j40 {R : Type} (K : Nat) (k : Nat) (v0 : (List Int)) (kn : Option R) (kr : (Bool → Option R)) : Option R :=
    (s_DrawForcedOf K (v0, ())).bind fun y92 =>
    (i_ForcedOf K (y92.1.1, ())).bind fun y93 =>
    (s_ForcedOf K (y92.1.1, ())).bind fun y94 =>
    (if (!decide (y93.2.1 = y94.2.1)) = true then
    kr false
    else
    (w_likeInts K (y93.1, y94.1, ())).bind fun y95 =>
    (if (!y95) = true then
    kr false
    else
    w_FnDomains_j45 K k v0 none (fun z106 =>
    kr z106)))
noncomputable def w_FnDomains_j33 {R : Type} (K : Nat) (k : Nat) (v0 : (List Int)) (v18 : (Int × (List ((Int × Int × Unit) × (List Int) × Unit)) × Unit)) (v19 : Int) (v20 : Int) (v21_0 : Int) (v21_1 : (List ((Int × Int × Unit) × (List Int) × Unit))) (v22 : Int) (kn : Option R) (kr : (Bool → Option R)) : Option R :=
    (if (decide (v22 = (0 : Int))) = true then
    (i_FixVar K (v18, v19, (IntKind.i64.wrap ((1 : Int) - v20)), ())).bind fun y88 =>
    (i_CountSolutions K ((v21_0, v21_1, ()), ())).bind fun y89 =>
    (i_CountSolutions K ((y88.1.1, y88.1.2.1, ()), ())).bind fun y90 =>
    (i_CountSolutions K (v18, ())).bind fun y91 =>
    (if (!decide (y88.2.1 = (0 : Int))) = true then
    kr false
    else
    (if (!decide (y89.2.1 = (0 : Int))) = true then
    kr false
    else
    (if (!decide (y90.2.1 = (0 : Int))) = true then
    kr false
    else
    (if (!decide (y91.2.1 = (0 : Int))) = true then
    kr false
    else
    (if (!decide ((IntKind.i64.wrap (y89.1 + y90.1)) = y91.1)) = true then
    kr false
    else
    w_FnDomains_j40 K k v0 none (fun z107 =>
    kr z107))))))
    else
    w_FnDomains_j40 K k v0 none (fun z108 =>
    kr z108))
noncomputable def w_FnDomains_j28 {R : Type} (K : Nat) (k : Nat) (v0 : (List Int)) (kn : Option R) (kr : (Bool → Option R)) : Option R :=
    (s_DrawFixVar K (v0, ())).bind fun y84 =>
    (i_FixVar K (y84.1.1, y84.1.2.1, y84.1.2.2.1, ())).bind fun y85 =>
    (s_FixVar K (y84.1.1, y84.1.2.1, y84.1.2.2.1, ())).bind fun y86 =>
    (if (!decide (y85.2.1 = y86.2.1)) = true then
    kr false
    else
    (w_instances5 K ((y85.1.1, y85.1.2.1, ()), (y86.1.1, y86.1.2.1, ()), ())).bind fun y87 =>
    (if (!y87) = true then
    kr false
    else
    w_FnDomains_j33 K k v0 y84.1.1 y84.1.2.1 y84.1.2.2.1 y85.1.1 y85.1.2.1 y85.2.1 none (fun z109 =>
    kr z109)))
noncomputable def w_FnDomains_j24 {R : Type} (K : Nat) (k : Nat) (v0 : (List Int)) (v3 : (Int × (List ((Int × Int × Unit) × (List Int) × Unit)) × Unit)) (v5 : (List Int)) (v6 : Int) (kn : Option R) (kr : (Bool → Option R)) : Option R :=
    (if (decide (v6 = (0 : Int))) = true then
    (i_NarrowDomains K (v3, v5, ())).bind fun y82 =>
    (if (!decide (y82.2.1 = (0 : Int))) = true then
    kr false
    else
    (w_likeInts K (y82.1, v5, ())).bind fun y83 =>
    (if (!y83) = true then
    kr false
    else
    w_FnDomains_j28 K k v0 none (fun z110 =>
    kr z110)))
    else
    w_FnDomains_j28 K k v0 none (fun z111 =>
    kr z111))
noncomputable def w_FnDomains_j8 {R : Type} (K : Nat) (k : Nat) (v0 : (List Int)) (v3 : (Int × (List ((Int × Int × Unit) × (List Int) × Unit)) × Unit)) (v4 : (List Int)) (v5 : (List Int)) (v6 : Int) (kn : Option R) (kr : (Bool → Option R)) : Option R :=
    (if (decide (v6 = (0 : Int))) = true then
    (i_SolutionsOf K (v3, ())).bind fun y6 =>
    (if (!decide (y6.2.1 = (0 : Int))) = true then
    kr false
    else
    w_FnDomains_l13 K k v0 v3 v4 v5 v6 y6.1 (0 : Int) (fun z78 z79 z80 z81 =>
    w_FnDomains_j24 K k z78 z79 z80 z81 none (fun z112 =>
    kr z112)) (fun z113 =>
    kr z113))
    else
    (if (decide (v6 = (4 : Int))) = true then
    (i_SolutionsOf K (v3, ())).bind fun y114 =>
    (if (!decide (y114.2.1 = (0 : Int))) = true then
    kr false
    else
    w_FnDomains_l13 K k v0 v3 v4 v5 v6 y114.1 (0 : Int) (fun z115 z116 z117 z118 =>
    w_FnDomains_j24 K k z115 z116 z117 z118 none (fun z119 =>
    kr z119)) (fun z120 =>
    kr z120))
    else
    w_FnDomains_j24 K k v0 v3 v5 v6 none (fun z121 =>
    kr z121)))
noncomputable def w_FnDomains (K : Nat) (x : ((List Int) × Unit)) : Option Bool :=
    (w_big K (x.1, ())).bind fun y1 =>
    (if y1 = true then
    some true
    else
    (s_DrawNarrowDomains K (x.1, ())).bind fun y2 =>
    (i_NarrowDomains K (y2.1.1, y2.1.2.1, ())).bind fun y3 =>
    (s_NarrowDomains K (y2.1.1, y2.1.2.1, ())).bind fun y4 =>
    (if (!decide (y3.2.1 = y4.2.1)) = true then
    some false
    else
    (w_likeInts K (y3.1, y4.1, ())).bind fun y5 =>
    (if (!y5) = true then
    some false
    else
    w_FnDomains_j8 K K x.1 y2.1.1 y2.1.2.1 y3.1 y3.2.1 none (fun z122 =>
    some z122))))
noncomputable def lv_w_FnDomains_J8 : Lv := [(0, (.v (.sl (.int .u8)))), (3, (.bx (.v (.st (.pair (.int .i64) (.pair (.sl (.st (.pair (.st (.pair (.int .i64) (.pair (.int .i64) .unit))) (.pair (.sl (.int .i64)) .unit)))) .unit)))))), (4, (.r (.int .i64))), (5, (.r (.int .i64))), (6, (.v (.int .i64)))]
noncomputable def lv_w_FnDomains_J18 : Lv := [(0, (.v (.sl (.int .u8)))), (3, (.bx (.v (.st (.pair (.int .i64) (.pair (.sl (.st (.pair (.st (.pair (.int .i64) (.pair (.int .i64) .unit))) (.pair (.sl (.int .i64)) .unit)))) .unit)))))), (4, (.r (.int .i64))), (5, (.r (.int .i64))), (6, (.v (.int .i64))), (9, (.r (.int .i64))), (11, (.v (.int .i64))), (12, (.v .bool)), (13, (.v .bool)), (14, (.v (.int .i64)))]
noncomputable def lv_w_FnDomains_J21 : Lv := [(0, (.v (.sl (.int .u8)))), (3, (.bx (.v (.st (.pair (.int .i64) (.pair (.sl (.st (.pair (.st (.pair (.int .i64) (.pair (.int .i64) .unit))) (.pair (.sl (.int .i64)) .unit)))) .unit)))))), (4, (.r (.int .i64))), (5, (.r (.int .i64))), (6, (.v (.int .i64))), (9, (.r (.int .i64))), (11, (.v (.int .i64))), (12, (.v .bool)), (13, (.v .bool)), (14, (.v (.int .i64))), (15, (.v (.int .i64)))]
noncomputable def lv_w_FnDomains_J24 : Lv := [(0, (.v (.sl (.int .u8)))), (3, (.bx (.v (.st (.pair (.int .i64) (.pair (.sl (.st (.pair (.st (.pair (.int .i64) (.pair (.int .i64) .unit))) (.pair (.sl (.int .i64)) .unit)))) .unit)))))), (5, (.r (.int .i64))), (6, (.v (.int .i64)))]
noncomputable def lv_w_FnDomains_J28 : Lv := [(0, (.v (.sl (.int .u8))))]
noncomputable def lv_w_FnDomains_J33 : Lv := [(0, (.v (.sl (.int .u8)))), (18, (.bx (.v (.st (.pair (.int .i64) (.pair (.sl (.st (.pair (.st (.pair (.int .i64) (.pair (.int .i64) .unit))) (.pair (.sl (.int .i64)) .unit)))) .unit)))))), (19, (.v (.int .i64))), (20, (.v (.int .i64))), (21, (.bx (.st (.pair (.v (.int .i64)) (.pair (.r (.st (.pair (.st (.pair (.int .i64) (.pair (.int .i64) .unit))) (.pair (.sl (.int .i64)) .unit)))) .unit))))), (22, (.v (.int .i64)))]
noncomputable def lv_w_FnDomains_J40 : Lv := [(0, (.v (.sl (.int .u8))))]
noncomputable def lv_w_FnDomains_J45 : Lv := [(0, (.v (.sl (.int .u8))))]
noncomputable def lv_w_FnDomains_J50 : Lv := [(38, (.bx (.v (.st (.pair (.int .i64) (.pair (.sl (.st (.pair (.st (.pair (.int .i64) (.pair (.int .i64) .unit))) (.pair (.sl (.int .i64)) .unit)))) .unit)))))), (39, (.v (.int .i64))), (40, (.r (.int .i64))), (41, (.v (.int .i64)))]
noncomputable def lv_w_FnDomains_L13 : Lv := [(0, (.v (.sl (.int .u8)))), (3, (.bx (.v (.st (.pair (.int .i64) (.pair (.sl (.st (.pair (.st (.pair (.int .i64) (.pair (.int .i64) .unit))) (.pair (.sl (.int .i64)) .unit)))) .unit)))))), (4, (.r (.int .i64))), (5, (.r (.int .i64))), (6, (.v (.int .i64))), (9, (.r (.int .i64))), (11, (.v (.int .i64)))]
noncomputable def lv_w_FnDomains_L17 : Lv := [(0, (.v (.sl (.int .u8)))), (3, (.bx (.v (.st (.pair (.int .i64) (.pair (.sl (.st (.pair (.st (.pair (.int .i64) (.pair (.int .i64) .unit))) (.pair (.sl (.int .i64)) .unit)))) .unit)))))), (4, (.r (.int .i64))), (5, (.r (.int .i64))), (6, (.v (.int .i64))), (9, (.r (.int .i64))), (11, (.v (.int .i64))), (12, (.v .bool)), (13, (.v .bool)), (14, (.v (.int .i64)))]
noncomputable def lv_w_FnDomains_L54 : Lv := [(39, (.v (.int .i64))), (40, (.r (.int .i64))), (44, (.r (.int .i64))), (45, (.v (.int .i64))), (46, (.v .bool)), (47, (.v (.int .i64)))]
noncomputable def lv_w_FnDomains_N8 : Lv := []
noncomputable def lv_w_FnDomains_N18 : Lv := [(0, (.v (.sl (.int .u8)))), (3, (.bx (.v (.st (.pair (.int .i64) (.pair (.sl (.st (.pair (.st (.pair (.int .i64) (.pair (.int .i64) .unit))) (.pair (.sl (.int .i64)) .unit)))) .unit)))))), (4, (.r (.int .i64))), (5, (.r (.int .i64))), (6, (.v (.int .i64))), (9, (.r (.int .i64))), (11, (.v (.int .i64))), (12, (.v .bool)), (13, (.v .bool)), (14, (.v (.int .i64)))]
noncomputable def lv_w_FnDomains_N21 : Lv := [(0, (.v (.sl (.int .u8)))), (3, (.bx (.v (.st (.pair (.int .i64) (.pair (.sl (.st (.pair (.st (.pair (.int .i64) (.pair (.int .i64) .unit))) (.pair (.sl (.int .i64)) .unit)))) .unit)))))), (4, (.r (.int .i64))), (5, (.r (.int .i64))), (6, (.v (.int .i64))), (9, (.r (.int .i64))), (11, (.v (.int .i64))), (12, (.v .bool)), (13, (.v .bool)), (14, (.v (.int .i64)))]
noncomputable def lv_w_FnDomains_N24 : Lv := []
noncomputable def lv_w_FnDomains_N28 : Lv := []
noncomputable def lv_w_FnDomains_N33 : Lv := []
noncomputable def lv_w_FnDomains_N40 : Lv := []
noncomputable def lv_w_FnDomains_N45 : Lv := []
noncomputable def lv_w_FnDomains_N50 : Lv := []
noncomputable def lv_w_FnDomains_X0 : Lv := [(0, (.v (.sl (.int .u8)))), (3, (.bx (.v (.st (.pair (.int .i64) (.pair (.sl (.st (.pair (.st (.pair (.int .i64) (.pair (.int .i64) .unit))) (.pair (.sl (.int .i64)) .unit)))) .unit)))))), (5, (.r (.int .i64))), (6, (.v (.int .i64)))]
noncomputable def lv_w_FnDomains_X2 : Lv := [(0, (.v (.sl (.int .u8)))), (3, (.bx (.v (.st (.pair (.int .i64) (.pair (.sl (.st (.pair (.st (.pair (.int .i64) (.pair (.int .i64) .unit))) (.pair (.sl (.int .i64)) .unit)))) .unit)))))), (4, (.r (.int .i64))), (5, (.r (.int .i64))), (6, (.v (.int .i64))), (9, (.r (.int .i64))), (11, (.v (.int .i64))), (12, (.v .bool)), (13, (.v .bool))]
noncomputable def lv_w_FnDomains_X4 : Lv := [(40, (.r (.int .i64))), (45, (.v (.int .i64))), (46, (.v .bool))]
noncomputable def rv_w_FnDomains : Lv := [(2, (.v .bool))]
noncomputable def gw_FnDomains_j21 {R : Type} (K : Nat) (k : Nat) (x : den lv_w_FnDomains_J21.ty) (kn : den lv_w_FnDomains_N21.ty → Option R) (kx : Nat → St → Option R) (kr : St → Option R) : Option R := w_FnDomains_j21 K k x.1 x.2.1 x.2.2.1 x.2.2.2.1 x.2.2.2.2.1 x.2.2.2.2.2.1 x.2.2.2.2.2.2.1 x.2.2.2.2.2.2.2.1 x.2.2.2.2.2.2.2.2.1 x.2.2.2.2.2.2.2.2.2.1 x.2.2.2.2.2.2.2.2.2.2.1 (fun z0 z1 z2 z3 z4 z5 z6 z7 z8 z9 => kn (z0, z1, z2, z3, z4, z5, z6, z7, z8, z9, ()))
noncomputable def gw_FnDomains_j18 {R : Type} (K : Nat) (k : Nat) (x : den lv_w_FnDomains_J18.ty) (kn : den lv_w_FnDomains_N18.ty → Option R) (kx : Nat → St → Option R) (kr : St → Option R) : Option R := w_FnDomains_j18 K k x.1 x.2.1 x.2.2.1 x.2.2.2.1 x.2.2.2.2.1 x.2.2.2.2.2.1 x.2.2.2.2.2.2.1 x.2.2.2.2.2.2.2.1 x.2.2.2.2.2.2.2.2.1 x.2.2.2.2.2.2.2.2.2.1 (fun z0 z1 z2 z3 z4 z5 z6 z7 z8 z9 => kn (z0, z1, z2, z3, z4, z5, z6, z7, z8, z9, ()))
noncomputable def gw_FnDomains_l17 {R : Type} (K : Nat) (k : Nat) (x : den lv_w_FnDomains_L17.ty) (kx : Nat → St → Option R) (kr : St → Option R) : Option R := w_FnDomains_l17 K k x.1 x.2.1 x.2.2.1 x.2.2.2.1 x.2.2.2.2.1 x.2.2.2.2.2.1 x.2.2.2.2.2.2.1 x.2.2.2.2.2.2.2.1 x.2.2.2.2.2.2.2.2.1 x.2.2.2.2.2.2.2.2.2.1 (fun z0 z1 z2 z3 z4 z5 z6 z7 z8 => kx 2 (mkSt lv_w_FnDomains_X2 (z0, z1, z2, z3, z4, z5, z6, z7, z8, ())))
noncomputable def gw_FnDomains_l13 {R : Type} (K : Nat) (k : Nat) (x : den lv_w_FnDomains_L13.ty) (kx : Nat → St → Option R) (kr : St → Option R) : Option R := w_FnDomains_l13 K k x.1 x.2.1 x.2.2.1 x.2.2.2.1 x.2.2.2.2.1 x.2.2.2.2.2.1 x.2.2.2.2.2.2.1 (fun z0 z1 z2 z3 => kx 0 (mkSt lv_w_FnDomains_X0 (z0, z1, z2, z3, ()))) (fun z0 => kr (mkSt rv_w_FnDomains (z0, ())))
noncomputable def gw_FnDomains_l54 {R : Type} (K : Nat) (k : Nat) (x : den lv_w_FnDomains_L54.ty) (kx : Nat → St → Option R) (kr : St → Option R) : Option R := w_FnDomains_l54 K k x.1 x.2.1 x.2.2.1 x.2.2.2.1 x.2.2.2.2.1 x.2.2.2.2.2.1 (fun z0 z1 z2 => kx 4 (mkSt lv_w_FnDomains_X4 (z0, z1, z2, ())))
noncomputable def gw_FnDomains_j50 {R : Type} (K : Nat) (k : Nat) (x : den lv_w_FnDomains_J50.ty) (kn : den lv_w_FnDomains_N50.ty → Option R) (kx : Nat → St → Option R) (kr : St → Option R) : Option R := w_FnDomains_j50 K k x.1 x.2.1 x.2.2.1 x.2.2.2.1 (kn ()) (fun z0 => kr (mkSt rv_w_FnDomains (z0, ())))
noncomputable def gw_FnDomains_j45 {R : Type} (K : Nat) (k : Nat) (x : den lv_w_FnDomains_J45.ty) (kn : den lv_w_FnDomains_N45.ty → Option R) (kx : Nat → St → Option R) (kr : St → Option R) : Option R := w_FnDomains_j45 K k x.1 (kn ()) (fun z0 => kr (mkSt rv_w_FnDomains (z0, ())))
noncomputable def gw_FnDomains_j40 {R : Type} (K : Nat) (k : Nat) (x : den lv_w_FnDomains_J40.ty) (kn : den lv_w_FnDomains_N40.ty → Option R) (kx : Nat → St → Option R) (kr : St → Option R) : Option R := w_FnDomains_j40 K k x.1 (kn ()) (fun z0 => kr (mkSt rv_w_FnDomains (z0, ())))
noncomputable def gw_FnDomains_j33 {R : Type} (K : Nat) (k : Nat) (x : den lv_w_FnDomains_J33.ty) (kn : den lv_w_FnDomains_N33.ty → Option R) (kx : Nat → St → Option R) (kr : St → Option R) : Option R := w_FnDomains_j33 K k x.1 x.2.1 x.2.2.1 x.2.2.2.1 x.2.2.2.2.1.1 x.2.2.2.2.1.2.1 x.2.2.2.2.2.1 (kn ()) (fun z0 => kr (mkSt rv_w_FnDomains (z0, ())))
noncomputable def gw_FnDomains_j28 {R : Type} (K : Nat) (k : Nat) (x : den lv_w_FnDomains_J28.ty) (kn : den lv_w_FnDomains_N28.ty → Option R) (kx : Nat → St → Option R) (kr : St → Option R) : Option R := w_FnDomains_j28 K k x.1 (kn ()) (fun z0 => kr (mkSt rv_w_FnDomains (z0, ())))
noncomputable def gw_FnDomains_j24 {R : Type} (K : Nat) (k : Nat) (x : den lv_w_FnDomains_J24.ty) (kn : den lv_w_FnDomains_N24.ty → Option R) (kx : Nat → St → Option R) (kr : St → Option R) : Option R := w_FnDomains_j24 K k x.1 x.2.1 x.2.2.1 x.2.2.2.1 (kn ()) (fun z0 => kr (mkSt rv_w_FnDomains (z0, ())))
noncomputable def gw_FnDomains_j8 {R : Type} (K : Nat) (k : Nat) (x : den lv_w_FnDomains_J8.ty) (kn : den lv_w_FnDomains_N8.ty → Option R) (kx : Nat → St → Option R) (kr : St → Option R) : Option R := w_FnDomains_j8 K k x.1 x.2.1 x.2.2.1 x.2.2.2.1 x.2.2.2.2.1 (kn ()) (fun z0 => kr (mkSt rv_w_FnDomains (z0, ())))
noncomputable def sg_w_FnDomains {R : Type} (K : Nat) (k : Nat) : List (Nat × SegS R) := [(21, mkSeg lv_w_FnDomains_J21 lv_w_FnDomains_N21 (gw_FnDomains_j21 K k)), (18, mkSeg lv_w_FnDomains_J18 lv_w_FnDomains_N18 (gw_FnDomains_j18 K k)), (50, mkSeg lv_w_FnDomains_J50 lv_w_FnDomains_N50 (gw_FnDomains_j50 K k)), (45, mkSeg lv_w_FnDomains_J45 lv_w_FnDomains_N45 (gw_FnDomains_j45 K k)), (40, mkSeg lv_w_FnDomains_J40 lv_w_FnDomains_N40 (gw_FnDomains_j40 K k)), (33, mkSeg lv_w_FnDomains_J33 lv_w_FnDomains_N33 (gw_FnDomains_j33 K k)), (28, mkSeg lv_w_FnDomains_J28 lv_w_FnDomains_N28 (gw_FnDomains_j28 K k)), (24, mkSeg lv_w_FnDomains_J24 lv_w_FnDomains_N24 (gw_FnDomains_j24 K k)), (8, mkSeg lv_w_FnDomains_J8 lv_w_FnDomains_N8 (gw_FnDomains_j8 K k))]
noncomputable def su_w_FnDomains : List (Nat × Unit) := [(21, ()), (18, ()), (50, ()), (45, ()), (40, ()), (33, ()), (28, ()), (24, ()), (8, ())]
noncomputable def en_w_FnDomains {R : Type} (K : Nat) (k : Nat) : Env R := { L := lk [(17, mkLoop lv_w_FnDomains_L17 (gw_FnDomains_l17 K k)), (13, mkLoop lv_w_FnDomains_L13 (gw_FnDomains_l13 K k)), (54, mkLoop lv_w_FnDomains_L54 (gw_FnDomains_l54 K k))], X := lk [(0, lv_w_FnDomains_X0), (2, lv_w_FnDomains_X2), (4, lv_w_FnDomains_X4)], S := lk (sg_w_FnDomains K k), rv := rv_w_FnDomains }
noncomputable def cf_w_FnDomains (K : Nat) : Cfg := { ty := lk tys, fn := lk [(6, sp_w_big (w_big K)), (27, sp_i_NarrowDomains (i_NarrowDomains K)), (28, sp_s_NarrowDomains (s_NarrowDomains K)), (29, sp_w_likeInts (w_likeInts K)), (30, sp_i_SolutionsOf (i_SolutionsOf K)), (32, sp_i_FixVar (i_FixVar K)), (33, sp_s_FixVar (s_FixVar K)), (34, sp_w_instances5 (w_instances5 K)), (35, sp_i_CountSolutions (i_CountSolutions K)), (37, sp_i_ForcedOf (i_ForcedOf K)), (38, sp_s_ForcedOf (s_ForcedOf K)), (40, sp_i_SatisfiedBy (i_SatisfiedBy K)), (41, sp_s_SatisfiedBy (s_SatisfiedBy K)), (42, sp_w_sum (w_sum K))], fs := lk [(26, sp_s_DrawNarrowDomains (s_DrawNarrowDomains K)), (31, sp_s_DrawFixVar (s_DrawFixVar K)), (36, sp_s_DrawForcedOf (s_DrawForcedOf K)), (39, sp_s_DrawSatisfiedBy (s_DrawSatisfiedBy K))], prot := 0, nt := Try.f4.ntmps }
noncomputable def c_w_FnDomains_J8 : Code := nthC (partsOf (hasK su_w_FnDomains) (bodyOf Try.f4)) 0
noncomputable def c_w_FnDomains_L13 : Code := nthC (partsOf (hasK su_w_FnDomains) c_w_FnDomains_J8) 0
noncomputable def c_w_FnDomains_L17 : Code := nthC (partsOf (hasK su_w_FnDomains) c_w_FnDomains_L13) 0
noncomputable def c_w_FnDomains_J21 : Code := nthC (partsOf (hasK su_w_FnDomains) c_w_FnDomains_L17) 0
noncomputable def c_w_FnDomains_J18 : Code := nthC (partsOf (hasK su_w_FnDomains) c_w_FnDomains_L17) 1
noncomputable def c_w_FnDomains_J24 : Code := nthC (partsOf (hasK su_w_FnDomains) c_w_FnDomains_J8) 1
noncomputable def c_w_FnDomains_J28 : Code := nthC (partsOf (hasK su_w_FnDomains) c_w_FnDomains_J24) 0
noncomputable def c_w_FnDomains_J33 : Code := nthC (partsOf (hasK su_w_FnDomains) c_w_FnDomains_J28) 0
noncomputable def c_w_FnDomains_J40 : Code := nthC (partsOf (hasK su_w_FnDomains) c_w_FnDomains_J33) 0
noncomputable def c_w_FnDomains_J45 : Code := nthC (partsOf (hasK su_w_FnDomains) c_w_FnDomains_J40) 0
noncomputable def c_w_FnDomains_J50 : Code := nthC (partsOf (hasK su_w_FnDomains) c_w_FnDomains_J45) 0
noncomputable def c_w_FnDomains_L54 : Code := nthC (partsOf (hasK su_w_FnDomains) c_w_FnDomains_J50) 0
theorem ew_FnDomains_j21 {R : Type} (K : Nat) (k : Nat) (x : den lv_w_FnDomains_J21.ty) (kn : den lv_w_FnDomains_N21.ty → Option R) (kx : Nat → St → Option R) (kr : St → Option R) : gw_FnDomains_j21 K k x kn kx kr = evC (cf_w_FnDomains K) (en_w_FnDomains K k) c_w_FnDomains_J21 (mkSt lv_w_FnDomains_J21 x) (cutK lv_w_FnDomains_N21 kn) kx kr := by kernel_rfl
theorem sw_FnDomains_j21 {R : Type} (K : Nat) (C : Cx) (hP : C.P = Try.prog) (O : CfgOk C (cf_w_FnDomains K)) (k : Nat) : SgS C (R := R) (mkSeg lv_w_FnDomains_J21 lv_w_FnDomains_N21 (gw_FnDomains_j21 K k)) c_w_FnDomains_J21 :=
  seg_sound O (by rw [hP]; kernel_rfl) (ew_FnDomains_j21 K k) (lpOk_of (en := en_w_FnDomains K k) (S := hasK su_w_FnDomains) (fun i => hasK_lk (sg_w_FnDomains K k) i) _ (by rw [show partsOf (hasK su_w_FnDomains) c_w_FnDomains_J21 = [] from by kernel_rfl]; exact trivial))
theorem ew_FnDomains_j18 {R : Type} (K : Nat) (k : Nat) (x : den lv_w_FnDomains_J18.ty) (kn : den lv_w_FnDomains_N18.ty → Option R) (kx : Nat → St → Option R) (kr : St → Option R) : gw_FnDomains_j18 K k x kn kx kr = evC (cf_w_FnDomains K) (en_w_FnDomains K k) c_w_FnDomains_J18 (mkSt lv_w_FnDomains_J18 x) (cutK lv_w_FnDomains_N18 kn) kx kr := by kernel_rfl
theorem sw_FnDomains_j18 {R : Type} (K : Nat) (C : Cx) (hP : C.P = Try.prog) (O : CfgOk C (cf_w_FnDomains K)) (k : Nat) : SgS C (R := R) (mkSeg lv_w_FnDomains_J18 lv_w_FnDomains_N18 (gw_FnDomains_j18 K k)) c_w_FnDomains_J18 :=
  seg_sound O (by rw [hP]; kernel_rfl) (ew_FnDomains_j18 K k) (lpOk_of (en := en_w_FnDomains K k) (S := hasK su_w_FnDomains) (fun i => hasK_lk (sg_w_FnDomains K k) i) _ (by rw [show partsOf (hasK su_w_FnDomains) c_w_FnDomains_J18 = [] from by kernel_rfl]; exact trivial))
theorem ew_FnDomains_l17 {R : Type} (K : Nat) (k : Nat) (x : den lv_w_FnDomains_L17.ty) (kx : Nat → St → Option R) (kr : St → Option R) : gw_FnDomains_l17 K (k + 1) x kx kr = evC (cf_w_FnDomains K) (en_w_FnDomains K k) c_w_FnDomains_L17 (mkSt lv_w_FnDomains_L17 x) (fun s => mkLoop lv_w_FnDomains_L17 (gw_FnDomains_l17 K k) s kx kr) kx kr := by kernel_rfl
theorem sw_FnDomains_l17 {R : Type} (K : Nat) (C : Cx) (hP : C.P = Try.prog) (O : CfgOk C (cf_w_FnDomains K)) (k : Nat) : LpS C (R := R) (mkLoop lv_w_FnDomains_L17 (gw_FnDomains_l17 K k)) c_w_FnDomains_L17 :=
  loop_sound O (by rw [hP]; kernel_rfl) (fun x kx kr => rfl) (ew_FnDomains_l17 K) (fun k => lpOk_of (en := en_w_FnDomains K k) (S := hasK su_w_FnDomains) (fun i => hasK_lk (sg_w_FnDomains K k) i) _ (by rw [show partsOf (hasK su_w_FnDomains) c_w_FnDomains_L17 = [(false, c_w_FnDomains_J21), (false, c_w_FnDomains_J18)] from by kernel_rfl]; exact (lpL_seg (f := mkSeg lv_w_FnDomains_J21 lv_w_FnDomains_N21 (gw_FnDomains_j21 K k)) (by kernel_rfl) (sw_FnDomains_j21 K C hP O k) (lpL_seg (f := mkSeg lv_w_FnDomains_J18 lv_w_FnDomains_N18 (gw_FnDomains_j18 K k)) (by kernel_rfl) (sw_FnDomains_j18 K C hP O k) trivial)))) k
theorem ew_FnDomains_l13 {R : Type} (K : Nat) (k : Nat) (x : den lv_w_FnDomains_L13.ty) (kx : Nat → St → Option R) (kr : St → Option R) : gw_FnDomains_l13 K (k + 1) x kx kr = evC (cf_w_FnDomains K) (en_w_FnDomains K k) c_w_FnDomains_L13 (mkSt lv_w_FnDomains_L13 x) (fun s => mkLoop lv_w_FnDomains_L13 (gw_FnDomains_l13 K k) s kx kr) kx kr := by kernel_rfl
theorem sw_FnDomains_l13 {R : Type} (K : Nat) (C : Cx) (hP : C.P = Try.prog) (O : CfgOk C (cf_w_FnDomains K)) (k : Nat) : LpS C (R := R) (mkLoop lv_w_FnDomains_L13 (gw_FnDomains_l13 K k)) c_w_FnDomains_L13 :=
  loop_sound O (by rw [hP]; kernel_rfl) (fun x kx kr => rfl) (ew_FnDomains_l13 K) (fun k => lpOk_of (en := en_w_FnDomains K k) (S := hasK su_w_FnDomains) (fun i => hasK_lk (sg_w_FnDomains K k) i) _ (by rw [show partsOf (hasK su_w_FnDomains) c_w_FnDomains_L13 = [(true, c_w_FnDomains_L17)] from by kernel_rfl]; exact (lpL_loop (f := mkLoop lv_w_FnDomains_L17 (gw_FnDomains_l17 K k)) (by kernel_rfl) (sw_FnDomains_l17 K C hP O k) trivial))) k
theorem ew_FnDomains_l54 {R : Type} (K : Nat) (k : Nat) (x : den lv_w_FnDomains_L54.ty) (kx : Nat → St → Option R) (kr : St → Option R) : gw_FnDomains_l54 K (k + 1) x kx kr = evC (cf_w_FnDomains K) (en_w_FnDomains K k) c_w_FnDomains_L54 (mkSt lv_w_FnDomains_L54 x) (fun s => mkLoop lv_w_FnDomains_L54 (gw_FnDomains_l54 K k) s kx kr) kx kr := by kernel_rfl
theorem sw_FnDomains_l54 {R : Type} (K : Nat) (C : Cx) (hP : C.P = Try.prog) (O : CfgOk C (cf_w_FnDomains K)) (k : Nat) : LpS C (R := R) (mkLoop lv_w_FnDomains_L54 (gw_FnDomains_l54 K k)) c_w_FnDomains_L54 :=
  loop_sound O (by rw [hP]; kernel_rfl) (fun x kx kr => rfl) (ew_FnDomains_l54 K) (fun k => lpOk_of (en := en_w_FnDomains K k) (S := hasK su_w_FnDomains) (fun i => hasK_lk (sg_w_FnDomains K k) i) _ (by rw [show partsOf (hasK su_w_FnDomains) c_w_FnDomains_L54 = [] from by kernel_rfl]; exact trivial)) k
theorem ew_FnDomains_j50 {R : Type} (K : Nat) (k : Nat) (x : den lv_w_FnDomains_J50.ty) (kn : den lv_w_FnDomains_N50.ty → Option R) (kx : Nat → St → Option R) (kr : St → Option R) : gw_FnDomains_j50 K k x kn kx kr = evC (cf_w_FnDomains K) (en_w_FnDomains K k) c_w_FnDomains_J50 (mkSt lv_w_FnDomains_J50 x) (cutK lv_w_FnDomains_N50 kn) kx kr := by kernel_rfl
theorem sw_FnDomains_j50 {R : Type} (K : Nat) (C : Cx) (hP : C.P = Try.prog) (O : CfgOk C (cf_w_FnDomains K)) (k : Nat) : SgS C (R := R) (mkSeg lv_w_FnDomains_J50 lv_w_FnDomains_N50 (gw_FnDomains_j50 K k)) c_w_FnDomains_J50 :=
  seg_sound O (by rw [hP]; kernel_rfl) (ew_FnDomains_j50 K k) (lpOk_of (en := en_w_FnDomains K k) (S := hasK su_w_FnDomains) (fun i => hasK_lk (sg_w_FnDomains K k) i) _ (by rw [show partsOf (hasK su_w_FnDomains) c_w_FnDomains_J50 = [(true, c_w_FnDomains_L54)] from by kernel_rfl]; exact (lpL_loop (f := mkLoop lv_w_FnDomains_L54 (gw_FnDomains_l54 K k)) (by kernel_rfl) (sw_FnDomains_l54 K C hP O k) trivial)))
theorem ew_FnDomains_j45 {R : Type} (K : Nat) (k : Nat) (x : den lv_w_FnDomains_J45.ty) (kn : den lv_w_FnDomains_N45.ty → Option R) (kx : Nat → St → Option R) (kr : St → Option R) : gw_FnDomains_j45 K k x kn kx kr = evC (cf_w_FnDomains K) (en_w_FnDomains K k) c_w_FnDomains_J45 (mkSt lv_w_FnDomains_J45 x) (cutK lv_w_FnDomains_N45 kn) kx kr := by kernel_rfl
theorem sw_FnDomains_j45 {R : Type} (K : Nat) (C : Cx) (hP : C.P = Try.prog) (O : CfgOk C (cf_w_FnDomains K)) (k : Nat) : SgS C (R := R) (mkSeg lv_w_FnDomains_J45 lv_w_FnDomains_N45 (gw_FnDomains_j45 K k)) c_w_FnDomains_J45 :=
  seg_sound O (by rw [hP]; kernel_rfl) (ew_FnDomains_j45 K k) (lpOk_of (en := en_w_FnDomains K k) (S := hasK su_w_FnDomains) (fun i => hasK_lk (sg_w_FnDomains K k) i) _ (by rw [show partsOf (hasK su_w_FnDomains) c_w_FnDomains_J45 = [(false, c_w_FnDomains_J50)] from by kernel_rfl]; exact (lpL_seg (f := mkSeg lv_w_FnDomains_J50 lv_w_FnDomains_N50 (gw_FnDomains_j50 K k)) (by kernel_rfl) (sw_FnDomains_j50 K C hP O k) trivial)))
theorem ew_FnDomains_j40 {R : Type} (K : Nat) (k : Nat) (x : den lv_w_FnDomains_J40.ty) (kn : den lv_w_FnDomains_N40.ty → Option R) (kx : Nat → St → Option R) (kr : St → Option R) : gw_FnDomains_j40 K k x kn kx kr = evC (cf_w_FnDomains K) (en_w_FnDomains K k) c_w_FnDomains_J40 (mkSt lv_w_FnDomains_J40 x) (cutK lv_w_FnDomains_N40 kn) kx kr := by kernel_rfl
theorem sw_FnDomains_j40 {R : Type} (K : Nat) (C : Cx) (hP : C.P = Try.prog) (O : CfgOk C (cf_w_FnDomains K)) (k : Nat) : SgS C (R := R) (mkSeg lv_w_FnDomains_J40 lv_w_FnDomains_N40 (gw_FnDomains_j40 K k)) c_w_FnDomains_J40 :=
  seg_sound O (by rw [hP]; kernel_rfl) (ew_FnDomains_j40 K k) (lpOk_of (en := en_w_FnDomains K k) (S := hasK su_w_FnDomains) (fun i => hasK_lk (sg_w_FnDomains K k) i) _ (by rw [show partsOf (hasK su_w_FnDomains) c_w_FnDomains_J40 = [(false, c_w_FnDomains_J45)] from by kernel_rfl]; exact (lpL_seg (f := mkSeg lv_w_FnDomains_J45 lv_w_FnDomains_N45 (gw_FnDomains_j45 K k)) (by kernel_rfl) (sw_FnDomains_j45 K C hP O k) trivial)))
theorem ew_FnDomains_j33 {R : Type} (K : Nat) (k : Nat) (x : den lv_w_FnDomains_J33.ty) (kn : den lv_w_FnDomains_N33.ty → Option R) (kx : Nat → St → Option R) (kr : St → Option R) : gw_FnDomains_j33 K k x kn kx kr = evC (cf_w_FnDomains K) (en_w_FnDomains K k) c_w_FnDomains_J33 (mkSt lv_w_FnDomains_J33 x) (cutK lv_w_FnDomains_N33 kn) kx kr := by kernel_rfl
theorem sw_FnDomains_j33 {R : Type} (K : Nat) (C : Cx) (hP : C.P = Try.prog) (O : CfgOk C (cf_w_FnDomains K)) (k : Nat) : SgS C (R := R) (mkSeg lv_w_FnDomains_J33 lv_w_FnDomains_N33 (gw_FnDomains_j33 K k)) c_w_FnDomains_J33 :=
  seg_sound O (by rw [hP]; kernel_rfl) (ew_FnDomains_j33 K k) (lpOk_of (en := en_w_FnDomains K k) (S := hasK su_w_FnDomains) (fun i => hasK_lk (sg_w_FnDomains K k) i) _ (by rw [show partsOf (hasK su_w_FnDomains) c_w_FnDomains_J33 = [(false, c_w_FnDomains_J40)] from by kernel_rfl]; exact (lpL_seg (f := mkSeg lv_w_FnDomains_J40 lv_w_FnDomains_N40 (gw_FnDomains_j40 K k)) (by kernel_rfl) (sw_FnDomains_j40 K C hP O k) trivial)))
theorem ew_FnDomains_j28 {R : Type} (K : Nat) (k : Nat) (x : den lv_w_FnDomains_J28.ty) (kn : den lv_w_FnDomains_N28.ty → Option R) (kx : Nat → St → Option R) (kr : St → Option R) : gw_FnDomains_j28 K k x kn kx kr = evC (cf_w_FnDomains K) (en_w_FnDomains K k) c_w_FnDomains_J28 (mkSt lv_w_FnDomains_J28 x) (cutK lv_w_FnDomains_N28 kn) kx kr := by kernel_rfl
theorem sw_FnDomains_j28 {R : Type} (K : Nat) (C : Cx) (hP : C.P = Try.prog) (O : CfgOk C (cf_w_FnDomains K)) (k : Nat) : SgS C (R := R) (mkSeg lv_w_FnDomains_J28 lv_w_FnDomains_N28 (gw_FnDomains_j28 K k)) c_w_FnDomains_J28 :=
  seg_sound O (by rw [hP]; kernel_rfl) (ew_FnDomains_j28 K k) (lpOk_of (en := en_w_FnDomains K k) (S := hasK su_w_FnDomains) (fun i => hasK_lk (sg_w_FnDomains K k) i) _ (by rw [show partsOf (hasK su_w_FnDomains) c_w_FnDomains_J28 = [(false, c_w_FnDomains_J33)] from by kernel_rfl]; exact (lpL_seg (f := mkSeg lv_w_FnDomains_J33 lv_w_FnDomains_N33 (gw_FnDomains_j33 K k)) (by kernel_rfl) (sw_FnDomains_j33 K C hP O k) trivial)))
theorem ew_FnDomains_j24 {R : Type} (K : Nat) (k : Nat) (x : den lv_w_FnDomains_J24.ty) (kn : den lv_w_FnDomains_N24.ty → Option R) (kx : Nat → St → Option R) (kr : St → Option R) : gw_FnDomains_j24 K k x kn kx kr = evC (cf_w_FnDomains K) (en_w_FnDomains K k) c_w_FnDomains_J24 (mkSt lv_w_FnDomains_J24 x) (cutK lv_w_FnDomains_N24 kn) kx kr := by kernel_rfl
theorem sw_FnDomains_j24 {R : Type} (K : Nat) (C : Cx) (hP : C.P = Try.prog) (O : CfgOk C (cf_w_FnDomains K)) (k : Nat) : SgS C (R := R) (mkSeg lv_w_FnDomains_J24 lv_w_FnDomains_N24 (gw_FnDomains_j24 K k)) c_w_FnDomains_J24 :=
  seg_sound O (by rw [hP]; kernel_rfl) (ew_FnDomains_j24 K k) (lpOk_of (en := en_w_FnDomains K k) (S := hasK su_w_FnDomains) (fun i => hasK_lk (sg_w_FnDomains K k) i) _ (by rw [show partsOf (hasK su_w_FnDomains) c_w_FnDomains_J24 = [(false, c_w_FnDomains_J28)] from by kernel_rfl]; exact (lpL_seg (f := mkSeg lv_w_FnDomains_J28 lv_w_FnDomains_N28 (gw_FnDomains_j28 K k)) (by kernel_rfl) (sw_FnDomains_j28 K C hP O k) trivial)))
theorem ew_FnDomains_j8 {R : Type} (K : Nat) (k : Nat) (x : den lv_w_FnDomains_J8.ty) (kn : den lv_w_FnDomains_N8.ty → Option R) (kx : Nat → St → Option R) (kr : St → Option R) : gw_FnDomains_j8 K k x kn kx kr = evC (cf_w_FnDomains K) (en_w_FnDomains K k) c_w_FnDomains_J8 (mkSt lv_w_FnDomains_J8 x) (cutK lv_w_FnDomains_N8 kn) kx kr := by kernel_rfl
theorem sw_FnDomains_j8 {R : Type} (K : Nat) (C : Cx) (hP : C.P = Try.prog) (O : CfgOk C (cf_w_FnDomains K)) (k : Nat) : SgS C (R := R) (mkSeg lv_w_FnDomains_J8 lv_w_FnDomains_N8 (gw_FnDomains_j8 K k)) c_w_FnDomains_J8 :=
  seg_sound O (by rw [hP]; kernel_rfl) (ew_FnDomains_j8 K k) (lpOk_of (en := en_w_FnDomains K k) (S := hasK su_w_FnDomains) (fun i => hasK_lk (sg_w_FnDomains K k) i) _ (by rw [show partsOf (hasK su_w_FnDomains) c_w_FnDomains_J8 = [(true, c_w_FnDomains_L13), (false, c_w_FnDomains_J24)] from by kernel_rfl]; exact (lpL_loop (f := mkLoop lv_w_FnDomains_L13 (gw_FnDomains_l13 K k)) (by kernel_rfl) (sw_FnDomains_l13 K C hP O k) (lpL_seg (f := mkSeg lv_w_FnDomains_J24 lv_w_FnDomains_N24 (gw_FnDomains_j24 K k)) (by kernel_rfl) (sw_FnDomains_j24 K C hP O k) trivial))))
theorem e_w_FnDomains (K : Nat) (x : den as_w_FnDomains) : w_FnDomains K x = evFn (cf_w_FnDomains K) as_w_FnDomains [false] .bool (en_w_FnDomains K K) Try.f4.results.toList (bodyOf Try.f4) x := by kernel_rfl
theorem ok_w_FnDomains (K : Nat) : FnOk Try.prog 4 (sp_w_FnDomains (w_FnDomains K)) :=
  fn_ok (cf := cf_w_FnDomains K) (en := en_w_FnDomains K K) (c := bodyOf Try.f4) Try.func4 (by kernel_rfl) (by kernel_rfl) tysOk (fns_ok (l := [(6, sp_w_big (w_big K)), (27, sp_i_NarrowDomains (i_NarrowDomains K)), (28, sp_s_NarrowDomains (s_NarrowDomains K)), (29, sp_w_likeInts (w_likeInts K)), (30, sp_i_SolutionsOf (i_SolutionsOf K)), (32, sp_i_FixVar (i_FixVar K)), (33, sp_s_FixVar (s_FixVar K)), (34, sp_w_instances5 (w_instances5 K)), (35, sp_i_CountSolutions (i_CountSolutions K)), (37, sp_i_ForcedOf (i_ForcedOf K)), (38, sp_s_ForcedOf (s_ForcedOf K)), (40, sp_i_SatisfiedBy (i_SatisfiedBy K)), (41, sp_s_SatisfiedBy (s_SatisfiedBy K)), (42, sp_w_sum (w_sum K))]) ⟨ok_w_big K, ⟨ok_i_NarrowDomains K, ⟨ok_s_NarrowDomains K, ⟨ok_w_likeInts K, ⟨ok_i_SolutionsOf K, ⟨ok_i_FixVar K, ⟨ok_s_FixVar K, ⟨ok_w_instances5 K, ⟨ok_i_CountSolutions K, ⟨ok_i_ForcedOf K, ⟨ok_s_ForcedOf K, ⟨ok_i_SatisfiedBy K, ⟨ok_s_SatisfiedBy K, ⟨ok_w_sum K, trivial⟩⟩⟩⟩⟩⟩⟩⟩⟩⟩⟩⟩⟩⟩) (shs_ok (l := [(26, sp_s_DrawNarrowDomains (s_DrawNarrowDomains K)), (31, sp_s_DrawFixVar (s_DrawFixVar K)), (36, sp_s_DrawForcedOf (s_DrawForcedOf K)), (39, sp_s_DrawSatisfiedBy (s_DrawSatisfiedBy K))]) ⟨ok_s_DrawNarrowDomains K, ⟨ok_s_DrawFixVar K, ⟨ok_s_DrawForcedOf K, ⟨ok_s_DrawSatisfiedBy K, trivial⟩⟩⟩⟩) (by kernel_rfl) rfl (Nat.le_of_ble_eq_true (by kernel_rfl)) (by kernel_rfl) (of_decide_eq_true (by kernel_rfl)) (by decide) (fun C hP O => lpOk_of (en := en_w_FnDomains K K) (S := hasK su_w_FnDomains) (fun i => hasK_lk (sg_w_FnDomains K K) i) _ (by rw [show partsOf (hasK su_w_FnDomains) (bodyOf Try.f4) = [(false, c_w_FnDomains_J8)] from by kernel_rfl]; exact (lpL_seg (f := mkSeg lv_w_FnDomains_J8 lv_w_FnDomains_N8 (gw_FnDomains_j8 K K)) (by kernel_rfl) (sw_FnDomains_j8 K C hP O K) trivial))) (fun x y h => by rw [← e_w_FnDomains]; exact h)
end Go.Proofs.Ytjbpdhfoeomabaa.E
