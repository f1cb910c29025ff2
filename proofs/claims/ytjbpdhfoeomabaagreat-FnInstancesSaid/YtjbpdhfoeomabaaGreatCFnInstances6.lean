/-
  What the Go functions that FnInstances reaches hand back, each as a plain function with a proof that the call does so, and plain lemmas on them. Conditions: those of each theorem.
-/
import Derived.Test.YtjbpdhfoeomabaaGreatCFnInstances5
namespace Go.Proofs.YtjbpdhfoeomabaaGreat.E
open Go Go.Proofs Go.Proofs.YtjbpdhfoeomabaaGreat
set_option maxRecDepth 100000
set_option linter.unusedVariables false
noncomputable def ps_s_l09Bad : Lv := [(0, (.bx (.v (.st (.pair (.sl (.int .u8)) (.pair (.int .i64) (.pair (.int .u64) .unit))))))), (1, (.v (.st (.pair (.int .i64) (.pair (.sl (.st (.pair (.st (.pair (.int .i64) (.pair (.int .i64) .unit))) (.pair (.sl (.int .i64)) .unit)))) .unit)))))]
noncomputable def rl_s_l09Bad : Lv := [(0, (.v (.st (.pair (.int .i64) (.pair (.sl (.st (.pair (.st (.pair (.int .i64) (.pair (.int .i64) .unit))) (.pair (.sl (.int .i64)) .unit)))) .unit)))))]
noncomputable def sp_s_l09Bad (F : (((List Int) × Int × Int × Unit) × (Int × (List ((Int × Int × Unit) × (List Int) × Unit)) × Unit) × Unit) → Option (((Int × (List ((Int × Int × Unit) × (List Int) × Unit)) × Unit) × Unit) × (((List Int) × Int × Int × Unit) × Unit))) : ShSpec := ⟨ps_s_l09Bad, rl_s_l09Bad, F⟩
noncomputable def s_l09Bad_j16 {R : Type} (K : Nat) (k : Nat) (v0 : ((List Int) × Int × Int × Unit)) (v3 : (Int × (List ((Int × Int × Unit) × (List Int) × Unit)) × Unit)) (v4_0 : Int) (v4_1 : (List ((Int × Int × Unit) × (List Int) × Unit))) (kn : Option R) (kr : (((List Int) × Int × Int × Unit) → (Int × (List ((Int × Int × Unit) × (List Int) × Unit)) × Unit) → Option R)) : Option R :=
    kr v0 v3
noncomputable def s_l09Bad_l14 {R : Type} (K : Nat) : Nat → ((List Int) × Int × Int × Unit) → Int → (List ((Int × Int × Unit) × (List Int) × Unit)) → Int → (List ((Int × Int × Unit) × (List Int) × Unit)) → (((List Int) × Int × Int × Unit) → Int → (List ((Int × Int × Unit) × (List Int) × Unit)) → Int → (List ((Int × Int × Unit) × (List Int) × Unit)) → Option R) → Option R
  | 0, _, _, _, _, _, _ => none
  | k + 1, v0, v3_0, v3_1, v4_0, v4_1, kx1 =>
    (if (decide ((v3_1.length : Int) ≤ (12 : Int))) = true then
    let x24 := (((1 : Int), ((0 : Int), (0 : Int), ()).2.1, ()).1, (3 : Int), ())
    let l25 := [(0 : Int)]
    let l26 := [(x24, l25, ())]
    (if (decide (v3_1.length + l26.length ≤ lim)) = true then
    let l27 := (v3_1 ++ l26)
    s_l09Bad_l14 K k v0 v3_0 l27 v4_0 v4_1 kx1
    else
    none)
    else
    kx1 v0 v3_0 v3_1 v4_0 v4_1)
noncomputable def s_l09Bad (K : Nat) (x : (((List Int) × Int × Int × Unit) × (Int × (List ((Int × Int × Unit) × (List Int) × Unit)) × Unit) × Unit)) : Option (((Int × (List ((Int × Int × Unit) × (List Int) × Unit)) × Unit) × Unit) × (((List Int) × Int × Int × Unit) × Unit)) :=
    (s_l01Next K (x.1, (40 : Int), ())).bind fun y1 =>
    (if (decide (y1.1.1 = (0 : Int))) = true then
    let l2 := [(-1 : Int), (9 : Int), (IntKind.i64.wrap (x.2.1.1 - (1 : Int)))]
    (s_l01Pick K (y1.2.1, l2, ())).bind fun y3 =>
    s_l09Bad_j16 K K y3.2.1 (y3.1.1, x.2.1.2.1, ()) (0 : Int) ([] : List ((Int × Int × Unit) × (List Int) × Unit)) none (fun z4 z5 =>
    some ((z5, ()), (z4, ())))
    else
    (if (decide (y1.1.1 = (1 : Int))) = true then
    (if (decide ((x.2.1.2.1.length : Int) > (0 : Int))) = true then
    (s_l09Copy K (x.2.1, ())).bind fun y6 =>
    (if (bnds (0 : Int) (y6.length : Int)) = true then
    let l7 := [(0 : Int)]
    (if (decide (((y6.getD (0 : Int).toNat (((0 : Int), (0 : Int), ()), ([] : List Int), ())).2.1).length + l7.length ≤ lim)) = true then
    let l8 := ((y6.getD (0 : Int).toNat (((0 : Int), (0 : Int), ()), ([] : List Int), ())).2.1 ++ l7)
    (if (bnds (0 : Int) (y6.length : Int)) = true then
    let l9 := (y6.set (0 : Int).toNat ((y6.getD (0 : Int).toNat (((0 : Int), (0 : Int), ()), ([] : List Int), ())).1, l8, ()))
    s_l09Bad_j16 K K y1.2.1 (x.2.1.1, l9, ()) (0 : Int) ([] : List ((Int × Int × Unit) × (List Int) × Unit)) none (fun z10 z11 =>
    some ((z11, ()), (z10, ())))
    else
    none)
    else
    none)
    else
    none)
    else
    s_l09Bad_j16 K K y1.2.1 x.2.1 (0 : Int) ([] : List ((Int × Int × Unit) × (List Int) × Unit)) none (fun z12 z13 =>
    some ((z13, ()), (z12, ()))))
    else
    (if (decide (y1.1.1 = (2 : Int))) = true then
    (if (decide ((x.2.1.2.1.length : Int) > (0 : Int))) = true then
    (s_l09Copy K (x.2.1, ())).bind fun y14 =>
    let l15 := [(0 : Int), (5 : Int)]
    (s_l01Pick K (y1.2.1, l15, ())).bind fun y16 =>
    let x17 := ((y16.1.1, ((0 : Int), (0 : Int), ()).2.1, ()).1, (1 : Int), ())
    (if (bnds (0 : Int) (y14.length : Int)) = true then
    let l18 := (y14.set (0 : Int).toNat (x17, (y14.getD (0 : Int).toNat (((0 : Int), (0 : Int), ()), ([] : List Int), ())).2.1, ()))
    s_l09Bad_j16 K K y16.2.1 (x.2.1.1, l18, ()) (0 : Int) ([] : List ((Int × Int × Unit) × (List Int) × Unit)) none (fun z19 z20 =>
    some ((z20, ()), (z19, ())))
    else
    none)
    else
    s_l09Bad_j16 K K y1.2.1 x.2.1 (0 : Int) ([] : List ((Int × Int × Unit) × (List Int) × Unit)) none (fun z21 z22 =>
    some ((z22, ()), (z21, ()))))
    else
    (if (decide (y1.1.1 = (3 : Int))) = true then
    (s_l09Copy K (x.2.1, ())).bind fun y23 =>
    s_l09Bad_l14 K K y1.2.1 x.2.1.1 y23 (0 : Int) ([] : List ((Int × Int × Unit) × (List Int) × Unit)) (fun z28 z29 z30 z31 z32 =>
    s_l09Bad_j16 K K z28 (z29, z30, ()) z31 z32 none (fun z33 z34 =>
    some ((z34, ()), (z33, ()))))
    else
    s_l09Bad_j16 K K y1.2.1 x.2.1 (0 : Int) ([] : List ((Int × Int × Unit) × (List Int) × Unit)) none (fun z35 z36 =>
    some ((z36, ()), (z35, ())))))))
noncomputable def lv_s_l09Bad_J16 : Lv := [(0, (.bx (.v (.st (.pair (.sl (.int .u8)) (.pair (.int .i64) (.pair (.int .u64) .unit))))))), (3, (.bx (.v (.st (.pair (.int .i64) (.pair (.sl (.st (.pair (.st (.pair (.int .i64) (.pair (.int .i64) .unit))) (.pair (.sl (.int .i64)) .unit)))) .unit)))))), (4, (.bx (.st (.pair (.v (.int .i64)) (.pair (.r (.st (.pair (.st (.pair (.int .i64) (.pair (.int .i64) .unit))) (.pair (.sl (.int .i64)) .unit)))) .unit)))))]
noncomputable def lv_s_l09Bad_L14 : Lv := [(0, (.bx (.v (.st (.pair (.sl (.int .u8)) (.pair (.int .i64) (.pair (.int .u64) .unit))))))), (3, (.bx (.st (.pair (.v (.int .i64)) (.pair (.r (.st (.pair (.st (.pair (.int .i64) (.pair (.int .i64) .unit))) (.pair (.sl (.int .i64)) .unit)))) .unit))))), (4, (.bx (.st (.pair (.v (.int .i64)) (.pair (.r (.st (.pair (.st (.pair (.int .i64) (.pair (.int .i64) .unit))) (.pair (.sl (.int .i64)) .unit)))) .unit)))))]
noncomputable def lv_s_l09Bad_N16 : Lv := []
noncomputable def lv_s_l09Bad_X1 : Lv := [(0, (.bx (.v (.st (.pair (.sl (.int .u8)) (.pair (.int .i64) (.pair (.int .u64) .unit))))))), (3, (.bx (.st (.pair (.v (.int .i64)) (.pair (.r (.st (.pair (.st (.pair (.int .i64) (.pair (.int .i64) .unit))) (.pair (.sl (.int .i64)) .unit)))) .unit))))), (4, (.bx (.st (.pair (.v (.int .i64)) (.pair (.r (.st (.pair (.st (.pair (.int .i64) (.pair (.int .i64) .unit))) (.pair (.sl (.int .i64)) .unit)))) .unit)))))]
noncomputable def rv_s_l09Bad : Lv := [(0, (.bx (.v (.st (.pair (.sl (.int .u8)) (.pair (.int .i64) (.pair (.int .u64) .unit))))))), (4, (.bx (.v (.st (.pair (.int .i64) (.pair (.sl (.st (.pair (.st (.pair (.int .i64) (.pair (.int .i64) .unit))) (.pair (.sl (.int .i64)) .unit)))) .unit))))))]
noncomputable def gs_l09Bad_j16 {R : Type} (K : Nat) (k : Nat) (x : den lv_s_l09Bad_J16.ty) (kn : den lv_s_l09Bad_N16.ty → Option R) (kx : Nat → St → Option R) (kr : St → Option R) : Option R := s_l09Bad_j16 K k x.1 x.2.1 x.2.2.1.1 x.2.2.1.2.1 (kn ()) (fun z0 z1 => kr (mkSt rv_s_l09Bad (z0, z1, ())))
noncomputable def gs_l09Bad_l14 {R : Type} (K : Nat) (k : Nat) (x : den lv_s_l09Bad_L14.ty) (kx : Nat → St → Option R) (kr : St → Option R) : Option R := s_l09Bad_l14 K k x.1 x.2.1.1 x.2.1.2.1 x.2.2.1.1 x.2.2.1.2.1 (fun z0 z1 z2 z3 z4 => kx 1 (mkSt lv_s_l09Bad_X1 (z0, (z1, z2, ()), (z3, z4, ()), ())))
noncomputable def sg_s_l09Bad {R : Type} (K : Nat) (k : Nat) : List (Nat × SegS R) := [(16, mkSeg lv_s_l09Bad_J16 lv_s_l09Bad_N16 (gs_l09Bad_j16 K k))]
noncomputable def su_s_l09Bad : List (Nat × Unit) := [(16, ())]
noncomputable def en_s_l09Bad {R : Type} (K : Nat) (k : Nat) : Env R := { L := lk [(14, mkLoop lv_s_l09Bad_L14 (gs_l09Bad_l14 K k))], X := lk [(1, lv_s_l09Bad_X1)], S := lk (sg_s_l09Bad K k), rv := rv_s_l09Bad }
noncomputable def cf_s_l09Bad (K : Nat) : Cfg := { ty := lk tys, fn := lk [(75, sp_s_l09Copy (s_l09Copy K))], fs := lk [(78, sp_s_l01Next (s_l01Next K)), (85, sp_s_l01Pick (s_l01Pick K))], prot := 1, nt := Tryz.f116.ntmps }
noncomputable def c_s_l09Bad_L14 : Code := nthC (partsOf (hasK su_s_l09Bad) (bodyOf Tryz.f116)) 0
noncomputable def c_s_l09Bad_J16 : Code := nthC (partsOf (hasK su_s_l09Bad) (bodyOf Tryz.f116)) 1
theorem es_l09Bad_l14 {R : Type} (K : Nat) (k : Nat) (x : den lv_s_l09Bad_L14.ty) (kx : Nat → St → Option R) (kr : St → Option R) : gs_l09Bad_l14 K (k + 1) x kx kr = evC (cf_s_l09Bad K) (en_s_l09Bad K k) c_s_l09Bad_L14 (mkSt lv_s_l09Bad_L14 x) (fun s => mkLoop lv_s_l09Bad_L14 (gs_l09Bad_l14 K k) s kx kr) kx kr := by kernel_rfl
theorem ss_l09Bad_l14 {R : Type} (K : Nat) (C : Cx) (hP : C.P = Tryz.prog) (O : CfgOk C (cf_s_l09Bad K)) (k : Nat) : LpS C (R := R) (mkLoop lv_s_l09Bad_L14 (gs_l09Bad_l14 K k)) c_s_l09Bad_L14 :=
  loop_sound O (by rw [hP]; kernel_rfl) (fun x kx kr => rfl) (es_l09Bad_l14 K) (fun k => lpOk_of (en := en_s_l09Bad K k) (S := hasK su_s_l09Bad) (fun i => hasK_lk (sg_s_l09Bad K k) i) _ (by rw [show partsOf (hasK su_s_l09Bad) c_s_l09Bad_L14 = [] from by kernel_rfl]; exact trivial)) k
theorem es_l09Bad_j16 {R : Type} (K : Nat) (k : Nat) (x : den lv_s_l09Bad_J16.ty) (kn : den lv_s_l09Bad_N16.ty → Option R) (kx : Nat → St → Option R) (kr : St → Option R) : gs_l09Bad_j16 K k x kn kx kr = evC (cf_s_l09Bad K) (en_s_l09Bad K k) c_s_l09Bad_J16 (mkSt lv_s_l09Bad_J16 x) (cutK lv_s_l09Bad_N16 kn) kx kr := by kernel_rfl
theorem ss_l09Bad_j16 {R : Type} (K : Nat) (C : Cx) (hP : C.P = Tryz.prog) (O : CfgOk C (cf_s_l09Bad K)) (k : Nat) : SgS C (R := R) (mkSeg lv_s_l09Bad_J16 lv_s_l09Bad_N16 (gs_l09Bad_j16 K k)) c_s_l09Bad_J16 :=
  seg_sound O (by rw [hP]; kernel_rfl) (es_l09Bad_j16 K k) (lpOk_of (en := en_s_l09Bad K k) (S := hasK su_s_l09Bad) (fun i => hasK_lk (sg_s_l09Bad K k) i) _ (by rw [show partsOf (hasK su_s_l09Bad) c_s_l09Bad_J16 = [] from by kernel_rfl]; exact trivial))
theorem e_s_l09Bad (K : Nat) (x : den ps_s_l09Bad.ty) : s_l09Bad K x = evFnS (cf_s_l09Bad K) ps_s_l09Bad rl_s_l09Bad (en_s_l09Bad K K) Tryz.f116.results.toList (bodyOf Tryz.f116) x := by kernel_rfl
theorem ok_s_l09Bad (K : Nat) : ShOk Tryz.prog 116 (sp_s_l09Bad (s_l09Bad K)) :=
  sh_ok (cf := cf_s_l09Bad K) (en := en_s_l09Bad K K) (c := bodyOf Tryz.f116) Tryz.func116 (by kernel_rfl) (by kernel_rfl) tysOk (fns_ok (l := [(75, sp_s_l09Copy (s_l09Copy K))]) ⟨ok_s_l09Copy K, trivial⟩) (shs_ok (l := [(78, sp_s_l01Next (s_l01Next K)), (85, sp_s_l01Pick (s_l01Pick K))]) ⟨ok_s_l01Next K, ⟨ok_s_l01Pick K, trivial⟩⟩) (by kernel_rfl) rfl (Nat.le_of_ble_eq_true (by kernel_rfl)) (by kernel_rfl) (Nat.le_of_ble_eq_true (by kernel_rfl)) (by kernel_rfl) (fun C hP O => lpOk_of (en := en_s_l09Bad K K) (S := hasK su_s_l09Bad) (fun i => hasK_lk (sg_s_l09Bad K K) i) _ (by rw [show partsOf (hasK su_s_l09Bad) (bodyOf Tryz.f116) = [(true, c_s_l09Bad_L14), (false, c_s_l09Bad_J16)] from by kernel_rfl]; exact (lpL_loop (f := mkLoop lv_s_l09Bad_L14 (gs_l09Bad_l14 K K)) (by kernel_rfl) (ss_l09Bad_l14 K C hP O K) (lpL_seg (f := mkSeg lv_s_l09Bad_J16 lv_s_l09Bad_N16 (gs_l09Bad_j16 K K)) (by kernel_rfl) (ss_l09Bad_j16 K C hP O K) trivial)))) (fun x y h => by rw [← e_s_l09Bad]; exact h)
noncomputable def as_s_l01Names : Ty := .unit
noncomputable def sp_s_l01Names (F : Unit → Option (List ByteArray)) : FnSpec := ⟨as_s_l01Names, [], (.sl .str), F⟩
noncomputable def s_l01Names (K : Nat) (x : Unit) : Option (List ByteArray) :=
    let l1 := [(⟨#[122, 101, 114, 111]⟩ : ByteArray), (⟨#[111, 110, 101]⟩ : ByteArray), (⟨#[105, 100]⟩ : ByteArray), (⟨#[110, 111, 116]⟩ : ByteArray), (⟨#[97, 110, 100]⟩ : ByteArray), (⟨#[111, 114]⟩ : ByteArray), (⟨#[120, 111, 114]⟩ : ByteArray), (⟨#[110, 97, 110, 100]⟩ : ByteArray), (⟨#[110, 111, 114]⟩ : ByteArray), (⟨#[101, 113, 117, 97, 108]⟩ : ByteArray), (⟨#[105, 109, 112, 108, 121]⟩ : ByteArray), (⟨#[109, 97, 106, 111, 114, 105, 116, 121]⟩ : ByteArray), (⟨#[109, 105, 110, 111, 114, 105, 116, 121]⟩ : ByteArray), (⟨#[105, 102]⟩ : ByteArray)]
    some l1
noncomputable def rv_s_l01Names : Lv := [(0, (.r .str))]
noncomputable def sg_s_l01Names {R : Type} (K : Nat) (k : Nat) : List (Nat × SegS R) := []
noncomputable def su_s_l01Names : List (Nat × Unit) := []
noncomputable def en_s_l01Names {R : Type} (K : Nat) (k : Nat) : Env R := { L := lk [], X := lk [], S := lk (sg_s_l01Names K k), rv := rv_s_l01Names }
noncomputable def cf_s_l01Names (K : Nat) : Cfg := { ty := lk tys, fn := lk [], fs := lk [], prot := 0, nt := Tryz.f167.ntmps }
theorem e_s_l01Names (K : Nat) (x : den as_s_l01Names) : s_l01Names K x = evFn (cf_s_l01Names K) as_s_l01Names [] (.sl .str) (en_s_l01Names K K) Tryz.f167.results.toList (bodyOf Tryz.f167) x := by kernel_rfl
theorem ok_s_l01Names (K : Nat) : FnOk Tryz.prog 167 (sp_s_l01Names (s_l01Names K)) :=
  fn_ok (cf := cf_s_l01Names K) (en := en_s_l01Names K K) (c := bodyOf Tryz.f167) Tryz.func167 (by kernel_rfl) (by kernel_rfl) tysOk (fns_ok (l := []) trivial) (shs_ok (l := []) trivial) (by kernel_rfl) rfl (Nat.le_of_ble_eq_true (by kernel_rfl)) (by kernel_rfl) (of_decide_eq_true (by kernel_rfl)) (by decide) (fun C hP O => lpOk_of (en := en_s_l01Names K K) (S := hasK su_s_l01Names) (fun i => hasK_lk (sg_s_l01Names K K) i) _ (by rw [show partsOf (hasK su_s_l01Names) (bodyOf Tryz.f167) = [] from by kernel_rfl]; exact trivial)) (fun x y h => by rw [← e_s_l01Names]; exact h)
noncomputable def as_s_l01Known : Ty := .unit
noncomputable def sp_s_l01Known (F : Unit → Option (List ByteArray)) : FnSpec := ⟨as_s_l01Known, [], (.sl .str), F⟩
noncomputable def s_l01Known (K : Nat) (x : Unit) : Option (List ByteArray) :=
    let l1 := [(⟨#[48, 58, 48]⟩ : ByteArray), (⟨#[48, 58, 49]⟩ : ByteArray), (⟨#[49, 58, 48, 49]⟩ : ByteArray), (⟨#[49, 58, 49, 48]⟩ : ByteArray), (⟨#[50, 58, 48, 48, 48, 49]⟩ : ByteArray), (⟨#[50, 58, 48, 49, 49, 49]⟩ : ByteArray), (⟨#[50, 58, 48, 49, 49, 48]⟩ : ByteArray), (⟨#[50, 58, 49, 49, 49, 48]⟩ : ByteArray), (⟨#[50, 58, 49, 48, 48, 48]⟩ : ByteArray), (⟨#[50, 58, 49, 48, 48, 49]⟩ : ByteArray), (⟨#[50, 58, 49, 48, 49, 49]⟩ : ByteArray), (⟨#[51, 58, 48, 48, 48, 49, 48, 49, 49, 49]⟩ : ByteArray), (⟨#[51, 58, 48, 49, 49, 48, 49, 48, 48, 49]⟩ : ByteArray), (⟨#[51, 58, 48, 48, 48, 49, 49, 48, 49, 49]⟩ : ByteArray)]
    some l1
noncomputable def rv_s_l01Known : Lv := [(0, (.r .str))]
noncomputable def sg_s_l01Known {R : Type} (K : Nat) (k : Nat) : List (Nat × SegS R) := []
noncomputable def su_s_l01Known : List (Nat × Unit) := []
noncomputable def en_s_l01Known {R : Type} (K : Nat) (k : Nat) : Env R := { L := lk [], X := lk [], S := lk (sg_s_l01Known K k), rv := rv_s_l01Known }
noncomputable def cf_s_l01Known (K : Nat) : Cfg := { ty := lk tys, fn := lk [], fs := lk [], prot := 0, nt := Tryz.f168.ntmps }
theorem e_s_l01Known (K : Nat) (x : den as_s_l01Known) : s_l01Known K x = evFn (cf_s_l01Known K) as_s_l01Known [] (.sl .str) (en_s_l01Known K K) Tryz.f168.results.toList (bodyOf Tryz.f168) x := by kernel_rfl
theorem ok_s_l01Known (K : Nat) : FnOk Tryz.prog 168 (sp_s_l01Known (s_l01Known K)) :=
  fn_ok (cf := cf_s_l01Known K) (en := en_s_l01Known K K) (c := bodyOf Tryz.f168) Tryz.func168 (by kernel_rfl) (by kernel_rfl) tysOk (fns_ok (l := []) trivial) (shs_ok (l := []) trivial) (by kernel_rfl) rfl (Nat.le_of_ble_eq_true (by kernel_rfl)) (by kernel_rfl) (of_decide_eq_true (by kernel_rfl)) (by decide) (fun C hP O => lpOk_of (en := en_s_l01Known K K) (S := hasK su_s_l01Known) (fun i => hasK_lk (sg_s_l01Known K K) i) _ (by rw [show partsOf (hasK su_s_l01Known) (bodyOf Tryz.f168) = [] from by kernel_rfl]; exact trivial)) (fun x y h => by rw [← e_s_l01Known]; exact h)
noncomputable def as_s_l01Of : Ty := (.pair (.int .i64) (.pair (.sl (.int .i64)) .unit))
noncomputable def sp_s_l01Of (F : (Int × (List Int) × Unit) → Option (Int × Int × Unit)) : FnSpec := ⟨as_s_l01Of, [false, false], (.st (.pair (.int .i64) (.pair (.int .i64) .unit))), F⟩
noncomputable def s_l01Of_l3 {R : Type} (K : Nat) : Nat → Int → (List Int) → (Int × Int × Unit) → (Int × Int × Unit) → Int → ((Int × Int × Unit) → (Int × Int × Unit) → Option R) → Option R
  | 0, _, _, _, _, _, _ => none
  | k + 1, v0, v1, v4, v5, v6, kx0 =>
    (s_l01Rows K (v0, ())).bind fun y1 =>
    (if (decide (v6 < y1)) = true then
    (if (bnds v6 (v1.length : Int)) = true then
    (if (decide ((0 : Int) ≤ (IntKind.u64.wrap v6))) = true then
    let x2 := (shlI .i64 (v1.getD v6.toNat (0 : Int)) (IntKind.u64.wrap v6))
    s_l01Of_l3 K k v0 v1 v4 (v5.1, (IntKind.i64.wrap (v5.2.1 + x2)), ()) (IntKind.i64.wrap (v6 + (1 : Int))) kx0
    else
    none)
    else
    none)
    else
    kx0 v4 v5)
noncomputable def s_l01Of (K : Nat) (x : (Int × (List Int) × Unit)) : Option (Int × Int × Unit) :=
    s_l01Of_l3 K K x.1 x.2.1 ((0 : Int), (0 : Int), ()) (x.1, ((0 : Int), (0 : Int), ()).2.1, ()) (0 : Int) (fun z3 z4 =>
    some z4)
noncomputable def lv_s_l01Of_L3 : Lv := [(0, (.v (.int .i64))), (1, (.v (.sl (.int .i64)))), (4, (.bx (.v (.st (.pair (.int .i64) (.pair (.int .i64) .unit)))))), (5, (.bx (.v (.st (.pair (.int .i64) (.pair (.int .i64) .unit)))))), (6, (.v (.int .i64)))]
noncomputable def lv_s_l01Of_X0 : Lv := [(4, (.bx (.v (.st (.pair (.int .i64) (.pair (.int .i64) .unit)))))), (5, (.bx (.v (.st (.pair (.int .i64) (.pair (.int .i64) .unit))))))]
noncomputable def rv_s_l01Of : Lv := [(4, (.bx (.v (.st (.pair (.int .i64) (.pair (.int .i64) .unit))))))]
noncomputable def gs_l01Of_l3 {R : Type} (K : Nat) (k : Nat) (x : den lv_s_l01Of_L3.ty) (kx : Nat → St → Option R) (kr : St → Option R) : Option R := s_l01Of_l3 K k x.1 x.2.1 x.2.2.1 x.2.2.2.1 x.2.2.2.2.1 (fun z0 z1 => kx 0 (mkSt lv_s_l01Of_X0 (z0, z1, ())))
noncomputable def sg_s_l01Of {R : Type} (K : Nat) (k : Nat) : List (Nat × SegS R) := []
noncomputable def su_s_l01Of : List (Nat × Unit) := []
noncomputable def en_s_l01Of {R : Type} (K : Nat) (k : Nat) : Env R := { L := lk [(3, mkLoop lv_s_l01Of_L3 (gs_l01Of_l3 K k))], X := lk [(0, lv_s_l01Of_X0)], S := lk (sg_s_l01Of K k), rv := rv_s_l01Of }
noncomputable def cf_s_l01Of (K : Nat) : Cfg := { ty := lk tys, fn := lk [(120, sp_s_l01Rows (s_l01Rows K))], fs := lk [], prot := 0, nt := Tryz.f175.ntmps }
noncomputable def c_s_l01Of_L3 : Code := nthC (partsOf (hasK su_s_l01Of) (bodyOf Tryz.f175)) 0
theorem es_l01Of_l3 {R : Type} (K : Nat) (k : Nat) (x : den lv_s_l01Of_L3.ty) (kx : Nat → St → Option R) (kr : St → Option R) : gs_l01Of_l3 K (k + 1) x kx kr = evC (cf_s_l01Of K) (en_s_l01Of K k) c_s_l01Of_L3 (mkSt lv_s_l01Of_L3 x) (fun s => mkLoop lv_s_l01Of_L3 (gs_l01Of_l3 K k) s kx kr) kx kr := by kernel_rfl
theorem ss_l01Of_l3 {R : Type} (K : Nat) (C : Cx) (hP : C.P = Tryz.prog) (O : CfgOk C (cf_s_l01Of K)) (k : Nat) : LpS C (R := R) (mkLoop lv_s_l01Of_L3 (gs_l01Of_l3 K k)) c_s_l01Of_L3 :=
  loop_sound O (by rw [hP]; kernel_rfl) (fun x kx kr => rfl) (es_l01Of_l3 K) (fun k => lpOk_of (en := en_s_l01Of K k) (S := hasK su_s_l01Of) (fun i => hasK_lk (sg_s_l01Of K k) i) _ (by rw [show partsOf (hasK su_s_l01Of) c_s_l01Of_L3 = [] from by kernel_rfl]; exact trivial)) k
theorem e_s_l01Of (K : Nat) (x : den as_s_l01Of) : s_l01Of K x = evFn (cf_s_l01Of K) as_s_l01Of [false, false] (.st (.pair (.int .i64) (.pair (.int .i64) .unit))) (en_s_l01Of K K) Tryz.f175.results.toList (bodyOf Tryz.f175) x := by kernel_rfl
theorem ok_s_l01Of (K : Nat) : FnOk Tryz.prog 175 (sp_s_l01Of (s_l01Of K)) :=
  fn_ok (cf := cf_s_l01Of K) (en := en_s_l01Of K K) (c := bodyOf Tryz.f175) Tryz.func175 (by kernel_rfl) (by kernel_rfl) tysOk (fns_ok (l := [(120, sp_s_l01Rows (s_l01Rows K))]) ⟨ok_s_l01Rows K, trivial⟩) (shs_ok (l := []) trivial) (by kernel_rfl) rfl (Nat.le_of_ble_eq_true (by kernel_rfl)) (by kernel_rfl) (of_decide_eq_true (by kernel_rfl)) (by decide) (fun C hP O => lpOk_of (en := en_s_l01Of K K) (S := hasK su_s_l01Of) (fun i => hasK_lk (sg_s_l01Of K K) i) _ (by rw [show partsOf (hasK su_s_l01Of) (bodyOf Tryz.f175) = [(true, c_s_l01Of_L3)] from by kernel_rfl]; exact (lpL_loop (f := mkLoop lv_s_l01Of_L3 (gs_l01Of_l3 K K)) (by kernel_rfl) (ss_l01Of_l3 K C hP O K) trivial))) (fun x y h => by rw [← e_s_l01Of]; exact h)
noncomputable def as_s_l01Bits : Ty := (.pair (.sl (.int .i64)) .unit)
noncomputable def sp_s_l01Bits (F : ((List Int) × Unit) → Option Bool) : FnSpec := ⟨as_s_l01Bits, [false], .bool, F⟩
noncomputable def s_l01Bits_l2 {R : Type} (K : Nat) : Nat → (List Int) → Int → (Option R) → (Bool → Option R) → Option R
  | 0, _, _, _, _ => none
  | k + 1, v0, v3, kx0, kr =>
    (if (decide (v3 < (v0.length : Int))) = true then
    (if (bnds v3 (v0.length : Int)) = true then
    (s_l01In K ((v0.getD v3.toNat (0 : Int)), (0 : Int), (1 : Int), ())).bind fun y1 =>
    (if (!y1) = true then
    kr false
    else
    s_l01Bits_l2 K k v0 (IntKind.i64.wrap (v3 + (1 : Int))) kx0 kr)
    else
    none)
    else
    kx0)
noncomputable def s_l01Bits (K : Nat) (x : ((List Int) × Unit)) : Option Bool :=
    s_l01Bits_l2 K K x.1 (0 : Int) (some true) (fun z2 =>
    some z2)
noncomputable def lv_s_l01Bits_L2 : Lv := [(0, (.v (.sl (.int .i64)))), (3, (.v (.int .i64)))]
noncomputable def lv_s_l01Bits_X0 : Lv := []
noncomputable def rv_s_l01Bits : Lv := [(2, (.v .bool))]
noncomputable def gs_l01Bits_l2 {R : Type} (K : Nat) (k : Nat) (x : den lv_s_l01Bits_L2.ty) (kx : Nat → St → Option R) (kr : St → Option R) : Option R := s_l01Bits_l2 K k x.1 x.2.1 (kx 0 (mkSt lv_s_l01Bits_X0 ())) (fun z0 => kr (mkSt rv_s_l01Bits (z0, ())))
noncomputable def sg_s_l01Bits {R : Type} (K : Nat) (k : Nat) : List (Nat × SegS R) := []
noncomputable def su_s_l01Bits : List (Nat × Unit) := []
noncomputable def en_s_l01Bits {R : Type} (K : Nat) (k : Nat) : Env R := { L := lk [(2, mkLoop lv_s_l01Bits_L2 (gs_l01Bits_l2 K k))], X := lk [(0, lv_s_l01Bits_X0)], S := lk (sg_s_l01Bits K k), rv := rv_s_l01Bits }
noncomputable def cf_s_l01Bits (K : Nat) : Cfg := { ty := lk tys, fn := lk [(93, sp_s_l01In (s_l01In K))], fs := lk [], prot := 0, nt := Tryz.f184.ntmps }
noncomputable def c_s_l01Bits_L2 : Code := nthC (partsOf (hasK su_s_l01Bits) (bodyOf Tryz.f184)) 0
theorem es_l01Bits_l2 {R : Type} (K : Nat) (k : Nat) (x : den lv_s_l01Bits_L2.ty) (kx : Nat → St → Option R) (kr : St → Option R) : gs_l01Bits_l2 K (k + 1) x kx kr = evC (cf_s_l01Bits K) (en_s_l01Bits K k) c_s_l01Bits_L2 (mkSt lv_s_l01Bits_L2 x) (fun s => mkLoop lv_s_l01Bits_L2 (gs_l01Bits_l2 K k) s kx kr) kx kr := by kernel_rfl
theorem ss_l01Bits_l2 {R : Type} (K : Nat) (C : Cx) (hP : C.P = Tryz.prog) (O : CfgOk C (cf_s_l01Bits K)) (k : Nat) : LpS C (R := R) (mkLoop lv_s_l01Bits_L2 (gs_l01Bits_l2 K k)) c_s_l01Bits_L2 :=
  loop_sound O (by rw [hP]; kernel_rfl) (fun x kx kr => rfl) (es_l01Bits_l2 K) (fun k => lpOk_of (en := en_s_l01Bits K k) (S := hasK su_s_l01Bits) (fun i => hasK_lk (sg_s_l01Bits K k) i) _ (by rw [show partsOf (hasK su_s_l01Bits) c_s_l01Bits_L2 = [] from by kernel_rfl]; exact trivial)) k
theorem e_s_l01Bits (K : Nat) (x : den as_s_l01Bits) : s_l01Bits K x = evFn (cf_s_l01Bits K) as_s_l01Bits [false] .bool (en_s_l01Bits K K) Tryz.f184.results.toList (bodyOf Tryz.f184) x := by kernel_rfl
theorem ok_s_l01Bits (K : Nat) : FnOk Tryz.prog 184 (sp_s_l01Bits (s_l01Bits K)) :=
  fn_ok (cf := cf_s_l01Bits K) (en := en_s_l01Bits K K) (c := bodyOf Tryz.f184) Tryz.func184 (by kernel_rfl) (by kernel_rfl) tysOk (fns_ok (l := [(93, sp_s_l01In (s_l01In K))]) ⟨ok_s_l01In K, trivial⟩) (shs_ok (l := []) trivial) (by kernel_rfl) rfl (Nat.le_of_ble_eq_true (by kernel_rfl)) (by kernel_rfl) (of_decide_eq_true (by kernel_rfl)) (by decide) (fun C hP O => lpOk_of (en := en_s_l01Bits K K) (S := hasK su_s_l01Bits) (fun i => hasK_lk (sg_s_l01Bits K K) i) _ (by rw [show partsOf (hasK su_s_l01Bits) (bodyOf Tryz.f184) = [(true, c_s_l01Bits_L2)] from by kernel_rfl]; exact (lpL_loop (f := mkLoop lv_s_l01Bits_L2 (gs_l01Bits_l2 K K)) (by kernel_rfl) (ss_l01Bits_l2 K C hP O K) trivial))) (fun x y h => by rw [← e_s_l01Bits]; exact h)
noncomputable def as_s_l01Read : Ty := (.pair .str .unit)
noncomputable def sp_s_l01Read (F : (ByteArray × Unit) → Option ((Int × Int × Unit) × Bool × Unit)) : FnSpec := ⟨as_s_l01Read, [false], (.tup (.pair (.st (.pair (.int .i64) (.pair (.int .i64) .unit))) (.pair .bool .unit))), F⟩
noncomputable def s_l01Read_l7 {R : Type} (K : Nat) : Nat → ByteArray → (Int × Int × Unit) → Int → (List Int) → Int → ((Int × Int × Unit) → Int → (List Int) → Option R) → Option R
  | 0, _, _, _, _, _, _ => none
  | k + 1, v0, v2, v4, v5, v6, kx0 =>
    (if (decide (v6 < (v0.size : Int))) = true then
    (if (bnds v6 (v0.size : Int)) = true then
    let x6 := (IntKind.i64.wrap ((IntKind.i64.wrap (byteAt v0 v6)) - (48 : Int)))
    (if (decide (v5.length + ([x6]).length ≤ lim)) = true then
    let l7 := (v5 ++ [x6])
    s_l01Read_l7 K k v0 v2 v4 l7 (IntKind.i64.wrap (v6 + (1 : Int))) kx0
    else
    none)
    else
    none)
    else
    kx0 v2 v4 v5)
noncomputable def s_l01Read_j6 {R : Type} (K : Nat) (k : Nat) (v0 : ByteArray) (v2 : (Int × Int × Unit)) (v4 : Int) (v5 : (List Int)) (kn : Option R) (kr : ((Int × Int × Unit) → Bool → Option R)) : Option R :=
    s_l01Read_l7 K k v0 v2 v4 v5 (2 : Int) (fun z8 z9 z10 =>
    (s_l01Bits K (z10, ())).bind fun y11 =>
    (if (!y11) = true then
    kr ((0 : Int), (0 : Int), ()) false
    else
    (s_l01Of K (z9, z10, ())).bind fun y12 =>
    kr y12 true))
noncomputable def s_l01Read_j3 {R : Type} (K : Nat) (k : Nat) (v0 : ByteArray) (v2 : (Int × Int × Unit)) (kn : Option R) (kr : ((Int × Int × Unit) → Bool → Option R)) : Option R :=
    (if (bnds (0 : Int) (v0.size : Int)) = true then
    let x1 := (IntKind.i64.wrap ((IntKind.i64.wrap (byteAt v0 (0 : Int))) - (48 : Int)))
    let l2 := ([] : List Int)
    (s_l01In K (x1, (0 : Int), (4 : Int), ())).bind fun y3 =>
    (if (!y3) = true then
    kr ((0 : Int), (0 : Int), ()) false
    else
    (s_l01Rows K (x1, ())).bind fun y4 =>
    let x5 := (!decide ((v0.size : Int) = (IntKind.i64.wrap ((2 : Int) + y4))))
    (if x5 = true then
    kr ((0 : Int), (0 : Int), ()) false
    else
    s_l01Read_j6 K k v0 v2 x1 l2 none (fun z13 z14 =>
    kr z13 z14)))
    else
    none)
noncomputable def s_l01Read (K : Nat) (x : (ByteArray × Unit)) : Option ((Int × Int × Unit) × Bool × Unit) :=
    (if (decide ((x.1.size : Int) < (3 : Int))) = true then
    some (((0 : Int), (0 : Int), ()), false, ())
    else
    (if (bnds (1 : Int) (x.1.size : Int)) = true then
    (if (!decide ((byteAt x.1 (1 : Int)) = (58 : Int))) = true then
    some (((0 : Int), (0 : Int), ()), false, ())
    else
    s_l01Read_j3 K K x.1 ((0 : Int), (0 : Int), ()) none (fun z15 z16 =>
    some (z15, z16, ())))
    else
    none))
noncomputable def lv_s_l01Read_J3 : Lv := [(0, (.v .str)), (2, (.bx (.v (.st (.pair (.int .i64) (.pair (.int .i64) .unit))))))]
noncomputable def lv_s_l01Read_J6 : Lv := [(0, (.v .str)), (2, (.bx (.v (.st (.pair (.int .i64) (.pair (.int .i64) .unit)))))), (4, (.v (.int .i64))), (5, (.r (.int .i64)))]
noncomputable def lv_s_l01Read_L7 : Lv := [(0, (.v .str)), (2, (.bx (.v (.st (.pair (.int .i64) (.pair (.int .i64) .unit)))))), (4, (.v (.int .i64))), (5, (.r (.int .i64))), (6, (.v (.int .i64)))]
noncomputable def lv_s_l01Read_N3 : Lv := []
noncomputable def lv_s_l01Read_N6 : Lv := []
noncomputable def lv_s_l01Read_X0 : Lv := [(2, (.bx (.v (.st (.pair (.int .i64) (.pair (.int .i64) .unit)))))), (4, (.v (.int .i64))), (5, (.r (.int .i64)))]
noncomputable def rv_s_l01Read : Lv := [(2, (.bx (.v (.st (.pair (.int .i64) (.pair (.int .i64) .unit)))))), (3, (.v .bool))]
noncomputable def gs_l01Read_l7 {R : Type} (K : Nat) (k : Nat) (x : den lv_s_l01Read_L7.ty) (kx : Nat → St → Option R) (kr : St → Option R) : Option R := s_l01Read_l7 K k x.1 x.2.1 x.2.2.1 x.2.2.2.1 x.2.2.2.2.1 (fun z0 z1 z2 => kx 0 (mkSt lv_s_l01Read_X0 (z0, z1, z2, ())))
noncomputable def gs_l01Read_j6 {R : Type} (K : Nat) (k : Nat) (x : den lv_s_l01Read_J6.ty) (kn : den lv_s_l01Read_N6.ty → Option R) (kx : Nat → St → Option R) (kr : St → Option R) : Option R := s_l01Read_j6 K k x.1 x.2.1 x.2.2.1 x.2.2.2.1 (kn ()) (fun z0 z1 => kr (mkSt rv_s_l01Read (z0, z1, ())))
noncomputable def gs_l01Read_j3 {R : Type} (K : Nat) (k : Nat) (x : den lv_s_l01Read_J3.ty) (kn : den lv_s_l01Read_N3.ty → Option R) (kx : Nat → St → Option R) (kr : St → Option R) : Option R := s_l01Read_j3 K k x.1 x.2.1 (kn ()) (fun z0 z1 => kr (mkSt rv_s_l01Read (z0, z1, ())))
noncomputable def sg_s_l01Read {R : Type} (K : Nat) (k : Nat) : List (Nat × SegS R) := [(6, mkSeg lv_s_l01Read_J6 lv_s_l01Read_N6 (gs_l01Read_j6 K k)), (3, mkSeg lv_s_l01Read_J3 lv_s_l01Read_N3 (gs_l01Read_j3 K k))]
noncomputable def su_s_l01Read : List (Nat × Unit) := [(6, ()), (3, ())]
noncomputable def en_s_l01Read {R : Type} (K : Nat) (k : Nat) : Env R := { L := lk [(7, mkLoop lv_s_l01Read_L7 (gs_l01Read_l7 K k))], X := lk [(0, lv_s_l01Read_X0)], S := lk (sg_s_l01Read K k), rv := rv_s_l01Read }
noncomputable def cf_s_l01Read (K : Nat) : Cfg := { ty := lk tys, fn := lk [(93, sp_s_l01In (s_l01In K)), (120, sp_s_l01Rows (s_l01Rows K)), (175, sp_s_l01Of (s_l01Of K)), (184, sp_s_l01Bits (s_l01Bits K))], fs := lk [], prot := 0, nt := Tryz.f169.ntmps }
noncomputable def c_s_l01Read_J3 : Code := nthC (partsOf (hasK su_s_l01Read) (bodyOf Tryz.f169)) 0
noncomputable def c_s_l01Read_J6 : Code := nthC (partsOf (hasK su_s_l01Read) c_s_l01Read_J3) 0
noncomputable def c_s_l01Read_L7 : Code := nthC (partsOf (hasK su_s_l01Read) c_s_l01Read_J6) 0
theorem es_l01Read_l7 {R : Type} (K : Nat) (k : Nat) (x : den lv_s_l01Read_L7.ty) (kx : Nat → St → Option R) (kr : St → Option R) : gs_l01Read_l7 K (k + 1) x kx kr = evC (cf_s_l01Read K) (en_s_l01Read K k) c_s_l01Read_L7 (mkSt lv_s_l01Read_L7 x) (fun s => mkLoop lv_s_l01Read_L7 (gs_l01Read_l7 K k) s kx kr) kx kr := by kernel_rfl
theorem ss_l01Read_l7 {R : Type} (K : Nat) (C : Cx) (hP : C.P = Tryz.prog) (O : CfgOk C (cf_s_l01Read K)) (k : Nat) : LpS C (R := R) (mkLoop lv_s_l01Read_L7 (gs_l01Read_l7 K k)) c_s_l01Read_L7 :=
  loop_sound O (by rw [hP]; kernel_rfl) (fun x kx kr => rfl) (es_l01Read_l7 K) (fun k => lpOk_of (en := en_s_l01Read K k) (S := hasK su_s_l01Read) (fun i => hasK_lk (sg_s_l01Read K k) i) _ (by rw [show partsOf (hasK su_s_l01Read) c_s_l01Read_L7 = [] from by kernel_rfl]; exact trivial)) k
theorem es_l01Read_j6 {R : Type} (K : Nat) (k : Nat) (x : den lv_s_l01Read_J6.ty) (kn : den lv_s_l01Read_N6.ty → Option R) (kx : Nat → St → Option R) (kr : St → Option R) : gs_l01Read_j6 K k x kn kx kr = evC (cf_s_l01Read K) (en_s_l01Read K k) c_s_l01Read_J6 (mkSt lv_s_l01Read_J6 x) (cutK lv_s_l01Read_N6 kn) kx kr := by kernel_rfl
theorem ss_l01Read_j6 {R : Type} (K : Nat) (C : Cx) (hP : C.P = Tryz.prog) (O : CfgOk C (cf_s_l01Read K)) (k : Nat) : SgS C (R := R) (mkSeg lv_s_l01Read_J6 lv_s_l01Read_N6 (gs_l01Read_j6 K k)) c_s_l01Read_J6 :=
  seg_sound O (by rw [hP]; kernel_rfl) (es_l01Read_j6 K k) (lpOk_of (en := en_s_l01Read K k) (S := hasK su_s_l01Read) (fun i => hasK_lk (sg_s_l01Read K k) i) _ (by rw [show partsOf (hasK su_s_l01Read) c_s_l01Read_J6 = [(true, c_s_l01Read_L7)] from by kernel_rfl]; exact (lpL_loop (f := mkLoop lv_s_l01Read_L7 (gs_l01Read_l7 K k)) (by kernel_rfl) (ss_l01Read_l7 K C hP O k) trivial)))
theorem es_l01Read_j3 {R : Type} (K : Nat) (k : Nat) (x : den lv_s_l01Read_J3.ty) (kn : den lv_s_l01Read_N3.ty → Option R) (kx : Nat → St → Option R) (kr : St → Option R) : gs_l01Read_j3 K k x kn kx kr = evC (cf_s_l01Read K) (en_s_l01Read K k) c_s_l01Read_J3 (mkSt lv_s_l01Read_J3 x) (cutK lv_s_l01Read_N3 kn) kx kr := by kernel_rfl
theorem ss_l01Read_j3 {R : Type} (K : Nat) (C : Cx) (hP : C.P = Tryz.prog) (O : CfgOk C (cf_s_l01Read K)) (k : Nat) : SgS C (R := R) (mkSeg lv_s_l01Read_J3 lv_s_l01Read_N3 (gs_l01Read_j3 K k)) c_s_l01Read_J3 :=
  seg_sound O (by rw [hP]; kernel_rfl) (es_l01Read_j3 K k) (lpOk_of (en := en_s_l01Read K k) (S := hasK su_s_l01Read) (fun i => hasK_lk (sg_s_l01Read K k) i) _ (by rw [show partsOf (hasK su_s_l01Read) c_s_l01Read_J3 = [(false, c_s_l01Read_J6)] from by kernel_rfl]; exact (lpL_seg (f := mkSeg lv_s_l01Read_J6 lv_s_l01Read_N6 (gs_l01Read_j6 K k)) (by kernel_rfl) (ss_l01Read_j6 K C hP O k) trivial)))
theorem e_s_l01Read (K : Nat) (x : den as_s_l01Read) : s_l01Read K x = evFn (cf_s_l01Read K) as_s_l01Read [false] (.tup (.pair (.st (.pair (.int .i64) (.pair (.int .i64) .unit))) (.pair .bool .unit))) (en_s_l01Read K K) Tryz.f169.results.toList (bodyOf Tryz.f169) x := by kernel_rfl
theorem ok_s_l01Read (K : Nat) : FnOk Tryz.prog 169 (sp_s_l01Read (s_l01Read K)) :=
  fn_ok (cf := cf_s_l01Read K) (en := en_s_l01Read K K) (c := bodyOf Tryz.f169) Tryz.func169 (by kernel_rfl) (by kernel_rfl) tysOk (fns_ok (l := [(93, sp_s_l01In (s_l01In K)), (120, sp_s_l01Rows (s_l01Rows K)), (175, sp_s_l01Of (s_l01Of K)), (184, sp_s_l01Bits (s_l01Bits K))]) ⟨ok_s_l01In K, ⟨ok_s_l01Rows K, ⟨ok_s_l01Of K, ⟨ok_s_l01Bits K, trivial⟩⟩⟩⟩) (shs_ok (l := []) trivial) (by kernel_rfl) rfl (Nat.le_of_ble_eq_true (by kernel_rfl)) (by kernel_rfl) (of_decide_eq_true (by kernel_rfl)) (by decide) (fun C hP O => lpOk_of (en := en_s_l01Read K K) (S := hasK su_s_l01Read) (fun i => hasK_lk (sg_s_l01Read K K) i) _ (by rw [show partsOf (hasK su_s_l01Read) (bodyOf Tryz.f169) = [(false, c_s_l01Read_J3)] from by kernel_rfl]; exact (lpL_seg (f := mkSeg lv_s_l01Read_J3 lv_s_l01Read_N3 (gs_l01Read_j3 K K)) (by kernel_rfl) (ss_l01Read_j3 K C hP O K) trivial))) (fun x y h => by rw [← e_s_l01Read]; exact h)
noncomputable def as_s_NamedFunc : Ty := (.pair .str .unit)
noncomputable def sp_s_NamedFunc (F : (ByteArray × Unit) → Option ((Int × Int × Unit) × Int × Unit)) : FnSpec := ⟨as_s_NamedFunc, [false], (.tup (.pair (.st (.pair (.int .i64) (.pair (.int .i64) .unit))) (.pair (.int .i64) .unit))), F⟩
noncomputable def s_NamedFunc_l3 {R : Type} (K : Nat) : Nat → ByteArray → (Int × Int × Unit) → (List ByteArray) → (List ByteArray) → Int → ((Int × Int × Unit) → Option R) → ((Int × Int × Unit) → Int → Option R) → Option R
  | 0, _, _, _, _, _, _, _ => none
  | k + 1, v0, v2, v4, v5, v6, kx0, kr =>
    (if (decide (v6 < (v4.length : Int))) = true then
    (if (bnds v6 (v4.length : Int)) = true then
    (if (cmpS .eql (v4.getD v6.toNat ByteArray.empty) v0) = true then
    (if (bnds v6 (v5.length : Int)) = true then
    (s_l01Read K ((v5.getD v6.toNat ByteArray.empty), ())).bind fun y3 =>
    kr y3.1 (0 : Int)
    else
    none)
    else
    s_NamedFunc_l3 K k v0 v2 v4 v5 (IntKind.i64.wrap (v6 + (1 : Int))) kx0 kr)
    else
    none)
    else
    kx0 v2)
noncomputable def s_NamedFunc (K : Nat) (x : (ByteArray × Unit)) : Option ((Int × Int × Unit) × Int × Unit) :=
    (s_l01Names K ()).bind fun y1 =>
    (s_l01Known K ()).bind fun y2 =>
    s_NamedFunc_l3 K K x.1 ((0 : Int), (0 : Int), ()) y1 y2 (0 : Int) (fun z4 =>
    some (((0 : Int), (0 : Int), ()), (4 : Int), ())) (fun z5 z6 =>
    some (z5, z6, ()))
noncomputable def lv_s_NamedFunc_L3 : Lv := [(0, (.v .str)), (2, (.bx (.v (.st (.pair (.int .i64) (.pair (.int .i64) .unit)))))), (4, (.r .str)), (5, (.r .str)), (6, (.v (.int .i64)))]
noncomputable def lv_s_NamedFunc_X0 : Lv := [(2, (.bx (.v (.st (.pair (.int .i64) (.pair (.int .i64) .unit))))))]
noncomputable def rv_s_NamedFunc : Lv := [(2, (.bx (.v (.st (.pair (.int .i64) (.pair (.int .i64) .unit)))))), (3, (.v (.int .i64)))]
noncomputable def gs_NamedFunc_l3 {R : Type} (K : Nat) (k : Nat) (x : den lv_s_NamedFunc_L3.ty) (kx : Nat → St → Option R) (kr : St → Option R) : Option R := s_NamedFunc_l3 K k x.1 x.2.1 x.2.2.1 x.2.2.2.1 x.2.2.2.2.1 (fun z0 => kx 0 (mkSt lv_s_NamedFunc_X0 (z0, ()))) (fun z0 z1 => kr (mkSt rv_s_NamedFunc (z0, z1, ())))
noncomputable def sg_s_NamedFunc {R : Type} (K : Nat) (k : Nat) : List (Nat × SegS R) := []
noncomputable def su_s_NamedFunc : List (Nat × Unit) := []
noncomputable def en_s_NamedFunc {R : Type} (K : Nat) (k : Nat) : Env R := { L := lk [(3, mkLoop lv_s_NamedFunc_L3 (gs_NamedFunc_l3 K k))], X := lk [(0, lv_s_NamedFunc_X0)], S := lk (sg_s_NamedFunc K k), rv := rv_s_NamedFunc }
noncomputable def cf_s_NamedFunc (K : Nat) : Cfg := { ty := lk tys, fn := lk [(167, sp_s_l01Names (s_l01Names K)), (168, sp_s_l01Known (s_l01Known K)), (169, sp_s_l01Read (s_l01Read K))], fs := lk [], prot := 0, nt := Tryz.f135.ntmps }
noncomputable def c_s_NamedFunc_L3 : Code := nthC (partsOf (hasK su_s_NamedFunc) (bodyOf Tryz.f135)) 0
theorem es_NamedFunc_l3 {R : Type} (K : Nat) (k : Nat) (x : den lv_s_NamedFunc_L3.ty) (kx : Nat → St → Option R) (kr : St → Option R) : gs_NamedFunc_l3 K (k + 1) x kx kr = evC (cf_s_NamedFunc K) (en_s_NamedFunc K k) c_s_NamedFunc_L3 (mkSt lv_s_NamedFunc_L3 x) (fun s => mkLoop lv_s_NamedFunc_L3 (gs_NamedFunc_l3 K k) s kx kr) kx kr := by kernel_rfl
theorem ss_NamedFunc_l3 {R : Type} (K : Nat) (C : Cx) (hP : C.P = Tryz.prog) (O : CfgOk C (cf_s_NamedFunc K)) (k : Nat) : LpS C (R := R) (mkLoop lv_s_NamedFunc_L3 (gs_NamedFunc_l3 K k)) c_s_NamedFunc_L3 :=
  loop_sound O (by rw [hP]; kernel_rfl) (fun x kx kr => rfl) (es_NamedFunc_l3 K) (fun k => lpOk_of (en := en_s_NamedFunc K k) (S := hasK su_s_NamedFunc) (fun i => hasK_lk (sg_s_NamedFunc K k) i) _ (by rw [show partsOf (hasK su_s_NamedFunc) c_s_NamedFunc_L3 = [] from by kernel_rfl]; exact trivial)) k
theorem e_s_NamedFunc (K : Nat) (x : den as_s_NamedFunc) : s_NamedFunc K x = evFn (cf_s_NamedFunc K) as_s_NamedFunc [false] (.tup (.pair (.st (.pair (.int .i64) (.pair (.int .i64) .unit))) (.pair (.int .i64) .unit))) (en_s_NamedFunc K K) Tryz.f135.results.toList (bodyOf Tryz.f135) x := by kernel_rfl
theorem ok_s_NamedFunc (K : Nat) : FnOk Tryz.prog 135 (sp_s_NamedFunc (s_NamedFunc K)) :=
  fn_ok (cf := cf_s_NamedFunc K) (en := en_s_NamedFunc K K) (c := bodyOf Tryz.f135) Tryz.func135 (by kernel_rfl) (by kernel_rfl) tysOk (fns_ok (l := [(167, sp_s_l01Names (s_l01Names K)), (168, sp_s_l01Known (s_l01Known K)), (169, sp_s_l01Read (s_l01Read K))]) ⟨ok_s_l01Names K, ⟨ok_s_l01Known K, ⟨ok_s_l01Read K, trivial⟩⟩⟩) (shs_ok (l := []) trivial) (by kernel_rfl) rfl (Nat.le_of_ble_eq_true (by kernel_rfl)) (by kernel_rfl) (of_decide_eq_true (by kernel_rfl)) (by decide) (fun C hP O => lpOk_of (en := en_s_NamedFunc K K) (S := hasK su_s_NamedFunc) (fun i => hasK_lk (sg_s_NamedFunc K K) i) _ (by rw [show partsOf (hasK su_s_NamedFunc) (bodyOf Tryz.f135) = [(true, c_s_NamedFunc_L3)] from by kernel_rfl]; exact (lpL_loop (f := mkLoop lv_s_NamedFunc_L3 (gs_NamedFunc_l3 K K)) (by kernel_rfl) (ss_NamedFunc_l3 K C hP O K) trivial))) (fun x y h => by rw [← e_s_NamedFunc]; exact h)
noncomputable def as_s_l01At : Ty := (.pair (.st (.pair (.int .i64) (.pair (.int .i64) .unit))) (.pair (.int .i64) .unit))
noncomputable def sp_s_l01At (F : ((Int × Int × Unit) × Int × Unit) → Option Int) : FnSpec := ⟨as_s_l01At, [false, false], (.int .i64), F⟩
noncomputable def s_l01At (K : Nat) (x : ((Int × Int × Unit) × Int × Unit)) : Option Int :=
    (if (decide ((0 : Int) ≤ (IntKind.u64.wrap x.2.1))) = true then
    let x1 := (bitI .and .i64 (shrI .i64 x.1.2.1 (IntKind.u64.wrap x.2.1)) (1 : Int))
    some x1
    else
    none)
noncomputable def rv_s_l01At : Lv := [(4, (.v (.int .i64)))]
noncomputable def sg_s_l01At {R : Type} (K : Nat) (k : Nat) : List (Nat × SegS R) := []
noncomputable def su_s_l01At : List (Nat × Unit) := []
noncomputable def en_s_l01At {R : Type} (K : Nat) (k : Nat) : Env R := { L := lk [], X := lk [], S := lk (sg_s_l01At K k), rv := rv_s_l01At }
noncomputable def cf_s_l01At (K : Nat) : Cfg := { ty := lk tys, fn := lk [], fs := lk [], prot := 0, nt := Tryz.f176.ntmps }
theorem e_s_l01At (K : Nat) (x : den as_s_l01At) : s_l01At K x = evFn (cf_s_l01At K) as_s_l01At [false, false] (.int .i64) (en_s_l01At K K) Tryz.f176.results.toList (bodyOf Tryz.f176) x := by kernel_rfl
theorem ok_s_l01At (K : Nat) : FnOk Tryz.prog 176 (sp_s_l01At (s_l01At K)) :=
  fn_ok (cf := cf_s_l01At K) (en := en_s_l01At K K) (c := bodyOf Tryz.f176) Tryz.func176 (by kernel_rfl) (by kernel_rfl) tysOk (fns_ok (l := []) trivial) (shs_ok (l := []) trivial) (by kernel_rfl) rfl (Nat.le_of_ble_eq_true (by kernel_rfl)) (by kernel_rfl) (of_decide_eq_true (by kernel_rfl)) (by decide) (fun C hP O => lpOk_of (en := en_s_l01At K K) (S := hasK su_s_l01At) (fun i => hasK_lk (sg_s_l01At K K) i) _ (by rw [show partsOf (hasK su_s_l01At) (bodyOf Tryz.f176) = [] from by kernel_rfl]; exact trivial)) (fun x y h => by rw [← e_s_l01At]; exact h)
noncomputable def as_s_l06Value : Ty := (.pair (.st (.pair (.int .i64) (.pair (.int .i64) .unit))) (.pair (.sl (.int .i64)) (.pair (.int .i64) .unit)))
noncomputable def sp_s_l06Value (F : ((Int × Int × Unit) × (List Int) × Int × Unit) → Option Int) : FnSpec := ⟨as_s_l06Value, [false, false, false], (.int .i64), F⟩
noncomputable def s_l06Value_l7 {R : Type} (K : Nat) : Nat → (List Int) → Int → (Int × Int × Unit) → Int → Int → Int → Int → ((List Int) → Int → (Int × Int × Unit) → Int → Int → Int → Option R) → Option R
  | 0, _, _, _, _, _, _, _, _ => none
  | k + 1, v1, v2, v3, v7, v8, v9, v10, kx2 =>
    (if (decide (v10 < (v1.length : Int))) = true then
    (if (bnds v10 (v1.length : Int)) = true then
    (if (decide ((0 : Int) ≤ (IntKind.u64.wrap v8))) = true then
    let x1 := (shrI .i64 (v1.getD v10.toNat (0 : Int)) (IntKind.u64.wrap v8))
    (if (decide ((0 : Int) ≤ (IntKind.u64.wrap v10))) = true then
    let x2 := (shlI .i64 (bitI .and .i64 x1 (1 : Int)) (IntKind.u64.wrap v10))
    s_l06Value_l7 K k v1 v2 v3 v7 v8 (bitI .or .i64 v9 x2) (IntKind.i64.wrap (v10 + (1 : Int))) kx2
    else
    none)
    else
    none)
    else
    none)
    else
    kx2 v1 v2 v3 v7 v8 v9)
noncomputable def s_l06Value_l3 {R : Type} (K : Nat) : Nat → (List Int) → Int → (Int × Int × Unit) → Int → Int → (Int → Option R) → Option R
  | 0, _, _, _, _, _, _ => none
  | k + 1, v1, v2, v3, v7, v8, kx0 =>
    (if (decide (v8 < v2)) = true then
    s_l06Value_l7 K k v1 v2 v3 v7 v8 (0 : Int) (0 : Int) (fun z3 z4 z5 z6 z7 z8 =>
    (s_l01At K (z5, z8, ())).bind fun y9 =>
    (if (decide ((0 : Int) ≤ (IntKind.u64.wrap z7))) = true then
    s_l06Value_l3 K k z3 z4 z5 (bitI .or .i64 z6 (shlI .i64 y9 (IntKind.u64.wrap z7))) (IntKind.i64.wrap (z7 + (1 : Int))) kx0
    else
    none))
    else
    kx0 v7)
noncomputable def s_l06Value (K : Nat) (x : ((Int × Int × Unit) × (List Int) × Int × Unit)) : Option Int :=
    s_l06Value_l3 K K x.2.1 x.2.2.1 x.1 (0 : Int) (0 : Int) (fun z10 =>
    some z10)
noncomputable def lv_s_l06Value_L3 : Lv := [(1, (.v (.sl (.int .i64)))), (2, (.v (.int .i64))), (3, (.bx (.v (.st (.pair (.int .i64) (.pair (.int .i64) .unit)))))), (7, (.v (.int .i64))), (8, (.v (.int .i64)))]
noncomputable def lv_s_l06Value_L7 : Lv := [(1, (.v (.sl (.int .i64)))), (2, (.v (.int .i64))), (3, (.bx (.v (.st (.pair (.int .i64) (.pair (.int .i64) .unit)))))), (7, (.v (.int .i64))), (8, (.v (.int .i64))), (9, (.v (.int .i64))), (10, (.v (.int .i64)))]
noncomputable def lv_s_l06Value_X0 : Lv := [(7, (.v (.int .i64)))]
noncomputable def lv_s_l06Value_X2 : Lv := [(1, (.v (.sl (.int .i64)))), (2, (.v (.int .i64))), (3, (.bx (.v (.st (.pair (.int .i64) (.pair (.int .i64) .unit)))))), (7, (.v (.int .i64))), (8, (.v (.int .i64))), (9, (.v (.int .i64)))]
noncomputable def rv_s_l06Value : Lv := [(6, (.v (.int .i64)))]
noncomputable def gs_l06Value_l7 {R : Type} (K : Nat) (k : Nat) (x : den lv_s_l06Value_L7.ty) (kx : Nat → St → Option R) (kr : St → Option R) : Option R := s_l06Value_l7 K k x.1 x.2.1 x.2.2.1 x.2.2.2.1 x.2.2.2.2.1 x.2.2.2.2.2.1 x.2.2.2.2.2.2.1 (fun z0 z1 z2 z3 z4 z5 => kx 2 (mkSt lv_s_l06Value_X2 (z0, z1, z2, z3, z4, z5, ())))
noncomputable def gs_l06Value_l3 {R : Type} (K : Nat) (k : Nat) (x : den lv_s_l06Value_L3.ty) (kx : Nat → St → Option R) (kr : St → Option R) : Option R := s_l06Value_l3 K k x.1 x.2.1 x.2.2.1 x.2.2.2.1 x.2.2.2.2.1 (fun z0 => kx 0 (mkSt lv_s_l06Value_X0 (z0, ())))
noncomputable def sg_s_l06Value {R : Type} (K : Nat) (k : Nat) : List (Nat × SegS R) := []
noncomputable def su_s_l06Value : List (Nat × Unit) := []
noncomputable def en_s_l06Value {R : Type} (K : Nat) (k : Nat) : Env R := { L := lk [(7, mkLoop lv_s_l06Value_L7 (gs_l06Value_l7 K k)), (3, mkLoop lv_s_l06Value_L3 (gs_l06Value_l3 K k))], X := lk [(0, lv_s_l06Value_X0), (2, lv_s_l06Value_X2)], S := lk (sg_s_l06Value K k), rv := rv_s_l06Value }
noncomputable def cf_s_l06Value (K : Nat) : Cfg := { ty := lk tys, fn := lk [(176, sp_s_l01At (s_l01At K))], fs := lk [], prot := 0, nt := Tryz.f185.ntmps }
noncomputable def c_s_l06Value_L3 : Code := nthC (partsOf (hasK su_s_l06Value) (bodyOf Tryz.f185)) 0
noncomputable def c_s_l06Value_L7 : Code := nthC (partsOf (hasK su_s_l06Value) c_s_l06Value_L3) 0
theorem es_l06Value_l7 {R : Type} (K : Nat) (k : Nat) (x : den lv_s_l06Value_L7.ty) (kx : Nat → St → Option R) (kr : St → Option R) : gs_l06Value_l7 K (k + 1) x kx kr = evC (cf_s_l06Value K) (en_s_l06Value K k) c_s_l06Value_L7 (mkSt lv_s_l06Value_L7 x) (fun s => mkLoop lv_s_l06Value_L7 (gs_l06Value_l7 K k) s kx kr) kx kr := by kernel_rfl
theorem ss_l06Value_l7 {R : Type} (K : Nat) (C : Cx) (hP : C.P = Tryz.prog) (O : CfgOk C (cf_s_l06Value K)) (k : Nat) : LpS C (R := R) (mkLoop lv_s_l06Value_L7 (gs_l06Value_l7 K k)) c_s_l06Value_L7 :=
  loop_sound O (by rw [hP]; kernel_rfl) (fun x kx kr => rfl) (es_l06Value_l7 K) (fun k => lpOk_of (en := en_s_l06Value K k) (S := hasK su_s_l06Value) (fun i => hasK_lk (sg_s_l06Value K k) i) _ (by rw [show partsOf (hasK su_s_l06Value) c_s_l06Value_L7 = [] from by kernel_rfl]; exact trivial)) k
theorem es_l06Value_l3 {R : Type} (K : Nat) (k : Nat) (x : den lv_s_l06Value_L3.ty) (kx : Nat → St → Option R) (kr : St → Option R) : gs_l06Value_l3 K (k + 1) x kx kr = evC (cf_s_l06Value K) (en_s_l06Value K k) c_s_l06Value_L3 (mkSt lv_s_l06Value_L3 x) (fun s => mkLoop lv_s_l06Value_L3 (gs_l06Value_l3 K k) s kx kr) kx kr := by kernel_rfl
theorem ss_l06Value_l3 {R : Type} (K : Nat) (C : Cx) (hP : C.P = Tryz.prog) (O : CfgOk C (cf_s_l06Value K)) (k : Nat) : LpS C (R := R) (mkLoop lv_s_l06Value_L3 (gs_l06Value_l3 K k)) c_s_l06Value_L3 :=
  loop_sound O (by rw [hP]; kernel_rfl) (fun x kx kr => rfl) (es_l06Value_l3 K) (fun k => lpOk_of (en := en_s_l06Value K k) (S := hasK su_s_l06Value) (fun i => hasK_lk (sg_s_l06Value K k) i) _ (by rw [show partsOf (hasK su_s_l06Value) c_s_l06Value_L3 = [(true, c_s_l06Value_L7)] from by kernel_rfl]; exact (lpL_loop (f := mkLoop lv_s_l06Value_L7 (gs_l06Value_l7 K k)) (by kernel_rfl) (ss_l06Value_l7 K C hP O k) trivial))) k
theorem e_s_l06Value (K : Nat) (x : den as_s_l06Value) : s_l06Value K x = evFn (cf_s_l06Value K) as_s_l06Value [false, false, false] (.int .i64) (en_s_l06Value K K) Tryz.f185.results.toList (bodyOf Tryz.f185) x := by kernel_rfl
theorem ok_s_l06Value (K : Nat) : FnOk Tryz.prog 185 (sp_s_l06Value (s_l06Value K)) :=
  fn_ok (cf := cf_s_l06Value K) (en := en_s_l06Value K K) (c := bodyOf Tryz.f185) Tryz.func185 (by kernel_rfl) (by kernel_rfl) tysOk (fns_ok (l := [(176, sp_s_l01At (s_l01At K))]) ⟨ok_s_l01At K, trivial⟩) (shs_ok (l := []) trivial) (by kernel_rfl) rfl (Nat.le_of_ble_eq_true (by kernel_rfl)) (by kernel_rfl) (of_decide_eq_true (by kernel_rfl)) (by decide) (fun C hP O => lpOk_of (en := en_s_l06Value K K) (S := hasK su_s_l06Value) (fun i => hasK_lk (sg_s_l06Value K K) i) _ (by rw [show partsOf (hasK su_s_l06Value) (bodyOf Tryz.f185) = [(true, c_s_l06Value_L3)] from by kernel_rfl]; exact (lpL_loop (f := mkLoop lv_s_l06Value_L3 (gs_l06Value_l3 K K)) (by kernel_rfl) (ss_l06Value_l3 K C hP O K) trivial))) (fun x y h => by rw [← e_s_l06Value]; exact h)
noncomputable def s_l06Made_l5 {R : Type} (K : Nat) (r : ((Int × Int × Unit) × (Int × Int × Unit) × (List Int) × (List Int) × Unit) → Option Int) : Nat → (List Int) → (List Int) → (Int × Int × Unit) → (Int × Int × Unit) → Int → Int → (Int → Option R) → Option R
  | 0, _, _, _, _, _, _, _ => none
  | k + 1, v2, v3, v4, v5, v9, v10, kx0 =>
    (if (decide (v10 < (v2.length : Int))) = true then
    (s_l01Own K (v3, ())).bind fun y2 =>
    (if (bnds v10 (v2.length : Int)) = true then
    let l3 := [(v2.getD v10.toNat (0 : Int))]
    (if (decide (y2.length + l3.length ≤ lim)) = true then
    let l4 := (y2 ++ l3)
    (r (v4, v5, v2, l4, ())).bind fun y5 =>
    s_l06Made_l5 K r k v2 v3 v4 v5 (bitI .or .i64 v9 y5) (IntKind.i64.wrap (v10 + (1 : Int))) kx0
    else
    none)
    else
    none)
    else
    kx0 v9)
noncomputable def s_l06Made_b (K : Nat) (r : ((Int × Int × Unit) × (Int × Int × Unit) × (List Int) × (List Int) × Unit) → Option Int) (x : ((Int × Int × Unit) × (Int × Int × Unit) × (List Int) × (List Int) × Unit)) : Option Int :=
    (if (decide ((x.2.2.2.1.length : Int) = x.1.1)) = true then
    (s_l06Value K (x.1, x.2.2.2.1, x.2.1.1, ())).bind fun y1 =>
    (if (decide ((0 : Int) ≤ (IntKind.u64.wrap y1))) = true then
    some (shlI .i64 (1 : Int) (IntKind.u64.wrap y1))
    else
    none)
    else
    s_l06Made_l5 K r K x.2.2.1 x.2.2.2.1 x.1 x.2.1 (0 : Int) (0 : Int) (fun z6 =>
    some z6))
noncomputable def s_l06Made (K : Nat) : Nat → ((Int × Int × Unit) × (Int × Int × Unit) × (List Int) × (List Int) × Unit) → Option Int
  | 0 => fun _ => none
  | k + 1 => s_l06Made_b K (s_l06Made K k)
noncomputable def lv_s_l06Made_L5 : Lv := [(2, (.v (.sl (.int .i64)))), (3, (.v (.sl (.int .i64)))), (4, (.bx (.v (.st (.pair (.int .i64) (.pair (.int .i64) .unit)))))), (5, (.bx (.v (.st (.pair (.int .i64) (.pair (.int .i64) .unit)))))), (9, (.v (.int .i64))), (10, (.v (.int .i64)))]
noncomputable def lv_s_l06Made_X0 : Lv := [(9, (.v (.int .i64)))]
noncomputable def rv_s_l06Made : Lv := [(8, (.v (.int .i64)))]
noncomputable def gs_l06Made_l5 {R : Type} (K : Nat) (r : ((Int × Int × Unit) × (Int × Int × Unit) × (List Int) × (List Int) × Unit) → Option Int) (k : Nat) (x : den lv_s_l06Made_L5.ty) (kx : Nat → St → Option R) (kr : St → Option R) : Option R := s_l06Made_l5 K r k x.1 x.2.1 x.2.2.1 x.2.2.2.1 x.2.2.2.2.1 x.2.2.2.2.2.1 (fun z0 => kx 0 (mkSt lv_s_l06Made_X0 (z0, ())))
noncomputable def sg_s_l06Made {R : Type} (K : Nat) (r : ((Int × Int × Unit) × (Int × Int × Unit) × (List Int) × (List Int) × Unit) → Option Int) (k : Nat) : List (Nat × SegS R) := []
noncomputable def su_s_l06Made : List (Nat × Unit) := []
noncomputable def en_s_l06Made {R : Type} (K : Nat) (r : ((Int × Int × Unit) × (Int × Int × Unit) × (List Int) × (List Int) × Unit) → Option Int) (k : Nat) : Env R := { L := lk [(5, mkLoop lv_s_l06Made_L5 (gs_l06Made_l5 K r k))], X := lk [(0, lv_s_l06Made_X0)], S := lk (sg_s_l06Made K r k), rv := rv_s_l06Made }
noncomputable def cf_s_l06Made (K : Nat) (r : ((Int × Int × Unit) × (Int × Int × Unit) × (List Int) × (List Int) × Unit) → Option Int) : Cfg := { ty := lk tys, fn := lk [(133, sp_s_l01Own (s_l01Own K)), (170, sp_s_l06Made (r)), (185, sp_s_l06Value (s_l06Value K))], fs := lk [], prot := 0, nt := Tryz.f170.ntmps }
noncomputable def c_s_l06Made_L5 : Code := nthC (partsOf (hasK su_s_l06Made) (bodyOf Tryz.f170)) 0
theorem es_l06Made_l5 {R : Type} (K : Nat) (r : ((Int × Int × Unit) × (Int × Int × Unit) × (List Int) × (List Int) × Unit) → Option Int) (k : Nat) (x : den lv_s_l06Made_L5.ty) (kx : Nat → St → Option R) (kr : St → Option R) : gs_l06Made_l5 K r (k + 1) x kx kr = evC (cf_s_l06Made K r) (en_s_l06Made K r k) c_s_l06Made_L5 (mkSt lv_s_l06Made_L5 x) (fun s => mkLoop lv_s_l06Made_L5 (gs_l06Made_l5 K r k) s kx kr) kx kr := by kernel_rfl
theorem ss_l06Made_l5 {R : Type} (K : Nat) (r : ((Int × Int × Unit) × (Int × Int × Unit) × (List Int) × (List Int) × Unit) → Option Int) (C : Cx) (hP : C.P = Tryz.prog) (O : CfgOk C (cf_s_l06Made K r)) (k : Nat) : LpS C (R := R) (mkLoop lv_s_l06Made_L5 (gs_l06Made_l5 K r k)) c_s_l06Made_L5 :=
  loop_sound O (by rw [hP]; kernel_rfl) (fun x kx kr => rfl) (es_l06Made_l5 K r) (fun k => lpOk_of (en := en_s_l06Made K r k) (S := hasK su_s_l06Made) (fun i => hasK_lk (sg_s_l06Made K r k) i) _ (by rw [show partsOf (hasK su_s_l06Made) c_s_l06Made_L5 = [] from by kernel_rfl]; exact trivial)) k
theorem e_s_l06Made (K : Nat) (r : ((Int × Int × Unit) × (Int × Int × Unit) × (List Int) × (List Int) × Unit) → Option Int) (x : den as_s_l06Made) : s_l06Made_b K r x = evFn (cf_s_l06Made K r) as_s_l06Made [false, false, false, false] (.int .i64) (en_s_l06Made K r K) Tryz.f170.results.toList (bodyOf Tryz.f170) x := by kernel_rfl
theorem okb_s_l06Made (K : Nat) (r : ((Int × Int × Unit) × (Int × Int × Unit) × (List Int) × (List Int) × Unit) → Option Int) (hr : FnOk Tryz.prog 170 (sp_s_l06Made r)) : FnOk Tryz.prog 170 (sp_s_l06Made (s_l06Made_b K r)) :=
  fn_ok (cf := cf_s_l06Made K r) (en := en_s_l06Made K r K) (c := bodyOf Tryz.f170) Tryz.func170 (by kernel_rfl) (by kernel_rfl) tysOk (fns_ok (l := [(133, sp_s_l01Own (s_l01Own K)), (170, sp_s_l06Made (r)), (185, sp_s_l06Value (s_l06Value K))]) ⟨ok_s_l01Own K, ⟨hr, ⟨ok_s_l06Value K, trivial⟩⟩⟩) (shs_ok (l := []) trivial) (by kernel_rfl) rfl (Nat.le_of_ble_eq_true (by kernel_rfl)) (by kernel_rfl) (of_decide_eq_true (by kernel_rfl)) (by decide) (fun C hP O => lpOk_of (en := en_s_l06Made K r K) (S := hasK su_s_l06Made) (fun i => hasK_lk (sg_s_l06Made K r K) i) _ (by rw [show partsOf (hasK su_s_l06Made) (bodyOf Tryz.f170) = [(true, c_s_l06Made_L5)] from by kernel_rfl]; exact (lpL_loop (f := mkLoop lv_s_l06Made_L5 (gs_l06Made_l5 K r K)) (by kernel_rfl) (ss_l06Made_l5 K r C hP O K) trivial))) (fun x y h => by rw [← e_s_l06Made]; exact h)
theorem ok_s_l06Made (K : Nat) : ∀ k, FnOk Tryz.prog 170 (sp_s_l06Made (s_l06Made K k))
  | 0 => fnOk_none
  | k + 1 => okb_s_l06Made K (s_l06Made K k) (ok_s_l06Made K k)
noncomputable def as_s_l06List : Ty := (.pair (.st (.pair (.int .i64) (.pair (.int .i64) .unit))) .unit)
noncomputable def sp_s_l06List (F : ((Int × Int × Unit) × Unit) → Option (List Int)) : FnSpec := ⟨as_s_l06List, [false], (.sl (.int .i64)), F⟩
noncomputable def s_l06List_l3 {R : Type} (K : Nat) : Nat → (Int × Int × Unit) → (List Int) → Int → ((List Int) → Option R) → Option R
  | 0, _, _, _, _ => none
  | k + 1, v1, v3, v4, kx0 =>
    (s_l01Rows K (v1.1, ())).bind fun y2 =>
    (if (decide (v4 < y2)) = true then
    (if (decide ((0 : Int) ≤ (IntKind.u64.wrap v4))) = true then
    let x3 := (bitI .and .i64 (shrI .i64 v1.2.1 (IntKind.u64.wrap v4)) (1 : Int))
    (if (decide (x3 = (1 : Int))) = true then
    (if (decide (v3.length + ([v4]).length ≤ lim)) = true then
    let l4 := (v3 ++ [v4])
    s_l06List_l3 K k v1 l4 (IntKind.i64.wrap (v4 + (1 : Int))) kx0
    else
    none)
    else
    s_l06List_l3 K k v1 v3 (IntKind.i64.wrap (v4 + (1 : Int))) kx0)
    else
    none)
    else
    kx0 v3)
noncomputable def s_l06List (K : Nat) (x : ((Int × Int × Unit) × Unit)) : Option (List Int) :=
    let l1 := ([] : List Int)
    s_l06List_l3 K K x.1 l1 (0 : Int) (fun z5 =>
    some z5)
noncomputable def lv_s_l06List_L3 : Lv := [(1, (.bx (.v (.st (.pair (.int .i64) (.pair (.int .i64) .unit)))))), (3, (.r (.int .i64))), (4, (.v (.int .i64)))]
noncomputable def lv_s_l06List_X0 : Lv := [(3, (.r (.int .i64)))]
noncomputable def rv_s_l06List : Lv := [(2, (.r (.int .i64)))]
noncomputable def gs_l06List_l3 {R : Type} (K : Nat) (k : Nat) (x : den lv_s_l06List_L3.ty) (kx : Nat → St → Option R) (kr : St → Option R) : Option R := s_l06List_l3 K k x.1 x.2.1 x.2.2.1 (fun z0 => kx 0 (mkSt lv_s_l06List_X0 (z0, ())))
noncomputable def sg_s_l06List {R : Type} (K : Nat) (k : Nat) : List (Nat × SegS R) := []
noncomputable def su_s_l06List : List (Nat × Unit) := []
noncomputable def en_s_l06List {R : Type} (K : Nat) (k : Nat) : Env R := { L := lk [(3, mkLoop lv_s_l06List_L3 (gs_l06List_l3 K k))], X := lk [(0, lv_s_l06List_X0)], S := lk (sg_s_l06List K k), rv := rv_s_l06List }
noncomputable def cf_s_l06List (K : Nat) : Cfg := { ty := lk tys, fn := lk [(120, sp_s_l01Rows (s_l01Rows K))], fs := lk [], prot := 0, nt := Tryz.f171.ntmps }
noncomputable def c_s_l06List_L3 : Code := nthC (partsOf (hasK su_s_l06List) (bodyOf Tryz.f171)) 0
theorem es_l06List_l3 {R : Type} (K : Nat) (k : Nat) (x : den lv_s_l06List_L3.ty) (kx : Nat → St → Option R) (kr : St → Option R) : gs_l06List_l3 K (k + 1) x kx kr = evC (cf_s_l06List K) (en_s_l06List K k) c_s_l06List_L3 (mkSt lv_s_l06List_L3 x) (fun s => mkLoop lv_s_l06List_L3 (gs_l06List_l3 K k) s kx kr) kx kr := by kernel_rfl
theorem ss_l06List_l3 {R : Type} (K : Nat) (C : Cx) (hP : C.P = Tryz.prog) (O : CfgOk C (cf_s_l06List K)) (k : Nat) : LpS C (R := R) (mkLoop lv_s_l06List_L3 (gs_l06List_l3 K k)) c_s_l06List_L3 :=
  loop_sound O (by rw [hP]; kernel_rfl) (fun x kx kr => rfl) (es_l06List_l3 K) (fun k => lpOk_of (en := en_s_l06List K k) (S := hasK su_s_l06List) (fun i => hasK_lk (sg_s_l06List K k) i) _ (by rw [show partsOf (hasK su_s_l06List) c_s_l06List_L3 = [] from by kernel_rfl]; exact trivial)) k
theorem e_s_l06List (K : Nat) (x : den as_s_l06List) : s_l06List K x = evFn (cf_s_l06List K) as_s_l06List [false] (.sl (.int .i64)) (en_s_l06List K K) Tryz.f171.results.toList (bodyOf Tryz.f171) x := by kernel_rfl
theorem ok_s_l06List (K : Nat) : FnOk Tryz.prog 171 (sp_s_l06List (s_l06List K)) :=
  fn_ok (cf := cf_s_l06List K) (en := en_s_l06List K K) (c := bodyOf Tryz.f171) Tryz.func171 (by kernel_rfl) (by kernel_rfl) tysOk (fns_ok (l := [(120, sp_s_l01Rows (s_l01Rows K))]) ⟨ok_s_l01Rows K, trivial⟩) (shs_ok (l := []) trivial) (by kernel_rfl) rfl (Nat.le_of_ble_eq_true (by kernel_rfl)) (by kernel_rfl) (of_decide_eq_true (by kernel_rfl)) (by decide) (fun C hP O => lpOk_of (en := en_s_l06List K K) (S := hasK su_s_l06List) (fun i => hasK_lk (sg_s_l06List K K) i) _ (by rw [show partsOf (hasK su_s_l06List) (bodyOf Tryz.f171) = [(true, c_s_l06List_L3)] from by kernel_rfl]; exact (lpL_loop (f := mkLoop lv_s_l06List_L3 (gs_l06List_l3 K K)) (by kernel_rfl) (ss_l06List_l3 K C hP O K) trivial))) (fun x y h => by rw [← e_s_l06List]; exact h)
noncomputable def as_s_l06Keeps : Ty := (.pair (.st (.pair (.int .i64) (.pair (.int .i64) .unit))) (.pair (.st (.pair (.int .i64) (.pair (.int .i64) .unit))) .unit))
noncomputable def sp_s_l06Keeps (F : ((Int × Int × Unit) × (Int × Int × Unit) × Unit) → Option Bool) : FnSpec := ⟨as_s_l06Keeps, [false, false], .bool, F⟩
noncomputable def s_l06Keeps (K : Nat) (x : ((Int × Int × Unit) × (Int × Int × Unit) × Unit)) : Option Bool :=
    (s_l06List K (x.2.1, ())).bind fun y1 =>
    let l2 := ([] : List Int)
    (s_l06Made K K (x.1, x.2.1, y1, l2, ())).bind fun y3 =>
    some (decide ((bitI .andNot .i64 y3 x.2.1.2.1) = (0 : Int)))
noncomputable def rv_s_l06Keeps : Lv := [(4, (.v .bool))]
noncomputable def sg_s_l06Keeps {R : Type} (K : Nat) (k : Nat) : List (Nat × SegS R) := []
noncomputable def su_s_l06Keeps : List (Nat × Unit) := []
noncomputable def en_s_l06Keeps {R : Type} (K : Nat) (k : Nat) : Env R := { L := lk [], X := lk [], S := lk (sg_s_l06Keeps K k), rv := rv_s_l06Keeps }
noncomputable def cf_s_l06Keeps (K : Nat) : Cfg := { ty := lk tys, fn := lk [(170, sp_s_l06Made (s_l06Made K K)), (171, sp_s_l06List (s_l06List K))], fs := lk [], prot := 0, nt := Tryz.f136.ntmps }
theorem e_s_l06Keeps (K : Nat) (x : den as_s_l06Keeps) : s_l06Keeps K x = evFn (cf_s_l06Keeps K) as_s_l06Keeps [false, false] .bool (en_s_l06Keeps K K) Tryz.f136.results.toList (bodyOf Tryz.f136) x := by kernel_rfl
theorem ok_s_l06Keeps (K : Nat) : FnOk Tryz.prog 136 (sp_s_l06Keeps (s_l06Keeps K)) :=
  fn_ok (cf := cf_s_l06Keeps K) (en := en_s_l06Keeps K K) (c := bodyOf Tryz.f136) Tryz.func136 (by kernel_rfl) (by kernel_rfl) tysOk (fns_ok (l := [(170, sp_s_l06Made (s_l06Made K K)), (171, sp_s_l06List (s_l06List K))]) ⟨ok_s_l06Made K K, ⟨ok_s_l06List K, trivial⟩⟩) (shs_ok (l := []) trivial) (by kernel_rfl) rfl (Nat.le_of_ble_eq_true (by kernel_rfl)) (by kernel_rfl) (of_decide_eq_true (by kernel_rfl)) (by decide) (fun C hP O => lpOk_of (en := en_s_l06Keeps K K) (S := hasK su_s_l06Keeps) (fun i => hasK_lk (sg_s_l06Keeps K K) i) _ (by rw [show partsOf (hasK su_s_l06Keeps) (bodyOf Tryz.f136) = [] from by kernel_rfl]; exact trivial)) (fun x y h => by rw [← e_s_l06Keeps]; exact h)
noncomputable def as_s_l09Row : Ty := (.pair (.st (.pair (.int .i64) (.pair (.int .i64) .unit))) .unit)
noncomputable def sp_s_l09Row (F : ((Int × Int × Unit) × Unit) → Option (List Int)) : FnSpec := ⟨as_s_l09Row, [false], (.sl (.int .i64)), F⟩
noncomputable def s_l09Row_l8 {R : Type} (K : Nat) : Nat → (Int × Int × Unit) → (List Int) → (List ByteArray) → Int → ((List Int) → Option R) → Option R
  | 0, _, _, _, _, _ => none
  | k + 1, v1, v3, v4, v5, kx0 =>
    (if (decide (v5 < (4 : Int))) = true then
    (if (bnds v5 (v4.length : Int)) = true then
    (s_NamedFunc K ((v4.getD v5.toNat ByteArray.empty), ())).bind fun y8 =>
    (s_l06Keeps K (y8.1, v1, ())).bind fun y9 =>
    (if y9 = true then
    (if (bnds (IntKind.i64.wrap (v5 + (2 : Int))) (v3.length : Int)) = true then
    let l10 := (v3.set (IntKind.i64.wrap (v5 + (2 : Int))).toNat (1 : Int))
    s_l09Row_l8 K k v1 l10 v4 (IntKind.i64.wrap (v5 + (1 : Int))) kx0
    else
    none)
    else
    s_l09Row_l8 K k v1 v3 v4 (IntKind.i64.wrap (v5 + (1 : Int))) kx0)
    else
    none)
    else
    kx0 v3)
noncomputable def s_l09Row_j6 {R : Type} (K : Nat) (k : Nat) (v1 : (Int × Int × Unit)) (v3 : (List Int)) (kn : Option R) (kr : ((List Int) → Option R)) : Option R :=
    let l7 := [(⟨#[97, 110, 100]⟩ : ByteArray), (⟨#[111, 114]⟩ : ByteArray), (⟨#[109, 97, 106, 111, 114, 105, 116, 121]⟩ : ByteArray), (⟨#[109, 105, 110, 111, 114, 105, 116, 121]⟩ : ByteArray)]
    s_l09Row_l8 K k v1 v3 l7 (0 : Int) (fun z11 =>
    kr z11)
noncomputable def s_l09Row_j4 {R : Type} (K : Nat) (k : Nat) (v1 : (Int × Int × Unit)) (v3 : (List Int)) (kn : Option R) (kr : ((List Int) → Option R)) : Option R :=
    (s_l01Rows K (v1.1, ())).bind fun y4 =>
    (s_l09Has K (v1, (IntKind.i64.wrap (y4 - (1 : Int))), ())).bind fun y5 =>
    (if y5 = true then
    (if (bnds (1 : Int) (v3.length : Int)) = true then
    let l6 := (v3.set (1 : Int).toNat (1 : Int))
    s_l09Row_j6 K k v1 l6 none (fun z12 =>
    kr z12)
    else
    none)
    else
    s_l09Row_j6 K k v1 v3 none (fun z13 =>
    kr z13))
noncomputable def s_l09Row (K : Nat) (x : ((Int × Int × Unit) × Unit)) : Option (List Int) :=
    (if (decide (0 ≤ (6 : Int)) && decide ((6 : Int) ≤ (lim : Int)) && decide ((6 : Int) = (6 : Int))) = true then
    let l1 := (List.replicate (6 : Int).toNat (0 : Int))
    (s_l09Has K (x.1, (0 : Int), ())).bind fun y2 =>
    (if y2 = true then
    (if (bnds (0 : Int) (l1.length : Int)) = true then
    let l3 := (l1.set (0 : Int).toNat (1 : Int))
    s_l09Row_j4 K K x.1 l3 none (fun z14 =>
    some z14)
    else
    none)
    else
    s_l09Row_j4 K K x.1 l1 none (fun z15 =>
    some z15))
    else
    none)
noncomputable def lv_s_l09Row_J4 : Lv := [(1, (.bx (.v (.st (.pair (.int .i64) (.pair (.int .i64) .unit)))))), (3, (.r (.int .i64)))]
noncomputable def lv_s_l09Row_J6 : Lv := [(1, (.bx (.v (.st (.pair (.int .i64) (.pair (.int .i64) .unit)))))), (3, (.r (.int .i64)))]
noncomputable def lv_s_l09Row_L8 : Lv := [(1, (.bx (.v (.st (.pair (.int .i64) (.pair (.int .i64) .unit)))))), (3, (.r (.int .i64))), (4, (.r .str)), (5, (.v (.int .i64)))]
noncomputable def lv_s_l09Row_N4 : Lv := []
noncomputable def lv_s_l09Row_N6 : Lv := []
noncomputable def lv_s_l09Row_X0 : Lv := [(3, (.r (.int .i64)))]
noncomputable def rv_s_l09Row : Lv := [(2, (.r (.int .i64)))]
noncomputable def gs_l09Row_l8 {R : Type} (K : Nat) (k : Nat) (x : den lv_s_l09Row_L8.ty) (kx : Nat → St → Option R) (kr : St → Option R) : Option R := s_l09Row_l8 K k x.1 x.2.1 x.2.2.1 x.2.2.2.1 (fun z0 => kx 0 (mkSt lv_s_l09Row_X0 (z0, ())))
noncomputable def gs_l09Row_j6 {R : Type} (K : Nat) (k : Nat) (x : den lv_s_l09Row_J6.ty) (kn : den lv_s_l09Row_N6.ty → Option R) (kx : Nat → St → Option R) (kr : St → Option R) : Option R := s_l09Row_j6 K k x.1 x.2.1 (kn ()) (fun z0 => kr (mkSt rv_s_l09Row (z0, ())))
noncomputable def gs_l09Row_j4 {R : Type} (K : Nat) (k : Nat) (x : den lv_s_l09Row_J4.ty) (kn : den lv_s_l09Row_N4.ty → Option R) (kx : Nat → St → Option R) (kr : St → Option R) : Option R := s_l09Row_j4 K k x.1 x.2.1 (kn ()) (fun z0 => kr (mkSt rv_s_l09Row (z0, ())))
noncomputable def sg_s_l09Row {R : Type} (K : Nat) (k : Nat) : List (Nat × SegS R) := [(6, mkSeg lv_s_l09Row_J6 lv_s_l09Row_N6 (gs_l09Row_j6 K k)), (4, mkSeg lv_s_l09Row_J4 lv_s_l09Row_N4 (gs_l09Row_j4 K k))]
noncomputable def su_s_l09Row : List (Nat × Unit) := [(6, ()), (4, ())]
noncomputable def en_s_l09Row {R : Type} (K : Nat) (k : Nat) : Env R := { L := lk [(8, mkLoop lv_s_l09Row_L8 (gs_l09Row_l8 K k))], X := lk [(0, lv_s_l09Row_X0)], S := lk (sg_s_l09Row K k), rv := rv_s_l09Row }
noncomputable def cf_s_l09Row (K : Nat) : Cfg := { ty := lk tys, fn := lk [(120, sp_s_l01Rows (s_l01Rows K)), (134, sp_s_l09Has (s_l09Has K)), (135, sp_s_NamedFunc (s_NamedFunc K)), (136, sp_s_l06Keeps (s_l06Keeps K))], fs := lk [], prot := 0, nt := Tryz.f77.ntmps }
noncomputable def c_s_l09Row_J4 : Code := nthC (partsOf (hasK su_s_l09Row) (bodyOf Tryz.f77)) 0
noncomputable def c_s_l09Row_J6 : Code := nthC (partsOf (hasK su_s_l09Row) c_s_l09Row_J4) 0
noncomputable def c_s_l09Row_L8 : Code := nthC (partsOf (hasK su_s_l09Row) c_s_l09Row_J6) 0
theorem es_l09Row_l8 {R : Type} (K : Nat) (k : Nat) (x : den lv_s_l09Row_L8.ty) (kx : Nat → St → Option R) (kr : St → Option R) : gs_l09Row_l8 K (k + 1) x kx kr = evC (cf_s_l09Row K) (en_s_l09Row K k) c_s_l09Row_L8 (mkSt lv_s_l09Row_L8 x) (fun s => mkLoop lv_s_l09Row_L8 (gs_l09Row_l8 K k) s kx kr) kx kr := by kernel_rfl
theorem ss_l09Row_l8 {R : Type} (K : Nat) (C : Cx) (hP : C.P = Tryz.prog) (O : CfgOk C (cf_s_l09Row K)) (k : Nat) : LpS C (R := R) (mkLoop lv_s_l09Row_L8 (gs_l09Row_l8 K k)) c_s_l09Row_L8 :=
  loop_sound O (by rw [hP]; kernel_rfl) (fun x kx kr => rfl) (es_l09Row_l8 K) (fun k => lpOk_of (en := en_s_l09Row K k) (S := hasK su_s_l09Row) (fun i => hasK_lk (sg_s_l09Row K k) i) _ (by rw [show partsOf (hasK su_s_l09Row) c_s_l09Row_L8 = [] from by kernel_rfl]; exact trivial)) k
theorem es_l09Row_j6 {R : Type} (K : Nat) (k : Nat) (x : den lv_s_l09Row_J6.ty) (kn : den lv_s_l09Row_N6.ty → Option R) (kx : Nat → St → Option R) (kr : St → Option R) : gs_l09Row_j6 K k x kn kx kr = evC (cf_s_l09Row K) (en_s_l09Row K k) c_s_l09Row_J6 (mkSt lv_s_l09Row_J6 x) (cutK lv_s_l09Row_N6 kn) kx kr := by kernel_rfl
theorem ss_l09Row_j6 {R : Type} (K : Nat) (C : Cx) (hP : C.P = Tryz.prog) (O : CfgOk C (cf_s_l09Row K)) (k : Nat) : SgS C (R := R) (mkSeg lv_s_l09Row_J6 lv_s_l09Row_N6 (gs_l09Row_j6 K k)) c_s_l09Row_J6 :=
  seg_sound O (by rw [hP]; kernel_rfl) (es_l09Row_j6 K k) (lpOk_of (en := en_s_l09Row K k) (S := hasK su_s_l09Row) (fun i => hasK_lk (sg_s_l09Row K k) i) _ (by rw [show partsOf (hasK su_s_l09Row) c_s_l09Row_J6 = [(true, c_s_l09Row_L8)] from by kernel_rfl]; exact (lpL_loop (f := mkLoop lv_s_l09Row_L8 (gs_l09Row_l8 K k)) (by kernel_rfl) (ss_l09Row_l8 K C hP O k) trivial)))
theorem es_l09Row_j4 {R : Type} (K : Nat) (k : Nat) (x : den lv_s_l09Row_J4.ty) (kn : den lv_s_l09Row_N4.ty → Option R) (kx : Nat → St → Option R) (kr : St → Option R) : gs_l09Row_j4 K k x kn kx kr = evC (cf_s_l09Row K) (en_s_l09Row K k) c_s_l09Row_J4 (mkSt lv_s_l09Row_J4 x) (cutK lv_s_l09Row_N4 kn) kx kr := by kernel_rfl
theorem ss_l09Row_j4 {R : Type} (K : Nat) (C : Cx) (hP : C.P = Tryz.prog) (O : CfgOk C (cf_s_l09Row K)) (k : Nat) : SgS C (R := R) (mkSeg lv_s_l09Row_J4 lv_s_l09Row_N4 (gs_l09Row_j4 K k)) c_s_l09Row_J4 :=
  seg_sound O (by rw [hP]; kernel_rfl) (es_l09Row_j4 K k) (lpOk_of (en := en_s_l09Row K k) (S := hasK su_s_l09Row) (fun i => hasK_lk (sg_s_l09Row K k) i) _ (by rw [show partsOf (hasK su_s_l09Row) c_s_l09Row_J4 = [(false, c_s_l09Row_J6)] from by kernel_rfl]; exact (lpL_seg (f := mkSeg lv_s_l09Row_J6 lv_s_l09Row_N6 (gs_l09Row_j6 K k)) (by kernel_rfl) (ss_l09Row_j6 K C hP O k) trivial)))
theorem e_s_l09Row (K : Nat) (x : den as_s_l09Row) : s_l09Row K x = evFn (cf_s_l09Row K) as_s_l09Row [false] (.sl (.int .i64)) (en_s_l09Row K K) Tryz.f77.results.toList (bodyOf Tryz.f77) x := by kernel_rfl
theorem ok_s_l09Row (K : Nat) : FnOk Tryz.prog 77 (sp_s_l09Row (s_l09Row K)) :=
  fn_ok (cf := cf_s_l09Row K) (en := en_s_l09Row K K) (c := bodyOf Tryz.f77) Tryz.func77 (by kernel_rfl) (by kernel_rfl) tysOk (fns_ok (l := [(120, sp_s_l01Rows (s_l01Rows K)), (134, sp_s_l09Has (s_l09Has K)), (135, sp_s_NamedFunc (s_NamedFunc K)), (136, sp_s_l06Keeps (s_l06Keeps K))]) ⟨ok_s_l01Rows K, ⟨ok_s_l09Has K, ⟨ok_s_NamedFunc K, ⟨ok_s_l06Keeps K, trivial⟩⟩⟩⟩) (shs_ok (l := []) trivial) (by kernel_rfl) rfl (Nat.le_of_ble_eq_true (by kernel_rfl)) (by kernel_rfl) (of_decide_eq_true (by kernel_rfl)) (by decide) (fun C hP O => lpOk_of (en := en_s_l09Row K K) (S := hasK su_s_l09Row) (fun i => hasK_lk (sg_s_l09Row K K) i) _ (by rw [show partsOf (hasK su_s_l09Row) (bodyOf Tryz.f77) = [(false, c_s_l09Row_J4)] from by kernel_rfl]; exact (lpL_seg (f := mkSeg lv_s_l09Row_J4 lv_s_l09Row_N4 (gs_l09Row_j4 K K)) (by kernel_rfl) (ss_l09Row_j4 K C hP O K) trivial))) (fun x y h => by rw [← e_s_l09Row]; exact h)
noncomputable def ps_s_l09DrawRelation : Lv := [(0, (.bx (.v (.st (.pair (.sl (.int .u8)) (.pair (.int .i64) (.pair (.int .u64) .unit))))))), (1, (.v (.int .i64)))]
noncomputable def rl_s_l09DrawRelation : Lv := [(0, (.v (.st (.pair (.int .i64) (.pair (.int .i64) .unit)))))]
noncomputable def sp_s_l09DrawRelation (F : (((List Int) × Int × Int × Unit) × Int × Unit) → Option (((Int × Int × Unit) × Unit) × (((List Int) × Int × Int × Unit) × Unit))) : ShSpec := ⟨ps_s_l09DrawRelation, rl_s_l09DrawRelation, F⟩
noncomputable def s_l09DrawRelation_j19 {R : Type} (K : Nat) (k : Nat) (v0 : ((List Int) × Int × Int × Unit)) (v4 : (Int × Int × Unit)) (v5 : (Int × Int × Unit)) (kn : Option R) (kr : (((List Int) × Int × Int × Unit) → (Int × Int × Unit) → Option R)) : Option R :=
    kr v0 v5
noncomputable def s_l09DrawRelation_j16 {R : Type} (K : Nat) (k : Nat) (v0 : ((List Int) × Int × Int × Unit)) (v1 : Int) (v4 : (Int × Int × Unit)) (v5 : (Int × Int × Unit)) (v6 : Int) (v7 : Int) (kn : ((List Int) × Int × Int × Unit) → Int → (Int × Int × Unit) → (Int × Int × Unit) → Int → Int → Option R)  : Option R :=
    (s_l01Next K (v0, (IntKind.i64.wrap (v6 + (1 : Int))), ())).bind fun y17 =>
    kn y17.2.1 v1 v4 (v5.1, y17.1.1, ()) v6 (IntKind.i64.wrap (v7 + (1 : Int)))
noncomputable def s_l09DrawRelation_l14 {R : Type} (K : Nat) : Nat → ((List Int) × Int × Int × Unit) → Int → (Int × Int × Unit) → (Int × Int × Unit) → Int → Int → (((List Int) × Int × Int × Unit) → Int → (Int × Int × Unit) → (Int × Int × Unit) → Int → Option R) → Option R
  | 0, _, _, _, _, _, _, _ => none
  | k + 1, v0, v1, v4, v5, v6, v7, kx1 =>
    (if (decide (v7 < (40 : Int))) = true then
    (s_l09Row K (v5, ())).bind fun y16 =>
    (if (bnds v1 (y16.length : Int)) = true then
    (if (decide ((y16.getD v1.toNat (0 : Int)) = (0 : Int))) = true then
    s_l09DrawRelation_j16 K k v0 v1 v4 v5 v6 v7 (fun z18 z19 z20 z21 z22 z23 =>
    s_l09DrawRelation_l14 K k z18 z19 z20 z21 z22 z23 kx1)
    else
    kx1 v0 v1 v4 v5 v6)
    else
    none)
    else
    kx1 v0 v1 v4 v5 v6)
noncomputable def s_l09DrawRelation (K : Nat) (x : (((List Int) × Int × Int × Unit) × Int × Unit)) : Option (((Int × Int × Unit) × Unit) × (((List Int) × Int × Int × Unit) × Unit)) :=
    let l1 := [(1 : Int), (2 : Int), (2 : Int), (3 : Int)]
    (s_l01Pick K (x.1, l1, ())).bind fun y2 =>
    (s_l01Rows K ((y2.1.1, ((0 : Int), (0 : Int), ()).2.1, ()).1, ())).bind fun y3 =>
    (s_l01Rows K (y3, ())).bind fun y4 =>
    let x5 := (IntKind.i64.wrap ((IntKind.i64.wrap (y4 - (1 : Int))) + (1 : Int)))
    (s_l01Next K (y2.2.1, x5, ())).bind fun y6 =>
    (if (decide (x.2.1 = (0 : Int))) = true then
    let x7 := ((y2.1.1, ((0 : Int), (0 : Int), ()).2.1, ()).1, y6.1.1, ()).2.1
    s_l09DrawRelation_j19 K K y6.2.1 ((0 : Int), (0 : Int), ()) (((y2.1.1, ((0 : Int), (0 : Int), ()).2.1, ()).1, y6.1.1, ()).1, (bitI .or .i64 x7 (1 : Int)), ()) none (fun z8 z9 =>
    some ((z9, ()), (z8, ())))
    else
    (if (decide (x.2.1 = (1 : Int))) = true then
    let x10 := ((y2.1.1, ((0 : Int), (0 : Int), ()).2.1, ()).1, y6.1.1, ()).2.1
    let x11 := ((y2.1.1, ((0 : Int), (0 : Int), ()).2.1, ()).1, y6.1.1, ()).1
    (s_l01Rows K (x11, ())).bind fun y12 =>
    (if (decide ((0 : Int) ≤ (IntKind.u64.wrap (IntKind.i64.wrap (y12 - (1 : Int)))))) = true then
    let x13 := (shlI .i64 (1 : Int) (IntKind.u64.wrap (IntKind.i64.wrap (y12 - (1 : Int)))))
    s_l09DrawRelation_j19 K K y6.2.1 ((0 : Int), (0 : Int), ()) (((y2.1.1, ((0 : Int), (0 : Int), ()).2.1, ()).1, y6.1.1, ()).1, (bitI .or .i64 x10 x13), ()) none (fun z14 z15 =>
    some ((z15, ()), (z14, ())))
    else
    none)
    else
    (if (decide (x.2.1 = (2 : Int))) = true then
    (if (decide (x.2.1 = (2 : Int))) = true then
    s_l09DrawRelation_l14 K K y6.2.1 x.2.1 ((0 : Int), (0 : Int), ()) ((y2.1.1, ((0 : Int), (0 : Int), ()).2.1, ()).1, y6.1.1, ()) (IntKind.i64.wrap (y4 - (1 : Int))) (0 : Int) (fun z24 z25 z26 z27 z28 =>
    (s_l09Row K (z27, ())).bind fun y29 =>
    (if (bnds z25 (y29.length : Int)) = true then
    (if (decide ((y29.getD z25.toNat (0 : Int)) = (0 : Int))) = true then
    s_l09DrawRelation_j19 K K z24 z26 (z27.1, z28, ()) none (fun z30 z31 =>
    some ((z31, ()), (z30, ())))
    else
    s_l09DrawRelation_j19 K K z24 z26 z27 none (fun z32 z33 =>
    some ((z33, ()), (z32, ()))))
    else
    none))
    else
    s_l09DrawRelation_j19 K K y6.2.1 ((0 : Int), (0 : Int), ()) ((y2.1.1, ((0 : Int), (0 : Int), ()).2.1, ()).1, y6.1.1, ()) none (fun z34 z35 =>
    some ((z35, ()), (z34, ()))))
    else
    (if (decide (x.2.1 = (3 : Int))) = true then
    (if (decide (x.2.1 = (3 : Int))) = true then
    s_l09DrawRelation_l14 K K y6.2.1 x.2.1 ((0 : Int), (0 : Int), ()) ((y2.1.1, ((0 : Int), (0 : Int), ()).2.1, ()).1, y6.1.1, ()) (IntKind.i64.wrap (y4 - (1 : Int))) (0 : Int) (fun z36 z37 z38 z39 z40 =>
    (s_l09Row K (z39, ())).bind fun y41 =>
    (if (bnds z37 (y41.length : Int)) = true then
    (if (decide ((y41.getD z37.toNat (0 : Int)) = (0 : Int))) = true then
    s_l09DrawRelation_j19 K K z36 z38 (z39.1, z40, ()) none (fun z42 z43 =>
    some ((z43, ()), (z42, ())))
    else
    s_l09DrawRelation_j19 K K z36 z38 z39 none (fun z44 z45 =>
    some ((z45, ()), (z44, ()))))
    else
    none))
    else
    s_l09DrawRelation_j19 K K y6.2.1 ((0 : Int), (0 : Int), ()) ((y2.1.1, ((0 : Int), (0 : Int), ()).2.1, ()).1, y6.1.1, ()) none (fun z46 z47 =>
    some ((z47, ()), (z46, ()))))
    else
    (if (decide (x.2.1 = (4 : Int))) = true then
    (if (decide (x.2.1 = (4 : Int))) = true then
    s_l09DrawRelation_l14 K K y6.2.1 x.2.1 ((0 : Int), (0 : Int), ()) ((y2.1.1, ((0 : Int), (0 : Int), ()).2.1, ()).1, y6.1.1, ()) (IntKind.i64.wrap (y4 - (1 : Int))) (0 : Int) (fun z48 z49 z50 z51 z52 =>
    (s_l09Row K (z51, ())).bind fun y53 =>
    (if (bnds z49 (y53.length : Int)) = true then
    (if (decide ((y53.getD z49.toNat (0 : Int)) = (0 : Int))) = true then
    s_l09DrawRelation_j19 K K z48 z50 (z51.1, z52, ()) none (fun z54 z55 =>
    some ((z55, ()), (z54, ())))
    else
    s_l09DrawRelation_j19 K K z48 z50 z51 none (fun z56 z57 =>
    some ((z57, ()), (z56, ()))))
    else
    none))
    else
    s_l09DrawRelation_j19 K K y6.2.1 ((0 : Int), (0 : Int), ()) ((y2.1.1, ((0 : Int), (0 : Int), ()).2.1, ()).1, y6.1.1, ()) none (fun z58 z59 =>
    some ((z59, ()), (z58, ()))))
    else
    (if (decide (x.2.1 = (5 : Int))) = true then
    s_l09DrawRelation_l14 K K y6.2.1 x.2.1 ((0 : Int), (0 : Int), ()) ((y2.1.1, ((0 : Int), (0 : Int), ()).2.1, ()).1, y6.1.1, ()) (IntKind.i64.wrap (y4 - (1 : Int))) (0 : Int) (fun z60 z61 z62 z63 z64 =>
    (s_l09Row K (z63, ())).bind fun y65 =>
    (if (bnds z61 (y65.length : Int)) = true then
    (if (decide ((y65.getD z61.toNat (0 : Int)) = (0 : Int))) = true then
    s_l09DrawRelation_j19 K K z60 z62 (z63.1, z64, ()) none (fun z66 z67 =>
    some ((z67, ()), (z66, ())))
    else
    s_l09DrawRelation_j19 K K z60 z62 z63 none (fun z68 z69 =>
    some ((z69, ()), (z68, ()))))
    else
    none))
    else
    s_l09DrawRelation_j19 K K y6.2.1 ((0 : Int), (0 : Int), ()) ((y2.1.1, ((0 : Int), (0 : Int), ()).2.1, ()).1, y6.1.1, ()) none (fun z70 z71 =>
    some ((z71, ()), (z70, ())))))))))
noncomputable def lv_s_l09DrawRelation_J16 : Lv := [(0, (.bx (.v (.st (.pair (.sl (.int .u8)) (.pair (.int .i64) (.pair (.int .u64) .unit))))))), (1, (.v (.int .i64))), (4, (.bx (.v (.st (.pair (.int .i64) (.pair (.int .i64) .unit)))))), (5, (.bx (.v (.st (.pair (.int .i64) (.pair (.int .i64) .unit)))))), (6, (.v (.int .i64))), (7, (.v (.int .i64)))]
noncomputable def lv_s_l09DrawRelation_J19 : Lv := [(0, (.bx (.v (.st (.pair (.sl (.int .u8)) (.pair (.int .i64) (.pair (.int .u64) .unit))))))), (4, (.bx (.v (.st (.pair (.int .i64) (.pair (.int .i64) .unit)))))), (5, (.bx (.v (.st (.pair (.int .i64) (.pair (.int .i64) .unit))))))]
noncomputable def lv_s_l09DrawRelation_L14 : Lv := [(0, (.bx (.v (.st (.pair (.sl (.int .u8)) (.pair (.int .i64) (.pair (.int .u64) .unit))))))), (1, (.v (.int .i64))), (4, (.bx (.v (.st (.pair (.int .i64) (.pair (.int .i64) .unit)))))), (5, (.bx (.v (.st (.pair (.int .i64) (.pair (.int .i64) .unit)))))), (6, (.v (.int .i64))), (7, (.v (.int .i64)))]
noncomputable def lv_s_l09DrawRelation_N16 : Lv := [(0, (.bx (.v (.st (.pair (.sl (.int .u8)) (.pair (.int .i64) (.pair (.int .u64) .unit))))))), (1, (.v (.int .i64))), (4, (.bx (.v (.st (.pair (.int .i64) (.pair (.int .i64) .unit)))))), (5, (.bx (.v (.st (.pair (.int .i64) (.pair (.int .i64) .unit)))))), (6, (.v (.int .i64))), (7, (.v (.int .i64)))]
noncomputable def lv_s_l09DrawRelation_N19 : Lv := []
noncomputable def lv_s_l09DrawRelation_X1 : Lv := [(0, (.bx (.v (.st (.pair (.sl (.int .u8)) (.pair (.int .i64) (.pair (.int .u64) .unit))))))), (1, (.v (.int .i64))), (4, (.bx (.v (.st (.pair (.int .i64) (.pair (.int .i64) .unit)))))), (5, (.bx (.v (.st (.pair (.int .i64) (.pair (.int .i64) .unit)))))), (6, (.v (.int .i64)))]
noncomputable def rv_s_l09DrawRelation : Lv := [(0, (.bx (.v (.st (.pair (.sl (.int .u8)) (.pair (.int .i64) (.pair (.int .u64) .unit))))))), (4, (.bx (.v (.st (.pair (.int .i64) (.pair (.int .i64) .unit))))))]
noncomputable def gs_l09DrawRelation_j19 {R : Type} (K : Nat) (k : Nat) (x : den lv_s_l09DrawRelation_J19.ty) (kn : den lv_s_l09DrawRelation_N19.ty → Option R) (kx : Nat → St → Option R) (kr : St → Option R) : Option R := s_l09DrawRelation_j19 K k x.1 x.2.1 x.2.2.1 (kn ()) (fun z0 z1 => kr (mkSt rv_s_l09DrawRelation (z0, z1, ())))
noncomputable def gs_l09DrawRelation_j16 {R : Type} (K : Nat) (k : Nat) (x : den lv_s_l09DrawRelation_J16.ty) (kn : den lv_s_l09DrawRelation_N16.ty → Option R) (kx : Nat → St → Option R) (kr : St → Option R) : Option R := s_l09DrawRelation_j16 K k x.1 x.2.1 x.2.2.1 x.2.2.2.1 x.2.2.2.2.1 x.2.2.2.2.2.1 (fun z0 z1 z2 z3 z4 z5 => kn (z0, z1, z2, z3, z4, z5, ()))
noncomputable def gs_l09DrawRelation_l14 {R : Type} (K : Nat) (k : Nat) (x : den lv_s_l09DrawRelation_L14.ty) (kx : Nat → St → Option R) (kr : St → Option R) : Option R := s_l09DrawRelation_l14 K k x.1 x.2.1 x.2.2.1 x.2.2.2.1 x.2.2.2.2.1 x.2.2.2.2.2.1 (fun z0 z1 z2 z3 z4 => kx 1 (mkSt lv_s_l09DrawRelation_X1 (z0, z1, z2, z3, z4, ())))
noncomputable def sg_s_l09DrawRelation {R : Type} (K : Nat) (k : Nat) : List (Nat × SegS R) := [(19, mkSeg lv_s_l09DrawRelation_J19 lv_s_l09DrawRelation_N19 (gs_l09DrawRelation_j19 K k)), (16, mkSeg lv_s_l09DrawRelation_J16 lv_s_l09DrawRelation_N16 (gs_l09DrawRelation_j16 K k))]
noncomputable def su_s_l09DrawRelation : List (Nat × Unit) := [(19, ()), (16, ())]
noncomputable def en_s_l09DrawRelation {R : Type} (K : Nat) (k : Nat) : Env R := { L := lk [(14, mkLoop lv_s_l09DrawRelation_L14 (gs_l09DrawRelation_l14 K k))], X := lk [(1, lv_s_l09DrawRelation_X1)], S := lk (sg_s_l09DrawRelation K k), rv := rv_s_l09DrawRelation }
noncomputable def cf_s_l09DrawRelation (K : Nat) : Cfg := { ty := lk tys, fn := lk [(77, sp_s_l09Row (s_l09Row K)), (120, sp_s_l01Rows (s_l01Rows K))], fs := lk [(78, sp_s_l01Next (s_l01Next K)), (85, sp_s_l01Pick (s_l01Pick K))], prot := 1, nt := Tryz.f80.ntmps }
noncomputable def c_s_l09DrawRelation_L14 : Code := nthC (partsOf (hasK su_s_l09DrawRelation) (bodyOf Tryz.f80)) 0
noncomputable def c_s_l09DrawRelation_J16 : Code := nthC (partsOf (hasK su_s_l09DrawRelation) c_s_l09DrawRelation_L14) 0
noncomputable def c_s_l09DrawRelation_J19 : Code := nthC (partsOf (hasK su_s_l09DrawRelation) (bodyOf Tryz.f80)) 1
theorem es_l09DrawRelation_j16 {R : Type} (K : Nat) (k : Nat) (x : den lv_s_l09DrawRelation_J16.ty) (kn : den lv_s_l09DrawRelation_N16.ty → Option R) (kx : Nat → St → Option R) (kr : St → Option R) : gs_l09DrawRelation_j16 K k x kn kx kr = evC (cf_s_l09DrawRelation K) (en_s_l09DrawRelation K k) c_s_l09DrawRelation_J16 (mkSt lv_s_l09DrawRelation_J16 x) (cutK lv_s_l09DrawRelation_N16 kn) kx kr := by kernel_rfl
theorem ss_l09DrawRelation_j16 {R : Type} (K : Nat) (C : Cx) (hP : C.P = Tryz.prog) (O : CfgOk C (cf_s_l09DrawRelation K)) (k : Nat) : SgS C (R := R) (mkSeg lv_s_l09DrawRelation_J16 lv_s_l09DrawRelation_N16 (gs_l09DrawRelation_j16 K k)) c_s_l09DrawRelation_J16 :=
  seg_sound O (by rw [hP]; kernel_rfl) (es_l09DrawRelation_j16 K k) (lpOk_of (en := en_s_l09DrawRelation K k) (S := hasK su_s_l09DrawRelation) (fun i => hasK_lk (sg_s_l09DrawRelation K k) i) _ (by rw [show partsOf (hasK su_s_l09DrawRelation) c_s_l09DrawRelation_J16 = [] from by kernel_rfl]; exact trivial))
theorem es_l09DrawRelation_l14 {R : Type} (K : Nat) (k : Nat) (x : den lv_s_l09DrawRelation_L14.ty) (kx : Nat → St → Option R) (kr : St → Option R) : gs_l09DrawRelation_l14 K (k + 1) x kx kr = evC (cf_s_l09DrawRelation K) (en_s_l09DrawRelation K k) c_s_l09DrawRelation_L14 (mkSt lv_s_l09DrawRelation_L14 x) (fun s => mkLoop lv_s_l09DrawRelation_L14 (gs_l09DrawRelation_l14 K k) s kx kr) kx kr := by kernel_rfl
theorem ss_l09DrawRelation_l14 {R : Type} (K : Nat) (C : Cx) (hP : C.P = Tryz.prog) (O : CfgOk C (cf_s_l09DrawRelation K)) (k : Nat) : LpS C (R := R) (mkLoop lv_s_l09DrawRelation_L14 (gs_l09DrawRelation_l14 K k)) c_s_l09DrawRelation_L14 :=
  loop_sound O (by rw [hP]; kernel_rfl) (fun x kx kr => rfl) (es_l09DrawRelation_l14 K) (fun k => lpOk_of (en := en_s_l09DrawRelation K k) (S := hasK su_s_l09DrawRelation) (fun i => hasK_lk (sg_s_l09DrawRelation K k) i) _ (by rw [show partsOf (hasK su_s_l09DrawRelation) c_s_l09DrawRelation_L14 = [(false, c_s_l09DrawRelation_J16)] from by kernel_rfl]; exact (lpL_seg (f := mkSeg lv_s_l09DrawRelation_J16 lv_s_l09DrawRelation_N16 (gs_l09DrawRelation_j16 K k)) (by kernel_rfl) (ss_l09DrawRelation_j16 K C hP O k) trivial))) k
theorem es_l09DrawRelation_j19 {R : Type} (K : Nat) (k : Nat) (x : den lv_s_l09DrawRelation_J19.ty) (kn : den lv_s_l09DrawRelation_N19.ty → Option R) (kx : Nat → St → Option R) (kr : St → Option R) : gs_l09DrawRelation_j19 K k x kn kx kr = evC (cf_s_l09DrawRelation K) (en_s_l09DrawRelation K k) c_s_l09DrawRelation_J19 (mkSt lv_s_l09DrawRelation_J19 x) (cutK lv_s_l09DrawRelation_N19 kn) kx kr := by kernel_rfl
theorem ss_l09DrawRelation_j19 {R : Type} (K : Nat) (C : Cx) (hP : C.P = Tryz.prog) (O : CfgOk C (cf_s_l09DrawRelation K)) (k : Nat) : SgS C (R := R) (mkSeg lv_s_l09DrawRelation_J19 lv_s_l09DrawRelation_N19 (gs_l09DrawRelation_j19 K k)) c_s_l09DrawRelation_J19 :=
  seg_sound O (by rw [hP]; kernel_rfl) (es_l09DrawRelation_j19 K k) (lpOk_of (en := en_s_l09DrawRelation K k) (S := hasK su_s_l09DrawRelation) (fun i => hasK_lk (sg_s_l09DrawRelation K k) i) _ (by rw [show partsOf (hasK su_s_l09DrawRelation) c_s_l09DrawRelation_J19 = [] from by kernel_rfl]; exact trivial))
theorem e_s_l09DrawRelation (K : Nat) (x : den ps_s_l09DrawRelation.ty) : s_l09DrawRelation K x = evFnS (cf_s_l09DrawRelation K) ps_s_l09DrawRelation rl_s_l09DrawRelation (en_s_l09DrawRelation K K) Tryz.f80.results.toList (bodyOf Tryz.f80) x := by kernel_rfl
theorem ok_s_l09DrawRelation (K : Nat) : ShOk Tryz.prog 80 (sp_s_l09DrawRelation (s_l09DrawRelation K)) :=
  sh_ok (cf := cf_s_l09DrawRelation K) (en := en_s_l09DrawRelation K K) (c := bodyOf Tryz.f80) Tryz.func80 (by kernel_rfl) (by kernel_rfl) tysOk (fns_ok (l := [(77, sp_s_l09Row (s_l09Row K)), (120, sp_s_l01Rows (s_l01Rows K))]) ⟨ok_s_l09Row K, ⟨ok_s_l01Rows K, trivial⟩⟩) (shs_ok (l := [(78, sp_s_l01Next (s_l01Next K)), (85, sp_s_l01Pick (s_l01Pick K))]) ⟨ok_s_l01Next K, ⟨ok_s_l01Pick K, trivial⟩⟩) (by kernel_rfl) rfl (Nat.le_of_ble_eq_true (by kernel_rfl)) (by kernel_rfl) (Nat.le_of_ble_eq_true (by kernel_rfl)) (by kernel_rfl) (fun C hP O => lpOk_of (en := en_s_l09DrawRelation K K) (S := hasK su_s_l09DrawRelation) (fun i => hasK_lk (sg_s_l09DrawRelation K K) i) _ (by rw [show partsOf (hasK su_s_l09DrawRelation) (bodyOf Tryz.f80) = [(true, c_s_l09DrawRelation_L14), (false, c_s_l09DrawRelation_J19)] from by kernel_rfl]; exact (lpL_loop (f := mkLoop lv_s_l09DrawRelation_L14 (gs_l09DrawRelation_l14 K K)) (by kernel_rfl) (ss_l09DrawRelation_l14 K C hP O K) (lpL_seg (f := mkSeg lv_s_l09DrawRelation_J19 lv_s_l09DrawRelation_N19 (gs_l09DrawRelation_j19 K K)) (by kernel_rfl) (ss_l09DrawRelation_j19 K C hP O K) trivial)))) (fun x y h => by rw [← e_s_l09DrawRelation]; exact h)
noncomputable def ps_s_l09DrawOf : Lv := [(0, (.bx (.v (.st (.pair (.sl (.int .u8)) (.pair (.int .i64) (.pair (.int .u64) .unit)))))))]
noncomputable def rl_s_l09DrawOf : Lv := [(0, (.st (.pair (.v (.int .i64)) (.pair (.r (.st (.pair (.st (.pair (.int .i64) (.pair (.int .i64) .unit))) (.pair (.sl (.int .i64)) .unit)))) .unit))))]
noncomputable def sp_s_l09DrawOf (F : (((List Int) × Int × Int × Unit) × Unit) → Option (((Int × (List ((Int × Int × Unit) × (List Int) × Unit)) × Unit) × Unit) × (((List Int) × Int × Int × Unit) × Unit))) : ShSpec := ⟨ps_s_l09DrawOf, rl_s_l09DrawOf, F⟩
noncomputable def s_l09DrawOf_l7 {R : Type} (K : Nat) : Nat → ((List Int) × Int × Int × Unit) → Int → (List ((Int × Int × Unit) × (List Int) × Unit)) → Int → (List ((Int × Int × Unit) × (List Int) × Unit)) → Int → Int → (Int × Int × Unit) → (List Int) → Int → (((List Int) × Int × Int × Unit) → Int → (List ((Int × Int × Unit) × (List Int) × Unit)) → Int → (List ((Int × Int × Unit) × (List Int) × Unit)) → Int → Int → (Int × Int × Unit) → (List Int) → Option R) → Option R
  | 0, _, _, _, _, _, _, _, _, _, _, _ => none
  | k + 1, v0, v2_0, v2_1, v3_0, v3_1, v4, v5, v6_0, v6_1, v7, kx2 =>
    (if (decide (v7 < v6_0.1)) = true then
    (s_l01Next K (v0, v3_0, ())).bind fun y9 =>
    (if (decide (v6_1.length + ([y9.1.1]).length ≤ lim)) = true then
    let l10 := (v6_1 ++ [y9.1.1])
    s_l09DrawOf_l7 K k y9.2.1 v2_0 v2_1 v3_0 v3_1 v4 v5 v6_0 l10 (IntKind.i64.wrap (v7 + (1 : Int))) kx2
    else
    none)
    else
    kx2 v0 v2_0 v2_1 v3_0 v3_1 v4 v5 v6_0 v6_1)
noncomputable def s_l09DrawOf_j5 {R : Type} (K : Nat) (k : Nat) (v0 : ((List Int) × Int × Int × Unit)) (v2_0 : Int) (v2_1 : (List ((Int × Int × Unit) × (List Int) × Unit))) (v3_0 : Int) (v3_1 : (List ((Int × Int × Unit) × (List Int) × Unit))) (v4 : Int) (v5 : Int) (kn : ((List Int) × Int × Int × Unit) → Int → (List ((Int × Int × Unit) × (List Int) × Unit)) → Int → (List ((Int × Int × Unit) × (List Int) × Unit)) → Int → Int → Option R)  : Option R :=
    (s_l09DrawRelation K (v0, v4, ())).bind fun y7 =>
    let l8 := ([] : List Int)
    s_l09DrawOf_l7 K k y7.2.1 v2_0 v2_1 v3_0 v3_1 v4 v5 y7.1.1 l8 (0 : Int) (fun z11 z12 z13 z14 z15 z16 z17 z18 z19 =>
    let l20 := [(z18, z19, ())]
    (if (decide (z15.length + l20.length ≤ lim)) = true then
    let l21 := (z15 ++ l20)
    kn z11 z12 z13 z14 l21 z16 (IntKind.i64.wrap (z17 - (1 : Int)))
    else
    none))
noncomputable def s_l09DrawOf_l3 {R : Type} (K : Nat) : Nat → ((List Int) × Int × Int × Unit) → Int → (List ((Int × Int × Unit) × (List Int) × Unit)) → Int → (List ((Int × Int × Unit) × (List Int) × Unit)) → Int → Int → (((List Int) × Int × Int × Unit) → Int → (List ((Int × Int × Unit) × (List Int) × Unit)) → Int → (List ((Int × Int × Unit) × (List Int) × Unit)) → Option R) → Option R
  | 0, _, _, _, _, _, _, _, _ => none
  | k + 1, v0, v2_0, v2_1, v3_0, v3_1, v4, v5, kx0 =>
    (if (decide (v5 > (0 : Int))) = true then
    (if (decide (v3_0 > (0 : Int))) = true then
    s_l09DrawOf_j5 K k v0 v2_0 v2_1 v3_0 v3_1 v4 v5 (fun z22 z23 z24 z25 z26 z27 z28 =>
    s_l09DrawOf_l3 K k z22 z23 z24 z25 z26 z27 z28 kx0)
    else
    kx0 v0 v2_0 v2_1 v3_0 v3_1)
    else
    kx0 v0 v2_0 v2_1 v3_0 v3_1)
noncomputable def s_l09DrawOf (K : Nat) (x : (((List Int) × Int × Int × Unit) × Unit)) : Option (((Int × (List ((Int × Int × Unit) × (List Int) × Unit)) × Unit) × Unit) × (((List Int) × Int × Int × Unit) × Unit)) :=
    (s_l01Next K (x.1, (9 : Int), ())).bind fun y1 =>
    let l2 := ([] : List ((Int × Int × Unit) × (List Int) × Unit))
    (s_l01Next K (y1.2.1, (8 : Int), ())).bind fun y3 =>
    let l4 := [(3 : Int), (5 : Int), (8 : Int), (13 : Int)]
    (s_l01Pick K (y3.2.1, l4, ())).bind fun y5 =>
    (s_l01Next K (y5.2.1, y5.1.1, ())).bind fun y6 =>
    s_l09DrawOf_l3 K K y6.2.1 (0 : Int) ([] : List ((Int × Int × Unit) × (List Int) × Unit)) y1.1.1 l2 y3.1.1 y6.1.1 (fun z29 z30 z31 z32 z33 =>
    some (((z32, z33, ()), ()), (z29, ())))
noncomputable def lv_s_l09DrawOf_J5 : Lv := [(0, (.bx (.v (.st (.pair (.sl (.int .u8)) (.pair (.int .i64) (.pair (.int .u64) .unit))))))), (2, (.bx (.st (.pair (.v (.int .i64)) (.pair (.r (.st (.pair (.st (.pair (.int .i64) (.pair (.int .i64) .unit))) (.pair (.sl (.int .i64)) .unit)))) .unit))))), (3, (.bx (.st (.pair (.v (.int .i64)) (.pair (.r (.st (.pair (.st (.pair (.int .i64) (.pair (.int .i64) .unit))) (.pair (.sl (.int .i64)) .unit)))) .unit))))), (4, (.v (.int .i64))), (5, (.v (.int .i64)))]
noncomputable def lv_s_l09DrawOf_L3 : Lv := [(0, (.bx (.v (.st (.pair (.sl (.int .u8)) (.pair (.int .i64) (.pair (.int .u64) .unit))))))), (2, (.bx (.st (.pair (.v (.int .i64)) (.pair (.r (.st (.pair (.st (.pair (.int .i64) (.pair (.int .i64) .unit))) (.pair (.sl (.int .i64)) .unit)))) .unit))))), (3, (.bx (.st (.pair (.v (.int .i64)) (.pair (.r (.st (.pair (.st (.pair (.int .i64) (.pair (.int .i64) .unit))) (.pair (.sl (.int .i64)) .unit)))) .unit))))), (4, (.v (.int .i64))), (5, (.v (.int .i64)))]
noncomputable def lv_s_l09DrawOf_L7 : Lv := [(0, (.bx (.v (.st (.pair (.sl (.int .u8)) (.pair (.int .i64) (.pair (.int .u64) .unit))))))), (2, (.bx (.st (.pair (.v (.int .i64)) (.pair (.r (.st (.pair (.st (.pair (.int .i64) (.pair (.int .i64) .unit))) (.pair (.sl (.int .i64)) .unit)))) .unit))))), (3, (.bx (.st (.pair (.v (.int .i64)) (.pair (.r (.st (.pair (.st (.pair (.int .i64) (.pair (.int .i64) .unit))) (.pair (.sl (.int .i64)) .unit)))) .unit))))), (4, (.v (.int .i64))), (5, (.v (.int .i64))), (6, (.bx (.st (.pair (.v (.st (.pair (.int .i64) (.pair (.int .i64) .unit)))) (.pair (.r (.int .i64)) .unit))))), (7, (.v (.int .i64)))]
noncomputable def lv_s_l09DrawOf_N5 : Lv := [(0, (.bx (.v (.st (.pair (.sl (.int .u8)) (.pair (.int .i64) (.pair (.int .u64) .unit))))))), (2, (.bx (.st (.pair (.v (.int .i64)) (.pair (.r (.st (.pair (.st (.pair (.int .i64) (.pair (.int .i64) .unit))) (.pair (.sl (.int .i64)) .unit)))) .unit))))), (3, (.bx (.st (.pair (.v (.int .i64)) (.pair (.r (.st (.pair (.st (.pair (.int .i64) (.pair (.int .i64) .unit))) (.pair (.sl (.int .i64)) .unit)))) .unit))))), (4, (.v (.int .i64))), (5, (.v (.int .i64)))]
noncomputable def lv_s_l09DrawOf_X0 : Lv := [(0, (.bx (.v (.st (.pair (.sl (.int .u8)) (.pair (.int .i64) (.pair (.int .u64) .unit))))))), (2, (.bx (.st (.pair (.v (.int .i64)) (.pair (.r (.st (.pair (.st (.pair (.int .i64) (.pair (.int .i64) .unit))) (.pair (.sl (.int .i64)) .unit)))) .unit))))), (3, (.bx (.st (.pair (.v (.int .i64)) (.pair (.r (.st (.pair (.st (.pair (.int .i64) (.pair (.int .i64) .unit))) (.pair (.sl (.int .i64)) .unit)))) .unit)))))]
noncomputable def lv_s_l09DrawOf_X2 : Lv := [(0, (.bx (.v (.st (.pair (.sl (.int .u8)) (.pair (.int .i64) (.pair (.int .u64) .unit))))))), (2, (.bx (.st (.pair (.v (.int .i64)) (.pair (.r (.st (.pair (.st (.pair (.int .i64) (.pair (.int .i64) .unit))) (.pair (.sl (.int .i64)) .unit)))) .unit))))), (3, (.bx (.st (.pair (.v (.int .i64)) (.pair (.r (.st (.pair (.st (.pair (.int .i64) (.pair (.int .i64) .unit))) (.pair (.sl (.int .i64)) .unit)))) .unit))))), (4, (.v (.int .i64))), (5, (.v (.int .i64))), (6, (.bx (.st (.pair (.v (.st (.pair (.int .i64) (.pair (.int .i64) .unit)))) (.pair (.r (.int .i64)) .unit)))))]
noncomputable def rv_s_l09DrawOf : Lv := [(0, (.bx (.v (.st (.pair (.sl (.int .u8)) (.pair (.int .i64) (.pair (.int .u64) .unit))))))), (2, (.bx (.st (.pair (.v (.int .i64)) (.pair (.r (.st (.pair (.st (.pair (.int .i64) (.pair (.int .i64) .unit))) (.pair (.sl (.int .i64)) .unit)))) .unit)))))]
noncomputable def gs_l09DrawOf_l7 {R : Type} (K : Nat) (k : Nat) (x : den lv_s_l09DrawOf_L7.ty) (kx : Nat → St → Option R) (kr : St → Option R) : Option R := s_l09DrawOf_l7 K k x.1 x.2.1.1 x.2.1.2.1 x.2.2.1.1 x.2.2.1.2.1 x.2.2.2.1 x.2.2.2.2.1 x.2.2.2.2.2.1.1 x.2.2.2.2.2.1.2.1 x.2.2.2.2.2.2.1 (fun z0 z1 z2 z3 z4 z5 z6 z7 z8 => kx 2 (mkSt lv_s_l09DrawOf_X2 (z0, (z1, z2, ()), (z3, z4, ()), z5, z6, (z7, z8, ()), ())))
noncomputable def gs_l09DrawOf_j5 {R : Type} (K : Nat) (k : Nat) (x : den lv_s_l09DrawOf_J5.ty) (kn : den lv_s_l09DrawOf_N5.ty → Option R) (kx : Nat → St → Option R) (kr : St → Option R) : Option R := s_l09DrawOf_j5 K k x.1 x.2.1.1 x.2.1.2.1 x.2.2.1.1 x.2.2.1.2.1 x.2.2.2.1 x.2.2.2.2.1 (fun z0 z1 z2 z3 z4 z5 z6 => kn (z0, (z1, z2, ()), (z3, z4, ()), z5, z6, ()))
noncomputable def gs_l09DrawOf_l3 {R : Type} (K : Nat) (k : Nat) (x : den lv_s_l09DrawOf_L3.ty) (kx : Nat → St → Option R) (kr : St → Option R) : Option R := s_l09DrawOf_l3 K k x.1 x.2.1.1 x.2.1.2.1 x.2.2.1.1 x.2.2.1.2.1 x.2.2.2.1 x.2.2.2.2.1 (fun z0 z1 z2 z3 z4 => kx 0 (mkSt lv_s_l09DrawOf_X0 (z0, (z1, z2, ()), (z3, z4, ()), ())))
noncomputable def sg_s_l09DrawOf {R : Type} (K : Nat) (k : Nat) : List (Nat × SegS R) := [(5, mkSeg lv_s_l09DrawOf_J5 lv_s_l09DrawOf_N5 (gs_l09DrawOf_j5 K k))]
noncomputable def su_s_l09DrawOf : List (Nat × Unit) := [(5, ())]
noncomputable def en_s_l09DrawOf {R : Type} (K : Nat) (k : Nat) : Env R := { L := lk [(7, mkLoop lv_s_l09DrawOf_L7 (gs_l09DrawOf_l7 K k)), (3, mkLoop lv_s_l09DrawOf_L3 (gs_l09DrawOf_l3 K k))], X := lk [(0, lv_s_l09DrawOf_X0), (2, lv_s_l09DrawOf_X2)], S := lk (sg_s_l09DrawOf K k), rv := rv_s_l09DrawOf }
noncomputable def cf_s_l09DrawOf (K : Nat) : Cfg := { ty := lk tys, fn := lk [], fs := lk [(78, sp_s_l01Next (s_l01Next K)), (80, sp_s_l09DrawRelation (s_l09DrawRelation K)), (85, sp_s_l01Pick (s_l01Pick K))], prot := 1, nt := Tryz.f117.ntmps }
noncomputable def c_s_l09DrawOf_L3 : Code := nthC (partsOf (hasK su_s_l09DrawOf) (bodyOf Tryz.f117)) 0
noncomputable def c_s_l09DrawOf_J5 : Code := nthC (partsOf (hasK su_s_l09DrawOf) c_s_l09DrawOf_L3) 0
noncomputable def c_s_l09DrawOf_L7 : Code := nthC (partsOf (hasK su_s_l09DrawOf) c_s_l09DrawOf_J5) 0
theorem es_l09DrawOf_l7 {R : Type} (K : Nat) (k : Nat) (x : den lv_s_l09DrawOf_L7.ty) (kx : Nat → St → Option R) (kr : St → Option R) : gs_l09DrawOf_l7 K (k + 1) x kx kr = evC (cf_s_l09DrawOf K) (en_s_l09DrawOf K k) c_s_l09DrawOf_L7 (mkSt lv_s_l09DrawOf_L7 x) (fun s => mkLoop lv_s_l09DrawOf_L7 (gs_l09DrawOf_l7 K k) s kx kr) kx kr := by kernel_rfl
theorem ss_l09DrawOf_l7 {R : Type} (K : Nat) (C : Cx) (hP : C.P = Tryz.prog) (O : CfgOk C (cf_s_l09DrawOf K)) (k : Nat) : LpS C (R := R) (mkLoop lv_s_l09DrawOf_L7 (gs_l09DrawOf_l7 K k)) c_s_l09DrawOf_L7 :=
  loop_sound O (by rw [hP]; kernel_rfl) (fun x kx kr => rfl) (es_l09DrawOf_l7 K) (fun k => lpOk_of (en := en_s_l09DrawOf K k) (S := hasK su_s_l09DrawOf) (fun i => hasK_lk (sg_s_l09DrawOf K k) i) _ (by rw [show partsOf (hasK su_s_l09DrawOf) c_s_l09DrawOf_L7 = [] from by kernel_rfl]; exact trivial)) k
theorem es_l09DrawOf_j5 {R : Type} (K : Nat) (k : Nat) (x : den lv_s_l09DrawOf_J5.ty) (kn : den lv_s_l09DrawOf_N5.ty → Option R) (kx : Nat → St → Option R) (kr : St → Option R) : gs_l09DrawOf_j5 K k x kn kx kr = evC (cf_s_l09DrawOf K) (en_s_l09DrawOf K k) c_s_l09DrawOf_J5 (mkSt lv_s_l09DrawOf_J5 x) (cutK lv_s_l09DrawOf_N5 kn) kx kr := by kernel_rfl
theorem ss_l09DrawOf_j5 {R : Type} (K : Nat) (C : Cx) (hP : C.P = Tryz.prog) (O : CfgOk C (cf_s_l09DrawOf K)) (k : Nat) : SgS C (R := R) (mkSeg lv_s_l09DrawOf_J5 lv_s_l09DrawOf_N5 (gs_l09DrawOf_j5 K k)) c_s_l09DrawOf_J5 :=
  seg_sound O (by rw [hP]; kernel_rfl) (es_l09DrawOf_j5 K k) (lpOk_of (en := en_s_l09DrawOf K k) (S := hasK su_s_l09DrawOf) (fun i => hasK_lk (sg_s_l09DrawOf K k) i) _ (by rw [show partsOf (hasK su_s_l09DrawOf) c_s_l09DrawOf_J5 = [(true, c_s_l09DrawOf_L7)] from by kernel_rfl]; exact (lpL_loop (f := mkLoop lv_s_l09DrawOf_L7 (gs_l09DrawOf_l7 K k)) (by kernel_rfl) (ss_l09DrawOf_l7 K C hP O k) trivial)))
theorem es_l09DrawOf_l3 {R : Type} (K : Nat) (k : Nat) (x : den lv_s_l09DrawOf_L3.ty) (kx : Nat → St → Option R) (kr : St → Option R) : gs_l09DrawOf_l3 K (k + 1) x kx kr = evC (cf_s_l09DrawOf K) (en_s_l09DrawOf K k) c_s_l09DrawOf_L3 (mkSt lv_s_l09DrawOf_L3 x) (fun s => mkLoop lv_s_l09DrawOf_L3 (gs_l09DrawOf_l3 K k) s kx kr) kx kr := by kernel_rfl
theorem ss_l09DrawOf_l3 {R : Type} (K : Nat) (C : Cx) (hP : C.P = Tryz.prog) (O : CfgOk C (cf_s_l09DrawOf K)) (k : Nat) : LpS C (R := R) (mkLoop lv_s_l09DrawOf_L3 (gs_l09DrawOf_l3 K k)) c_s_l09DrawOf_L3 :=
  loop_sound O (by rw [hP]; kernel_rfl) (fun x kx kr => rfl) (es_l09DrawOf_l3 K) (fun k => lpOk_of (en := en_s_l09DrawOf K k) (S := hasK su_s_l09DrawOf) (fun i => hasK_lk (sg_s_l09DrawOf K k) i) _ (by rw [show partsOf (hasK su_s_l09DrawOf) c_s_l09DrawOf_L3 = [(false, c_s_l09DrawOf_J5)] from by kernel_rfl]; exact (lpL_seg (f := mkSeg lv_s_l09DrawOf_J5 lv_s_l09DrawOf_N5 (gs_l09DrawOf_j5 K k)) (by kernel_rfl) (ss_l09DrawOf_j5 K C hP O k) trivial))) k
theorem e_s_l09DrawOf (K : Nat) (x : den ps_s_l09DrawOf.ty) : s_l09DrawOf K x = evFnS (cf_s_l09DrawOf K) ps_s_l09DrawOf rl_s_l09DrawOf (en_s_l09DrawOf K K) Tryz.f117.results.toList (bodyOf Tryz.f117) x := by kernel_rfl
theorem ok_s_l09DrawOf (K : Nat) : ShOk Tryz.prog 117 (sp_s_l09DrawOf (s_l09DrawOf K)) :=
  sh_ok (cf := cf_s_l09DrawOf K) (en := en_s_l09DrawOf K K) (c := bodyOf Tryz.f117) Tryz.func117 (by kernel_rfl) (by kernel_rfl) tysOk (fns_ok (l := []) trivial) (shs_ok (l := [(78, sp_s_l01Next (s_l01Next K)), (80, sp_s_l09DrawRelation (s_l09DrawRelation K)), (85, sp_s_l01Pick (s_l01Pick K))]) ⟨ok_s_l01Next K, ⟨ok_s_l09DrawRelation K, ⟨ok_s_l01Pick K, trivial⟩⟩⟩) (by kernel_rfl) rfl (Nat.le_of_ble_eq_true (by kernel_rfl)) (by kernel_rfl) (Nat.le_of_ble_eq_true (by kernel_rfl)) (by kernel_rfl) (fun C hP O => lpOk_of (en := en_s_l09DrawOf K K) (S := hasK su_s_l09DrawOf) (fun i => hasK_lk (sg_s_l09DrawOf K K) i) _ (by rw [show partsOf (hasK su_s_l09DrawOf) (bodyOf Tryz.f117) = [(true, c_s_l09DrawOf_L3)] from by kernel_rfl]; exact (lpL_loop (f := mkLoop lv_s_l09DrawOf_L3 (gs_l09DrawOf_l3 K K)) (by kernel_rfl) (ss_l09DrawOf_l3 K C hP O K) trivial))) (fun x y h => by rw [← e_s_l09DrawOf]; exact h)
noncomputable def ps_s_l09Draw : Lv := [(0, (.bx (.v (.st (.pair (.sl (.int .u8)) (.pair (.int .i64) (.pair (.int .u64) .unit)))))))]
noncomputable def rl_s_l09Draw : Lv := [(0, (.v (.st (.pair (.int .i64) (.pair (.sl (.st (.pair (.st (.pair (.int .i64) (.pair (.int .i64) .unit))) (.pair (.sl (.int .i64)) .unit)))) .unit)))))]
noncomputable def sp_s_l09Draw (F : (((List Int) × Int × Int × Unit) × Unit) → Option (((Int × (List ((Int × Int × Unit) × (List Int) × Unit)) × Unit) × Unit) × (((List Int) × Int × Int × Unit) × Unit))) : ShSpec := ⟨ps_s_l09Draw, rl_s_l09Draw, F⟩
noncomputable def s_l09Draw (K : Nat) (x : (((List Int) × Int × Int × Unit) × Unit)) : Option (((Int × (List ((Int × Int × Unit) × (List Int) × Unit)) × Unit) × Unit) × (((List Int) × Int × Int × Unit) × Unit)) :=
    (s_l09DrawOf K (x.1, ())).bind fun y1 =>
    (s_l09Bad K (y1.2.1, (y1.1.1.1, y1.1.1.2.1, ()), ())).bind fun y2 =>
    some ((y2.1.1, ()), (y2.2.1, ()))
noncomputable def rv_s_l09Draw : Lv := [(0, (.bx (.v (.st (.pair (.sl (.int .u8)) (.pair (.int .i64) (.pair (.int .u64) .unit))))))), (2, (.bx (.v (.st (.pair (.int .i64) (.pair (.sl (.st (.pair (.st (.pair (.int .i64) (.pair (.int .i64) .unit))) (.pair (.sl (.int .i64)) .unit)))) .unit))))))]
noncomputable def sg_s_l09Draw {R : Type} (K : Nat) (k : Nat) : List (Nat × SegS R) := []
noncomputable def su_s_l09Draw : List (Nat × Unit) := []
noncomputable def en_s_l09Draw {R : Type} (K : Nat) (k : Nat) : Env R := { L := lk [], X := lk [], S := lk (sg_s_l09Draw K k), rv := rv_s_l09Draw }
noncomputable def cf_s_l09Draw (K : Nat) : Cfg := { ty := lk tys, fn := lk [], fs := lk [(116, sp_s_l09Bad (s_l09Bad K)), (117, sp_s_l09DrawOf (s_l09DrawOf K))], prot := 1, nt := Tryz.f55.ntmps }
theorem e_s_l09Draw (K : Nat) (x : den ps_s_l09Draw.ty) : s_l09Draw K x = evFnS (cf_s_l09Draw K) ps_s_l09Draw rl_s_l09Draw (en_s_l09Draw K K) Tryz.f55.results.toList (bodyOf Tryz.f55) x := by kernel_rfl
theorem ok_s_l09Draw (K : Nat) : ShOk Tryz.prog 55 (sp_s_l09Draw (s_l09Draw K)) :=
  sh_ok (cf := cf_s_l09Draw K) (en := en_s_l09Draw K K) (c := bodyOf Tryz.f55) Tryz.func55 (by kernel_rfl) (by kernel_rfl) tysOk (fns_ok (l := []) trivial) (shs_ok (l := [(116, sp_s_l09Bad (s_l09Bad K)), (117, sp_s_l09DrawOf (s_l09DrawOf K))]) ⟨ok_s_l09Bad K, ⟨ok_s_l09DrawOf K, trivial⟩⟩) (by kernel_rfl) rfl (Nat.le_of_ble_eq_true (by kernel_rfl)) (by kernel_rfl) (Nat.le_of_ble_eq_true (by kernel_rfl)) (by kernel_rfl) (fun C hP O => lpOk_of (en := en_s_l09Draw K K) (S := hasK su_s_l09Draw) (fun i => hasK_lk (sg_s_l09Draw K K) i) _ (by rw [show partsOf (hasK su_s_l09Draw) (bodyOf Tryz.f55) = [] from by kernel_rfl]; exact trivial)) (fun x y h => by rw [← e_s_l09Draw]; exact h)
noncomputable def ps_s_l01From : Lv := [(0, (.v (.sl (.int .u8))))]
noncomputable def rl_s_l01From : Lv := [(0, (.bx (.v (.st (.pair (.sl (.int .u8)) (.pair (.int .i64) (.pair (.int .u64) .unit)))))))]
noncomputable def sp_s_l01From (F : ((List Int) × Unit) → Option ((((List Int) × Int × Int × Unit) × Unit) × Unit)) : ShSpec := ⟨ps_s_l01From, rl_s_l01From, F⟩
noncomputable def s_l01From_j5 {R : Type} (K : Nat) (k : Nat) (v0 : (List Int)) (v3 : ((List Int) × Int × Int × Unit)) (v4 : Int) (kn : (List Int) → ((List Int) × Int × Int × Unit) → Int → Option R)  : Option R :=
    (if (bnds v4 (v0.length : Int)) = true then
    let x3 := (IntKind.u64.wrap ((IntKind.u64.wrap (v3.2.2.1 * (1099511628211 : Int))) + (IntKind.u64.wrap (v0.getD v4.toNat (0 : Int)))))
    kn v0 (v3.1, v3.2.1, (IntKind.u64.wrap (x3 + (149 : Int))), ()) (IntKind.i64.wrap (v4 + (1 : Int)))
    else
    none)
noncomputable def s_l01From_l3 {R : Type} (K : Nat) : Nat → (List Int) → ((List Int) × Int × Int × Unit) → Int → (((List Int) × Int × Int × Unit) → Option R) → Option R
  | 0, _, _, _, _ => none
  | k + 1, v0, v3, v4, kx0 =>
    (if (decide (v4 < (v0.length : Int))) = true then
    (if (decide (v4 < (4096 : Int))) = true then
    s_l01From_j5 K k v0 v3 v4 (fun z4 z5 z6 =>
    s_l01From_l3 K k z4 z5 z6 kx0)
    else
    kx0 v3)
    else
    kx0 v3)
noncomputable def s_l01From (K : Nat) (x : ((List Int) × Unit)) : Option ((((List Int) × Int × Int × Unit) × Unit) × Unit) :=
    let x1 := (IntKind.u64.wrap ((13231 : Int) + (IntKind.u64.wrap (x.1.length : Int))))
    let x2 := ((x.1, (0 : Int), (0 : Int), ()).1, (x.1, (0 : Int), (0 : Int), ()).2.1, x1, ())
    s_l01From_l3 K K x.1 x2 (0 : Int) (fun z7 =>
    some ((z7, ()), ()))
noncomputable def lv_s_l01From_J5 : Lv := [(0, (.v (.sl (.int .u8)))), (3, (.bx (.v (.st (.pair (.sl (.int .u8)) (.pair (.int .i64) (.pair (.int .u64) .unit))))))), (4, (.v (.int .i64)))]
noncomputable def lv_s_l01From_L3 : Lv := [(0, (.v (.sl (.int .u8)))), (3, (.bx (.v (.st (.pair (.sl (.int .u8)) (.pair (.int .i64) (.pair (.int .u64) .unit))))))), (4, (.v (.int .i64)))]
noncomputable def lv_s_l01From_N5 : Lv := [(0, (.v (.sl (.int .u8)))), (3, (.bx (.v (.st (.pair (.sl (.int .u8)) (.pair (.int .i64) (.pair (.int .u64) .unit))))))), (4, (.v (.int .i64)))]
noncomputable def lv_s_l01From_X0 : Lv := [(3, (.bx (.v (.st (.pair (.sl (.int .u8)) (.pair (.int .i64) (.pair (.int .u64) .unit)))))))]
noncomputable def rv_s_l01From : Lv := [(2, (.bx (.v (.st (.pair (.sl (.int .u8)) (.pair (.int .i64) (.pair (.int .u64) .unit)))))))]
noncomputable def gs_l01From_j5 {R : Type} (K : Nat) (k : Nat) (x : den lv_s_l01From_J5.ty) (kn : den lv_s_l01From_N5.ty → Option R) (kx : Nat → St → Option R) (kr : St → Option R) : Option R := s_l01From_j5 K k x.1 x.2.1 x.2.2.1 (fun z0 z1 z2 => kn (z0, z1, z2, ()))
noncomputable def gs_l01From_l3 {R : Type} (K : Nat) (k : Nat) (x : den lv_s_l01From_L3.ty) (kx : Nat → St → Option R) (kr : St → Option R) : Option R := s_l01From_l3 K k x.1 x.2.1 x.2.2.1 (fun z0 => kx 0 (mkSt lv_s_l01From_X0 (z0, ())))
noncomputable def sg_s_l01From {R : Type} (K : Nat) (k : Nat) : List (Nat × SegS R) := [(5, mkSeg lv_s_l01From_J5 lv_s_l01From_N5 (gs_l01From_j5 K k))]
noncomputable def su_s_l01From : List (Nat × Unit) := [(5, ())]
noncomputable def en_s_l01From {R : Type} (K : Nat) (k : Nat) : Env R := { L := lk [(3, mkLoop lv_s_l01From_L3 (gs_l01From_l3 K k))], X := lk [(0, lv_s_l01From_X0)], S := lk (sg_s_l01From K k), rv := rv_s_l01From }
noncomputable def cf_s_l01From (K : Nat) : Cfg := { ty := lk tys, fn := lk [], fs := lk [], prot := 0, nt := Tryz.f56.ntmps }
noncomputable def c_s_l01From_L3 : Code := nthC (partsOf (hasK su_s_l01From) (bodyOf Tryz.f56)) 0
noncomputable def c_s_l01From_J5 : Code := nthC (partsOf (hasK su_s_l01From) c_s_l01From_L3) 0
theorem es_l01From_j5 {R : Type} (K : Nat) (k : Nat) (x : den lv_s_l01From_J5.ty) (kn : den lv_s_l01From_N5.ty → Option R) (kx : Nat → St → Option R) (kr : St → Option R) : gs_l01From_j5 K k x kn kx kr = evC (cf_s_l01From K) (en_s_l01From K k) c_s_l01From_J5 (mkSt lv_s_l01From_J5 x) (cutK lv_s_l01From_N5 kn) kx kr := by kernel_rfl
theorem ss_l01From_j5 {R : Type} (K : Nat) (C : Cx) (hP : C.P = Tryz.prog) (O : CfgOk C (cf_s_l01From K)) (k : Nat) : SgS C (R := R) (mkSeg lv_s_l01From_J5 lv_s_l01From_N5 (gs_l01From_j5 K k)) c_s_l01From_J5 :=
  seg_sound O (by rw [hP]; kernel_rfl) (es_l01From_j5 K k) (lpOk_of (en := en_s_l01From K k) (S := hasK su_s_l01From) (fun i => hasK_lk (sg_s_l01From K k) i) _ (by rw [show partsOf (hasK su_s_l01From) c_s_l01From_J5 = [] from by kernel_rfl]; exact trivial))
theorem es_l01From_l3 {R : Type} (K : Nat) (k : Nat) (x : den lv_s_l01From_L3.ty) (kx : Nat → St → Option R) (kr : St → Option R) : gs_l01From_l3 K (k + 1) x kx kr = evC (cf_s_l01From K) (en_s_l01From K k) c_s_l01From_L3 (mkSt lv_s_l01From_L3 x) (fun s => mkLoop lv_s_l01From_L3 (gs_l01From_l3 K k) s kx kr) kx kr := by kernel_rfl
theorem ss_l01From_l3 {R : Type} (K : Nat) (C : Cx) (hP : C.P = Tryz.prog) (O : CfgOk C (cf_s_l01From K)) (k : Nat) : LpS C (R := R) (mkLoop lv_s_l01From_L3 (gs_l01From_l3 K k)) c_s_l01From_L3 :=
  loop_sound O (by rw [hP]; kernel_rfl) (fun x kx kr => rfl) (es_l01From_l3 K) (fun k => lpOk_of (en := en_s_l01From K k) (S := hasK su_s_l01From) (fun i => hasK_lk (sg_s_l01From K k) i) _ (by rw [show partsOf (hasK su_s_l01From) c_s_l01From_L3 = [(false, c_s_l01From_J5)] from by kernel_rfl]; exact (lpL_seg (f := mkSeg lv_s_l01From_J5 lv_s_l01From_N5 (gs_l01From_j5 K k)) (by kernel_rfl) (ss_l01From_j5 K C hP O k) trivial))) k
theorem e_s_l01From (K : Nat) (x : den ps_s_l01From.ty) : s_l01From K x = evFnS (cf_s_l01From K) ps_s_l01From rl_s_l01From (en_s_l01From K K) Tryz.f56.results.toList (bodyOf Tryz.f56) x := by kernel_rfl
theorem ok_s_l01From (K : Nat) : ShOk Tryz.prog 56 (sp_s_l01From (s_l01From K)) :=
  sh_ok (cf := cf_s_l01From K) (en := en_s_l01From K K) (c := bodyOf Tryz.f56) Tryz.func56 (by kernel_rfl) (by kernel_rfl) tysOk (fns_ok (l := []) trivial) (shs_ok (l := []) trivial) (by kernel_rfl) rfl (Nat.le_of_ble_eq_true (by kernel_rfl)) (by kernel_rfl) (Nat.le_of_ble_eq_true (by kernel_rfl)) (by kernel_rfl) (fun C hP O => lpOk_of (en := en_s_l01From K K) (S := hasK su_s_l01From) (fun i => hasK_lk (sg_s_l01From K K) i) _ (by rw [show partsOf (hasK su_s_l01From) (bodyOf Tryz.f56) = [(true, c_s_l01From_L3)] from by kernel_rfl]; exact (lpL_loop (f := mkLoop lv_s_l01From_L3 (gs_l01From_l3 K K)) (by kernel_rfl) (ss_l01From_l3 K C hP O K) trivial))) (fun x y h => by rw [← e_s_l01From]; exact h)
noncomputable def ps_s_DrawCountSolutions : Lv := [(0, (.v (.sl (.int .u8))))]
noncomputable def rl_s_DrawCountSolutions : Lv := [(0, (.v (.st (.pair (.int .i64) (.pair (.sl (.st (.pair (.st (.pair (.int .i64) (.pair (.int .i64) .unit))) (.pair (.sl (.int .i64)) .unit)))) .unit)))))]
noncomputable def sp_s_DrawCountSolutions (F : ((List Int) × Unit) → Option (((Int × (List ((Int × Int × Unit) × (List Int) × Unit)) × Unit) × Unit) × Unit)) : ShSpec := ⟨ps_s_DrawCountSolutions, rl_s_DrawCountSolutions, F⟩
noncomputable def s_DrawCountSolutions (K : Nat) (x : ((List Int) × Unit)) : Option (((Int × (List ((Int × Int × Unit) × (List Int) × Unit)) × Unit) × Unit) × Unit) :=
    (s_l01From K (x.1, ())).bind fun y1 =>
    (s_l09Draw K (y1.1.1, ())).bind fun y2 =>
    some ((y2.1.1, ()), ())
noncomputable def rv_s_DrawCountSolutions : Lv := [(2, (.bx (.v (.st (.pair (.int .i64) (.pair (.sl (.st (.pair (.st (.pair (.int .i64) (.pair (.int .i64) .unit))) (.pair (.sl (.int .i64)) .unit)))) .unit))))))]
noncomputable def sg_s_DrawCountSolutions {R : Type} (K : Nat) (k : Nat) : List (Nat × SegS R) := []
noncomputable def su_s_DrawCountSolutions : List (Nat × Unit) := []
noncomputable def en_s_DrawCountSolutions {R : Type} (K : Nat) (k : Nat) : Env R := { L := lk [], X := lk [], S := lk (sg_s_DrawCountSolutions K k), rv := rv_s_DrawCountSolutions }
noncomputable def cf_s_DrawCountSolutions (K : Nat) : Cfg := { ty := lk tys, fn := lk [], fs := lk [(55, sp_s_l09Draw (s_l09Draw K)), (56, sp_s_l01From (s_l01From K))], prot := 0, nt := Tryz.f28.ntmps }
theorem e_s_DrawCountSolutions (K : Nat) (x : den ps_s_DrawCountSolutions.ty) : s_DrawCountSolutions K x = evFnS (cf_s_DrawCountSolutions K) ps_s_DrawCountSolutions rl_s_DrawCountSolutions (en_s_DrawCountSolutions K K) Tryz.f28.results.toList (bodyOf Tryz.f28) x := by kernel_rfl
theorem ok_s_DrawCountSolutions (K : Nat) : ShOk Tryz.prog 28 (sp_s_DrawCountSolutions (s_DrawCountSolutions K)) :=
  sh_ok (cf := cf_s_DrawCountSolutions K) (en := en_s_DrawCountSolutions K K) (c := bodyOf Tryz.f28) Tryz.func28 (by kernel_rfl) (by kernel_rfl) tysOk (fns_ok (l := []) trivial) (shs_ok (l := [(55, sp_s_l09Draw (s_l09Draw K)), (56, sp_s_l01From (s_l01From K))]) ⟨ok_s_l09Draw K, ⟨ok_s_l01From K, trivial⟩⟩) (by kernel_rfl) rfl (Nat.le_of_ble_eq_true (by kernel_rfl)) (by kernel_rfl) (Nat.le_of_ble_eq_true (by kernel_rfl)) (by kernel_rfl) (fun C hP O => lpOk_of (en := en_s_DrawCountSolutions K K) (S := hasK su_s_DrawCountSolutions) (fun i => hasK_lk (sg_s_DrawCountSolutions K K) i) _ (by rw [show partsOf (hasK su_s_DrawCountSolutions) (bodyOf Tryz.f28) = [] from by kernel_rfl]; exact trivial)) (fun x y h => by rw [← e_s_DrawCountSolutions]; exact h)
noncomputable def ps_s_DrawEasyClasses : Lv := [(0, (.v (.sl (.int .u8))))]
noncomputable def rl_s_DrawEasyClasses : Lv := [(0, (.v (.st (.pair (.int .i64) (.pair (.sl (.st (.pair (.st (.pair (.int .i64) (.pair (.int .i64) .unit))) (.pair (.sl (.int .i64)) .unit)))) .unit)))))]
noncomputable def sp_s_DrawEasyClasses (F : ((List Int) × Unit) → Option (((Int × (List ((Int × Int × Unit) × (List Int) × Unit)) × Unit) × Unit) × Unit)) : ShSpec := ⟨ps_s_DrawEasyClasses, rl_s_DrawEasyClasses, F⟩
noncomputable def s_DrawEasyClasses (K : Nat) (x : ((List Int) × Unit)) : Option (((Int × (List ((Int × Int × Unit) × (List Int) × Unit)) × Unit) × Unit) × Unit) :=
    (s_l01From K (x.1, ())).bind fun y1 =>
    (s_l09Draw K (y1.1.1, ())).bind fun y2 =>
    some ((y2.1.1, ()), ())
noncomputable def rv_s_DrawEasyClasses : Lv := [(2, (.bx (.v (.st (.pair (.int .i64) (.pair (.sl (.st (.pair (.st (.pair (.int .i64) (.pair (.int .i64) .unit))) (.pair (.sl (.int .i64)) .unit)))) .unit))))))]
noncomputable def sg_s_DrawEasyClasses {R : Type} (K : Nat) (k : Nat) : List (Nat × SegS R) := []
noncomputable def su_s_DrawEasyClasses : List (Nat × Unit) := []
noncomputable def en_s_DrawEasyClasses {R : Type} (K : Nat) (k : Nat) : Env R := { L := lk [], X := lk [], S := lk (sg_s_DrawEasyClasses K k), rv := rv_s_DrawEasyClasses }
noncomputable def cf_s_DrawEasyClasses (K : Nat) : Cfg := { ty := lk tys, fn := lk [], fs := lk [(55, sp_s_l09Draw (s_l09Draw K)), (56, sp_s_l01From (s_l01From K))], prot := 0, nt := Tryz.f19.ntmps }
theorem e_s_DrawEasyClasses (K : Nat) (x : den ps_s_DrawEasyClasses.ty) : s_DrawEasyClasses K x = evFnS (cf_s_DrawEasyClasses K) ps_s_DrawEasyClasses rl_s_DrawEasyClasses (en_s_DrawEasyClasses K K) Tryz.f19.results.toList (bodyOf Tryz.f19) x := by kernel_rfl
theorem ok_s_DrawEasyClasses (K : Nat) : ShOk Tryz.prog 19 (sp_s_DrawEasyClasses (s_DrawEasyClasses K)) :=
  sh_ok (cf := cf_s_DrawEasyClasses K) (en := en_s_DrawEasyClasses K K) (c := bodyOf Tryz.f19) Tryz.func19 (by kernel_rfl) (by kernel_rfl) tysOk (fns_ok (l := []) trivial) (shs_ok (l := [(55, sp_s_l09Draw (s_l09Draw K)), (56, sp_s_l01From (s_l01From K))]) ⟨ok_s_l09Draw K, ⟨ok_s_l01From K, trivial⟩⟩) (by kernel_rfl) rfl (Nat.le_of_ble_eq_true (by kernel_rfl)) (by kernel_rfl) (Nat.le_of_ble_eq_true (by kernel_rfl)) (by kernel_rfl) (fun C hP O => lpOk_of (en := en_s_DrawEasyClasses K K) (S := hasK su_s_DrawEasyClasses) (fun i => hasK_lk (sg_s_DrawEasyClasses K K) i) _ (by rw [show partsOf (hasK su_s_DrawEasyClasses) (bodyOf Tryz.f19) = [] from by kernel_rfl]; exact trivial)) (fun x y h => by rw [← e_s_DrawEasyClasses]; exact h)
noncomputable def ps_s_l06DrawOf : Lv := [(0, (.bx (.v (.st (.pair (.sl (.int .u8)) (.pair (.int .i64) (.pair (.int .u64) .unit))))))), (1, (.v (.int .i64)))]
noncomputable def rl_s_l06DrawOf : Lv := [(0, (.v (.st (.pair (.int .i64) (.pair (.int .i64) .unit)))))]
noncomputable def sp_s_l06DrawOf (F : (((List Int) × Int × Int × Unit) × Int × Unit) → Option (((Int × Int × Unit) × Unit) × (((List Int) × Int × Int × Unit) × Unit))) : ShSpec := ⟨ps_s_l06DrawOf, rl_s_l06DrawOf, F⟩
noncomputable def s_l06DrawOf_j10 {R : Type} (K : Nat) (k : Nat) (v0 : ((List Int) × Int × Int × Unit)) (v1 : Int) (v4 : (Int × Int × Unit)) (v5 : Int) (kn : Option R) (kr : (((List Int) × Int × Int × Unit) → (Int × Int × Unit) → Option R)) : Option R :=
    kr v0 ((v1, ((0 : Int), (0 : Int), ()).2.1, ()).1, v5, ())
noncomputable def s_l06DrawOf_j8 {R : Type} (K : Nat) (k : Nat) (v0 : ((List Int) × Int × Int × Unit)) (v1 : Int) (v4 : (Int × Int × Unit)) (v5 : Int) (kn : ((List Int) × Int × Int × Unit) → Int → (Int × Int × Unit) → Int → Option R)  : Option R :=
    (if (decide (v1 = (3 : Int))) = true then
    let l13 := [(150 : Int), (105 : Int), (127 : Int), (254 : Int), (232 : Int)]
    (s_l01Pick K (v0, l13, ())).bind fun y14 =>
    kn y14.2.1 v1 v4 y14.1.1
    else
    kn v0 v1 v4 v5)
noncomputable def s_l06DrawOf (K : Nat) (x : (((List Int) × Int × Int × Unit) × Int × Unit)) : Option (((Int × Int × Unit) × Unit) × (((List Int) × Int × Int × Unit) × Unit)) :=
    (s_l01All K (x.2.1, ())).bind fun y1 =>
    (s_l01Next K (x.1, (IntKind.i64.wrap (y1 + (1 : Int))), ())).bind fun y2 =>
    (s_l01Next K (y2.2.1, (5 : Int), ())).bind fun y3 =>
    (if (decide (y3.1.1 = (0 : Int))) = true then
    (s_l01Rows K (x.2.1, ())).bind fun y4 =>
    (s_l01Next K (y3.2.1, y4, ())).bind fun y5 =>
    (if (decide ((0 : Int) ≤ (IntKind.u64.wrap y5.1.1))) = true then
    (s_l01Rows K (x.2.1, ())).bind fun y6 =>
    (s_l01Next K (y5.2.1, y6, ())).bind fun y7 =>
    (if (decide ((0 : Int) ≤ (IntKind.u64.wrap y7.1.1))) = true then
    let x8 := (bitI .or .i64 (shlI .i64 (1 : Int) (IntKind.u64.wrap y5.1.1)) (shlI .i64 (1 : Int) (IntKind.u64.wrap y7.1.1)))
    s_l06DrawOf_j10 K K y7.2.1 x.2.1 ((0 : Int), (0 : Int), ()) x8 none (fun z9 z10 =>
    some ((z10, ()), (z9, ())))
    else
    none)
    else
    none)
    else
    (if (decide (y3.1.1 = (1 : Int))) = true then
    (if (decide (x.2.1 = (2 : Int))) = true then
    let l11 := [(9 : Int), (11 : Int), (13 : Int), (14 : Int), (7 : Int), (6 : Int)]
    (s_l01Pick K (y3.2.1, l11, ())).bind fun y12 =>
    s_l06DrawOf_j8 K K y12.2.1 x.2.1 ((0 : Int), (0 : Int), ()) y12.1.1 (fun z15 z16 z17 z18 =>
    s_l06DrawOf_j10 K K z15 z16 z17 z18 none (fun z19 z20 =>
    some ((z20, ()), (z19, ()))))
    else
    s_l06DrawOf_j8 K K y3.2.1 x.2.1 ((0 : Int), (0 : Int), ()) y2.1.1 (fun z21 z22 z23 z24 =>
    s_l06DrawOf_j10 K K z21 z22 z23 z24 none (fun z25 z26 =>
    some ((z26, ()), (z25, ())))))
    else
    s_l06DrawOf_j10 K K y3.2.1 x.2.1 ((0 : Int), (0 : Int), ()) y2.1.1 none (fun z27 z28 =>
    some ((z28, ()), (z27, ())))))
noncomputable def lv_s_l06DrawOf_J8 : Lv := [(0, (.bx (.v (.st (.pair (.sl (.int .u8)) (.pair (.int .i64) (.pair (.int .u64) .unit))))))), (1, (.v (.int .i64))), (4, (.bx (.v (.st (.pair (.int .i64) (.pair (.int .i64) .unit)))))), (5, (.v (.int .i64)))]
noncomputable def lv_s_l06DrawOf_J10 : Lv := [(0, (.bx (.v (.st (.pair (.sl (.int .u8)) (.pair (.int .i64) (.pair (.int .u64) .unit))))))), (1, (.v (.int .i64))), (4, (.bx (.v (.st (.pair (.int .i64) (.pair (.int .i64) .unit)))))), (5, (.v (.int .i64)))]
noncomputable def lv_s_l06DrawOf_N8 : Lv := [(0, (.bx (.v (.st (.pair (.sl (.int .u8)) (.pair (.int .i64) (.pair (.int .u64) .unit))))))), (1, (.v (.int .i64))), (4, (.bx (.v (.st (.pair (.int .i64) (.pair (.int .i64) .unit)))))), (5, (.v (.int .i64)))]
noncomputable def lv_s_l06DrawOf_N10 : Lv := []
noncomputable def rv_s_l06DrawOf : Lv := [(0, (.bx (.v (.st (.pair (.sl (.int .u8)) (.pair (.int .i64) (.pair (.int .u64) .unit))))))), (4, (.bx (.v (.st (.pair (.int .i64) (.pair (.int .i64) .unit))))))]
noncomputable def gs_l06DrawOf_j10 {R : Type} (K : Nat) (k : Nat) (x : den lv_s_l06DrawOf_J10.ty) (kn : den lv_s_l06DrawOf_N10.ty → Option R) (kx : Nat → St → Option R) (kr : St → Option R) : Option R := s_l06DrawOf_j10 K k x.1 x.2.1 x.2.2.1 x.2.2.2.1 (kn ()) (fun z0 z1 => kr (mkSt rv_s_l06DrawOf (z0, z1, ())))
noncomputable def gs_l06DrawOf_j8 {R : Type} (K : Nat) (k : Nat) (x : den lv_s_l06DrawOf_J8.ty) (kn : den lv_s_l06DrawOf_N8.ty → Option R) (kx : Nat → St → Option R) (kr : St → Option R) : Option R := s_l06DrawOf_j8 K k x.1 x.2.1 x.2.2.1 x.2.2.2.1 (fun z0 z1 z2 z3 => kn (z0, z1, z2, z3, ()))
noncomputable def sg_s_l06DrawOf {R : Type} (K : Nat) (k : Nat) : List (Nat × SegS R) := [(10, mkSeg lv_s_l06DrawOf_J10 lv_s_l06DrawOf_N10 (gs_l06DrawOf_j10 K k)), (8, mkSeg lv_s_l06DrawOf_J8 lv_s_l06DrawOf_N8 (gs_l06DrawOf_j8 K k))]
noncomputable def su_s_l06DrawOf : List (Nat × Unit) := [(10, ()), (8, ())]
noncomputable def en_s_l06DrawOf {R : Type} (K : Nat) (k : Nat) : Env R := { L := lk [], X := lk [], S := lk (sg_s_l06DrawOf K k), rv := rv_s_l06DrawOf }
noncomputable def cf_s_l06DrawOf (K : Nat) : Cfg := { ty := lk tys, fn := lk [(120, sp_s_l01Rows (s_l01Rows K)), (138, sp_s_l01All (s_l01All K))], fs := lk [(78, sp_s_l01Next (s_l01Next K)), (85, sp_s_l01Pick (s_l01Pick K))], prot := 1, nt := Tryz.f137.ntmps }
noncomputable def c_s_l06DrawOf_J8 : Code := nthC (partsOf (hasK su_s_l06DrawOf) (bodyOf Tryz.f137)) 0
noncomputable def c_s_l06DrawOf_J10 : Code := nthC (partsOf (hasK su_s_l06DrawOf) (bodyOf Tryz.f137)) 1
theorem es_l06DrawOf_j8 {R : Type} (K : Nat) (k : Nat) (x : den lv_s_l06DrawOf_J8.ty) (kn : den lv_s_l06DrawOf_N8.ty → Option R) (kx : Nat → St → Option R) (kr : St → Option R) : gs_l06DrawOf_j8 K k x kn kx kr = evC (cf_s_l06DrawOf K) (en_s_l06DrawOf K k) c_s_l06DrawOf_J8 (mkSt lv_s_l06DrawOf_J8 x) (cutK lv_s_l06DrawOf_N8 kn) kx kr := by kernel_rfl
theorem ss_l06DrawOf_j8 {R : Type} (K : Nat) (C : Cx) (hP : C.P = Tryz.prog) (O : CfgOk C (cf_s_l06DrawOf K)) (k : Nat) : SgS C (R := R) (mkSeg lv_s_l06DrawOf_J8 lv_s_l06DrawOf_N8 (gs_l06DrawOf_j8 K k)) c_s_l06DrawOf_J8 :=
  seg_sound O (by rw [hP]; kernel_rfl) (es_l06DrawOf_j8 K k) (lpOk_of (en := en_s_l06DrawOf K k) (S := hasK su_s_l06DrawOf) (fun i => hasK_lk (sg_s_l06DrawOf K k) i) _ (by rw [show partsOf (hasK su_s_l06DrawOf) c_s_l06DrawOf_J8 = [] from by kernel_rfl]; exact trivial))
theorem es_l06DrawOf_j10 {R : Type} (K : Nat) (k : Nat) (x : den lv_s_l06DrawOf_J10.ty) (kn : den lv_s_l06DrawOf_N10.ty → Option R) (kx : Nat → St → Option R) (kr : St → Option R) : gs_l06DrawOf_j10 K k x kn kx kr = evC (cf_s_l06DrawOf K) (en_s_l06DrawOf K k) c_s_l06DrawOf_J10 (mkSt lv_s_l06DrawOf_J10 x) (cutK lv_s_l06DrawOf_N10 kn) kx kr := by kernel_rfl
theorem ss_l06DrawOf_j10 {R : Type} (K : Nat) (C : Cx) (hP : C.P = Tryz.prog) (O : CfgOk C (cf_s_l06DrawOf K)) (k : Nat) : SgS C (R := R) (mkSeg lv_s_l06DrawOf_J10 lv_s_l06DrawOf_N10 (gs_l06DrawOf_j10 K k)) c_s_l06DrawOf_J10 :=
  seg_sound O (by rw [hP]; kernel_rfl) (es_l06DrawOf_j10 K k) (lpOk_of (en := en_s_l06DrawOf K k) (S := hasK su_s_l06DrawOf) (fun i => hasK_lk (sg_s_l06DrawOf K k) i) _ (by rw [show partsOf (hasK su_s_l06DrawOf) c_s_l06DrawOf_J10 = [] from by kernel_rfl]; exact trivial))
theorem e_s_l06DrawOf (K : Nat) (x : den ps_s_l06DrawOf.ty) : s_l06DrawOf K x = evFnS (cf_s_l06DrawOf K) ps_s_l06DrawOf rl_s_l06DrawOf (en_s_l06DrawOf K K) Tryz.f137.results.toList (bodyOf Tryz.f137) x := by kernel_rfl
theorem ok_s_l06DrawOf (K : Nat) : ShOk Tryz.prog 137 (sp_s_l06DrawOf (s_l06DrawOf K)) :=
  sh_ok (cf := cf_s_l06DrawOf K) (en := en_s_l06DrawOf K K) (c := bodyOf Tryz.f137) Tryz.func137 (by kernel_rfl) (by kernel_rfl) tysOk (fns_ok (l := [(120, sp_s_l01Rows (s_l01Rows K)), (138, sp_s_l01All (s_l01All K))]) ⟨ok_s_l01Rows K, ⟨ok_s_l01All K, trivial⟩⟩) (shs_ok (l := [(78, sp_s_l01Next (s_l01Next K)), (85, sp_s_l01Pick (s_l01Pick K))]) ⟨ok_s_l01Next K, ⟨ok_s_l01Pick K, trivial⟩⟩) (by kernel_rfl) rfl (Nat.le_of_ble_eq_true (by kernel_rfl)) (by kernel_rfl) (Nat.le_of_ble_eq_true (by kernel_rfl)) (by kernel_rfl) (fun C hP O => lpOk_of (en := en_s_l06DrawOf K K) (S := hasK su_s_l06DrawOf) (fun i => hasK_lk (sg_s_l06DrawOf K K) i) _ (by rw [show partsOf (hasK su_s_l06DrawOf) (bodyOf Tryz.f137) = [(false, c_s_l06DrawOf_J8), (false, c_s_l06DrawOf_J10)] from by kernel_rfl]; exact (lpL_seg (f := mkSeg lv_s_l06DrawOf_J8 lv_s_l06DrawOf_N8 (gs_l06DrawOf_j8 K K)) (by kernel_rfl) (ss_l06DrawOf_j8 K C hP O K) (lpL_seg (f := mkSeg lv_s_l06DrawOf_J10 lv_s_l06DrawOf_N10 (gs_l06DrawOf_j10 K K)) (by kernel_rfl) (ss_l06DrawOf_j10 K C hP O K) trivial)))) (fun x y h => by rw [← e_s_l06DrawOf]; exact h)
noncomputable def ps_s_l06Draw : Lv := [(0, (.bx (.v (.st (.pair (.sl (.int .u8)) (.pair (.int .i64) (.pair (.int .u64) .unit)))))))]
noncomputable def rl_s_l06Draw : Lv := [(0, (.v (.st (.pair (.int .i64) (.pair (.int .i64) .unit)))))]
noncomputable def sp_s_l06Draw (F : (((List Int) × Int × Int × Unit) × Unit) → Option (((Int × Int × Unit) × Unit) × (((List Int) × Int × Int × Unit) × Unit))) : ShSpec := ⟨ps_s_l06Draw, rl_s_l06Draw, F⟩
noncomputable def s_l06Draw (K : Nat) (x : (((List Int) × Int × Int × Unit) × Unit)) : Option (((Int × Int × Unit) × Unit) × (((List Int) × Int × Int × Unit) × Unit)) :=
    let l1 := [(1 : Int), (2 : Int), (2 : Int), (3 : Int), (3 : Int), (4 : Int)]
    (s_l01Pick K (x.1, l1, ())).bind fun y2 =>
    (s_l06DrawOf K (y2.2.1, y2.1.1, ())).bind fun y3 =>
    (s_l01Next K (y3.2.1, (40 : Int), ())).bind fun y4 =>
    (if (decide (y4.1.1 = (0 : Int))) = true then
    let l5 := [(0 : Int), (5 : Int), (-1 : Int)]
    (s_l01Pick K (y4.2.1, l5, ())).bind fun y6 =>
    some (((y6.1.1, y3.1.1.2.1, ()), ()), (y6.2.1, ()))
    else
    (if (decide (y4.1.1 = (1 : Int))) = true then
    let l7 := [(-1 : Int), (65536 : Int)]
    (s_l01Pick K (y4.2.1, l7, ())).bind fun y8 =>
    some (((y3.1.1.1, y8.1.1, ()), ()), (y8.2.1, ()))
    else
    some ((y3.1.1, ()), (y4.2.1, ()))))
noncomputable def rv_s_l06Draw : Lv := [(0, (.bx (.v (.st (.pair (.sl (.int .u8)) (.pair (.int .i64) (.pair (.int .u64) .unit))))))), (2, (.bx (.v (.st (.pair (.int .i64) (.pair (.int .i64) .unit))))))]
noncomputable def sg_s_l06Draw {R : Type} (K : Nat) (k : Nat) : List (Nat × SegS R) := []
noncomputable def su_s_l06Draw : List (Nat × Unit) := []
noncomputable def en_s_l06Draw {R : Type} (K : Nat) (k : Nat) : Env R := { L := lk [], X := lk [], S := lk (sg_s_l06Draw K k), rv := rv_s_l06Draw }
noncomputable def cf_s_l06Draw (K : Nat) : Cfg := { ty := lk tys, fn := lk [], fs := lk [(78, sp_s_l01Next (s_l01Next K)), (85, sp_s_l01Pick (s_l01Pick K)), (137, sp_s_l06DrawOf (s_l06DrawOf K))], prot := 1, nt := Tryz.f79.ntmps }
theorem e_s_l06Draw (K : Nat) (x : den ps_s_l06Draw.ty) : s_l06Draw K x = evFnS (cf_s_l06Draw K) ps_s_l06Draw rl_s_l06Draw (en_s_l06Draw K K) Tryz.f79.results.toList (bodyOf Tryz.f79) x := by kernel_rfl
theorem ok_s_l06Draw (K : Nat) : ShOk Tryz.prog 79 (sp_s_l06Draw (s_l06Draw K)) :=
  sh_ok (cf := cf_s_l06Draw K) (en := en_s_l06Draw K K) (c := bodyOf Tryz.f79) Tryz.func79 (by kernel_rfl) (by kernel_rfl) tysOk (fns_ok (l := []) trivial) (shs_ok (l := [(78, sp_s_l01Next (s_l01Next K)), (85, sp_s_l01Pick (s_l01Pick K)), (137, sp_s_l06DrawOf (s_l06DrawOf K))]) ⟨ok_s_l01Next K, ⟨ok_s_l01Pick K, ⟨ok_s_l06DrawOf K, trivial⟩⟩⟩) (by kernel_rfl) rfl (Nat.le_of_ble_eq_true (by kernel_rfl)) (by kernel_rfl) (Nat.le_of_ble_eq_true (by kernel_rfl)) (by kernel_rfl) (fun C hP O => lpOk_of (en := en_s_l06Draw K K) (S := hasK su_s_l06Draw) (fun i => hasK_lk (sg_s_l06Draw K K) i) _ (by rw [show partsOf (hasK su_s_l06Draw) (bodyOf Tryz.f79) = [] from by kernel_rfl]; exact trivial)) (fun x y h => by rw [← e_s_l06Draw]; exact h)
noncomputable def as_s_DrawEasyRow : Ty := (.pair (.sl (.int .u8)) .unit)
noncomputable def sp_s_DrawEasyRow (F : ((List Int) × Unit) → Option (Int × Int × Unit)) : FnSpec := ⟨as_s_DrawEasyRow, [false], (.st (.pair (.int .i64) (.pair (.int .i64) .unit))), F⟩
noncomputable def s_DrawEasyRow (K : Nat) (x : ((List Int) × Unit)) : Option (Int × Int × Unit) :=
    (s_l01From K (x.1, ())).bind fun y1 =>
    (s_l01Next K (y1.1.1, (2 : Int), ())).bind fun y2 =>
    (if (decide (y2.1.1 = (0 : Int))) = true then
    (s_l06Draw K (y2.2.1, ())).bind fun y3 =>
    some y3.1.1
    else
    (s_l01Next K (y2.2.1, (6 : Int), ())).bind fun y4 =>
    (s_l09DrawRelation K (y4.2.1, y4.1.1, ())).bind fun y5 =>
    some y5.1.1)
noncomputable def rv_s_DrawEasyRow : Lv := [(2, (.bx (.v (.st (.pair (.int .i64) (.pair (.int .i64) .unit))))))]
noncomputable def sg_s_DrawEasyRow {R : Type} (K : Nat) (k : Nat) : List (Nat × SegS R) := []
noncomputable def su_s_DrawEasyRow : List (Nat × Unit) := []
noncomputable def en_s_DrawEasyRow {R : Type} (K : Nat) (k : Nat) : Env R := { L := lk [], X := lk [], S := lk (sg_s_DrawEasyRow K k), rv := rv_s_DrawEasyRow }
noncomputable def cf_s_DrawEasyRow (K : Nat) : Cfg := { ty := lk tys, fn := lk [], fs := lk [(56, sp_s_l01From (s_l01From K)), (78, sp_s_l01Next (s_l01Next K)), (79, sp_s_l06Draw (s_l06Draw K)), (80, sp_s_l09DrawRelation (s_l09DrawRelation K))], prot := 0, nt := Tryz.f21.ntmps }
theorem e_s_DrawEasyRow (K : Nat) (x : den as_s_DrawEasyRow) : s_DrawEasyRow K x = evFn (cf_s_DrawEasyRow K) as_s_DrawEasyRow [false] (.st (.pair (.int .i64) (.pair (.int .i64) .unit))) (en_s_DrawEasyRow K K) Tryz.f21.results.toList (bodyOf Tryz.f21) x := by kernel_rfl
theorem ok_s_DrawEasyRow (K : Nat) : FnOk Tryz.prog 21 (sp_s_DrawEasyRow (s_DrawEasyRow K)) :=
  fn_ok (cf := cf_s_DrawEasyRow K) (en := en_s_DrawEasyRow K K) (c := bodyOf Tryz.f21) Tryz.func21 (by kernel_rfl) (by kernel_rfl) tysOk (fns_ok (l := []) trivial) (shs_ok (l := [(56, sp_s_l01From (s_l01From K)), (78, sp_s_l01Next (s_l01Next K)), (79, sp_s_l06Draw (s_l06Draw K)), (80, sp_s_l09DrawRelation (s_l09DrawRelation K))]) ⟨ok_s_l01From K, ⟨ok_s_l01Next K, ⟨ok_s_l06Draw K, ⟨ok_s_l09DrawRelation K, trivial⟩⟩⟩⟩) (by kernel_rfl) rfl (Nat.le_of_ble_eq_true (by kernel_rfl)) (by kernel_rfl) (of_decide_eq_true (by kernel_rfl)) (by decide) (fun C hP O => lpOk_of (en := en_s_DrawEasyRow K K) (S := hasK su_s_DrawEasyRow) (fun i => hasK_lk (sg_s_DrawEasyRow K K) i) _ (by rw [show partsOf (hasK su_s_DrawEasyRow) (bodyOf Tryz.f21) = [] from by kernel_rfl]; exact trivial)) (fun x y h => by rw [← e_s_DrawEasyRow]; exact h)
noncomputable def ps_s_DrawFlipInstance : Lv := [(0, (.v (.sl (.int .u8))))]
noncomputable def rl_s_DrawFlipInstance : Lv := [(0, (.v (.st (.pair (.int .i64) (.pair (.sl (.st (.pair (.st (.pair (.int .i64) (.pair (.int .i64) .unit))) (.pair (.sl (.int .i64)) .unit)))) .unit)))))]
noncomputable def sp_s_DrawFlipInstance (F : ((List Int) × Unit) → Option (((Int × (List ((Int × Int × Unit) × (List Int) × Unit)) × Unit) × Unit) × Unit)) : ShSpec := ⟨ps_s_DrawFlipInstance, rl_s_DrawFlipInstance, F⟩
noncomputable def s_DrawFlipInstance (K : Nat) (x : ((List Int) × Unit)) : Option (((Int × (List ((Int × Int × Unit) × (List Int) × Unit)) × Unit) × Unit) × Unit) :=
    (s_l01From K (x.1, ())).bind fun y1 =>
    (s_l09Draw K (y1.1.1, ())).bind fun y2 =>
    some ((y2.1.1, ()), ())
noncomputable def rv_s_DrawFlipInstance : Lv := [(2, (.bx (.v (.st (.pair (.int .i64) (.pair (.sl (.st (.pair (.st (.pair (.int .i64) (.pair (.int .i64) .unit))) (.pair (.sl (.int .i64)) .unit)))) .unit))))))]
noncomputable def sg_s_DrawFlipInstance {R : Type} (K : Nat) (k : Nat) : List (Nat × SegS R) := []
noncomputable def su_s_DrawFlipInstance : List (Nat × Unit) := []
noncomputable def en_s_DrawFlipInstance {R : Type} (K : Nat) (k : Nat) : Env R := { L := lk [], X := lk [], S := lk (sg_s_DrawFlipInstance K k), rv := rv_s_DrawFlipInstance }
noncomputable def cf_s_DrawFlipInstance (K : Nat) : Cfg := { ty := lk tys, fn := lk [], fs := lk [(55, sp_s_l09Draw (s_l09Draw K)), (56, sp_s_l01From (s_l01From K))], prot := 0, nt := Tryz.f17.ntmps }
theorem e_s_DrawFlipInstance (K : Nat) (x : den ps_s_DrawFlipInstance.ty) : s_DrawFlipInstance K x = evFnS (cf_s_DrawFlipInstance K) ps_s_DrawFlipInstance rl_s_DrawFlipInstance (en_s_DrawFlipInstance K K) Tryz.f17.results.toList (bodyOf Tryz.f17) x := by kernel_rfl
theorem ok_s_DrawFlipInstance (K : Nat) : ShOk Tryz.prog 17 (sp_s_DrawFlipInstance (s_DrawFlipInstance K)) :=
  sh_ok (cf := cf_s_DrawFlipInstance K) (en := en_s_DrawFlipInstance K K) (c := bodyOf Tryz.f17) Tryz.func17 (by kernel_rfl) (by kernel_rfl) tysOk (fns_ok (l := []) trivial) (shs_ok (l := [(55, sp_s_l09Draw (s_l09Draw K)), (56, sp_s_l01From (s_l01From K))]) ⟨ok_s_l09Draw K, ⟨ok_s_l01From K, trivial⟩⟩) (by kernel_rfl) rfl (Nat.le_of_ble_eq_true (by kernel_rfl)) (by kernel_rfl) (Nat.le_of_ble_eq_true (by kernel_rfl)) (by kernel_rfl) (fun C hP O => lpOk_of (en := en_s_DrawFlipInstance K K) (S := hasK su_s_DrawFlipInstance) (fun i => hasK_lk (sg_s_DrawFlipInstance K K) i) _ (by rw [show partsOf (hasK su_s_DrawFlipInstance) (bodyOf Tryz.f17) = [] from by kernel_rfl]; exact trivial)) (fun x y h => by rw [← e_s_DrawFlipInstance]; exact h)
noncomputable def ps_s_DrawLeastSolution : Lv := [(0, (.v (.sl (.int .u8))))]
noncomputable def rl_s_DrawLeastSolution : Lv := [(0, (.v (.st (.pair (.int .i64) (.pair (.sl (.st (.pair (.st (.pair (.int .i64) (.pair (.int .i64) .unit))) (.pair (.sl (.int .i64)) .unit)))) .unit)))))]
noncomputable def sp_s_DrawLeastSolution (F : ((List Int) × Unit) → Option (((Int × (List ((Int × Int × Unit) × (List Int) × Unit)) × Unit) × Unit) × Unit)) : ShSpec := ⟨ps_s_DrawLeastSolution, rl_s_DrawLeastSolution, F⟩
noncomputable def s_DrawLeastSolution (K : Nat) (x : ((List Int) × Unit)) : Option (((Int × (List ((Int × Int × Unit) × (List Int) × Unit)) × Unit) × Unit) × Unit) :=
    (s_l01From K (x.1, ())).bind fun y1 =>
    (s_l09Draw K (y1.1.1, ())).bind fun y2 =>
    some ((y2.1.1, ()), ())
noncomputable def rv_s_DrawLeastSolution : Lv := [(2, (.bx (.v (.st (.pair (.int .i64) (.pair (.sl (.st (.pair (.st (.pair (.int .i64) (.pair (.int .i64) .unit))) (.pair (.sl (.int .i64)) .unit)))) .unit))))))]
noncomputable def sg_s_DrawLeastSolution {R : Type} (K : Nat) (k : Nat) : List (Nat × SegS R) := []
noncomputable def su_s_DrawLeastSolution : List (Nat × Unit) := []
noncomputable def en_s_DrawLeastSolution {R : Type} (K : Nat) (k : Nat) : Env R := { L := lk [], X := lk [], S := lk (sg_s_DrawLeastSolution K k), rv := rv_s_DrawLeastSolution }
noncomputable def cf_s_DrawLeastSolution (K : Nat) : Cfg := { ty := lk tys, fn := lk [], fs := lk [(55, sp_s_l09Draw (s_l09Draw K)), (56, sp_s_l01From (s_l01From K))], prot := 0, nt := Tryz.f24.ntmps }
theorem e_s_DrawLeastSolution (K : Nat) (x : den ps_s_DrawLeastSolution.ty) : s_DrawLeastSolution K x = evFnS (cf_s_DrawLeastSolution K) ps_s_DrawLeastSolution rl_s_DrawLeastSolution (en_s_DrawLeastSolution K K) Tryz.f24.results.toList (bodyOf Tryz.f24) x := by kernel_rfl
theorem ok_s_DrawLeastSolution (K : Nat) : ShOk Tryz.prog 24 (sp_s_DrawLeastSolution (s_DrawLeastSolution K)) :=
  sh_ok (cf := cf_s_DrawLeastSolution K) (en := en_s_DrawLeastSolution K K) (c := bodyOf Tryz.f24) Tryz.func24 (by kernel_rfl) (by kernel_rfl) tysOk (fns_ok (l := []) trivial) (shs_ok (l := [(55, sp_s_l09Draw (s_l09Draw K)), (56, sp_s_l01From (s_l01From K))]) ⟨ok_s_l09Draw K, ⟨ok_s_l01From K, trivial⟩⟩) (by kernel_rfl) rfl (Nat.le_of_ble_eq_true (by kernel_rfl)) (by kernel_rfl) (Nat.le_of_ble_eq_true (by kernel_rfl)) (by kernel_rfl) (fun C hP O => lpOk_of (en := en_s_DrawLeastSolution K K) (S := hasK su_s_DrawLeastSolution) (fun i => hasK_lk (sg_s_DrawLeastSolution K K) i) _ (by rw [show partsOf (hasK su_s_DrawLeastSolution) (bodyOf Tryz.f24) = [] from by kernel_rfl]; exact trivial)) (fun x y h => by rw [← e_s_DrawLeastSolution]; exact h)
noncomputable def ps_s_DrawMeetOfSolutions : Lv := [(0, (.v (.sl (.int .u8))))]
noncomputable def rl_s_DrawMeetOfSolutions : Lv := [(0, (.v (.st (.pair (.int .i64) (.pair (.sl (.st (.pair (.st (.pair (.int .i64) (.pair (.int .i64) .unit))) (.pair (.sl (.int .i64)) .unit)))) .unit)))))]
noncomputable def sp_s_DrawMeetOfSolutions (F : ((List Int) × Unit) → Option (((Int × (List ((Int × Int × Unit) × (List Int) × Unit)) × Unit) × Unit) × Unit)) : ShSpec := ⟨ps_s_DrawMeetOfSolutions, rl_s_DrawMeetOfSolutions, F⟩
noncomputable def s_DrawMeetOfSolutions (K : Nat) (x : ((List Int) × Unit)) : Option (((Int × (List ((Int × Int × Unit) × (List Int) × Unit)) × Unit) × Unit) × Unit) :=
    (s_l01From K (x.1, ())).bind fun y1 =>
    (s_l09Draw K (y1.1.1, ())).bind fun y2 =>
    some ((y2.1.1, ()), ())
noncomputable def rv_s_DrawMeetOfSolutions : Lv := [(2, (.bx (.v (.st (.pair (.int .i64) (.pair (.sl (.st (.pair (.st (.pair (.int .i64) (.pair (.int .i64) .unit))) (.pair (.sl (.int .i64)) .unit)))) .unit))))))]
noncomputable def sg_s_DrawMeetOfSolutions {R : Type} (K : Nat) (k : Nat) : List (Nat × SegS R) := []
noncomputable def su_s_DrawMeetOfSolutions : List (Nat × Unit) := []
noncomputable def en_s_DrawMeetOfSolutions {R : Type} (K : Nat) (k : Nat) : Env R := { L := lk [], X := lk [], S := lk (sg_s_DrawMeetOfSolutions K k), rv := rv_s_DrawMeetOfSolutions }
noncomputable def cf_s_DrawMeetOfSolutions (K : Nat) : Cfg := { ty := lk tys, fn := lk [], fs := lk [(55, sp_s_l09Draw (s_l09Draw K)), (56, sp_s_l01From (s_l01From K))], prot := 0, nt := Tryz.f26.ntmps }
theorem e_s_DrawMeetOfSolutions (K : Nat) (x : den ps_s_DrawMeetOfSolutions.ty) : s_DrawMeetOfSolutions K x = evFnS (cf_s_DrawMeetOfSolutions K) ps_s_DrawMeetOfSolutions rl_s_DrawMeetOfSolutions (en_s_DrawMeetOfSolutions K K) Tryz.f26.results.toList (bodyOf Tryz.f26) x := by kernel_rfl
theorem ok_s_DrawMeetOfSolutions (K : Nat) : ShOk Tryz.prog 26 (sp_s_DrawMeetOfSolutions (s_DrawMeetOfSolutions K)) :=
  sh_ok (cf := cf_s_DrawMeetOfSolutions K) (en := en_s_DrawMeetOfSolutions K K) (c := bodyOf Tryz.f26) Tryz.func26 (by kernel_rfl) (by kernel_rfl) tysOk (fns_ok (l := []) trivial) (shs_ok (l := [(55, sp_s_l09Draw (s_l09Draw K)), (56, sp_s_l01From (s_l01From K))]) ⟨ok_s_l09Draw K, ⟨ok_s_l01From K, trivial⟩⟩) (by kernel_rfl) rfl (Nat.le_of_ble_eq_true (by kernel_rfl)) (by kernel_rfl) (Nat.le_of_ble_eq_true (by kernel_rfl)) (by kernel_rfl) (fun C hP O => lpOk_of (en := en_s_DrawMeetOfSolutions K K) (S := hasK su_s_DrawMeetOfSolutions) (fun i => hasK_lk (sg_s_DrawMeetOfSolutions K K) i) _ (by rw [show partsOf (hasK su_s_DrawMeetOfSolutions) (bodyOf Tryz.f26) = [] from by kernel_rfl]; exact trivial)) (fun x y h => by rw [← e_s_DrawMeetOfSolutions]; exact h)
noncomputable def ps_s_DrawSolutionsOf : Lv := [(0, (.v (.sl (.int .u8))))]
noncomputable def rl_s_DrawSolutionsOf : Lv := [(0, (.v (.st (.pair (.int .i64) (.pair (.sl (.st (.pair (.st (.pair (.int .i64) (.pair (.int .i64) .unit))) (.pair (.sl (.int .i64)) .unit)))) .unit)))))]
noncomputable def sp_s_DrawSolutionsOf (F : ((List Int) × Unit) → Option (((Int × (List ((Int × Int × Unit) × (List Int) × Unit)) × Unit) × Unit) × Unit)) : ShSpec := ⟨ps_s_DrawSolutionsOf, rl_s_DrawSolutionsOf, F⟩
noncomputable def s_DrawSolutionsOf (K : Nat) (x : ((List Int) × Unit)) : Option (((Int × (List ((Int × Int × Unit) × (List Int) × Unit)) × Unit) × Unit) × Unit) :=
    (s_l01From K (x.1, ())).bind fun y1 =>
    (s_l09Draw K (y1.1.1, ())).bind fun y2 =>
    some ((y2.1.1, ()), ())
noncomputable def rv_s_DrawSolutionsOf : Lv := [(2, (.bx (.v (.st (.pair (.int .i64) (.pair (.sl (.st (.pair (.st (.pair (.int .i64) (.pair (.int .i64) .unit))) (.pair (.sl (.int .i64)) .unit)))) .unit))))))]
noncomputable def sg_s_DrawSolutionsOf {R : Type} (K : Nat) (k : Nat) : List (Nat × SegS R) := []
noncomputable def su_s_DrawSolutionsOf : List (Nat × Unit) := []
noncomputable def en_s_DrawSolutionsOf {R : Type} (K : Nat) (k : Nat) : Env R := { L := lk [], X := lk [], S := lk (sg_s_DrawSolutionsOf K k), rv := rv_s_DrawSolutionsOf }
noncomputable def cf_s_DrawSolutionsOf (K : Nat) : Cfg := { ty := lk tys, fn := lk [], fs := lk [(55, sp_s_l09Draw (s_l09Draw K)), (56, sp_s_l01From (s_l01From K))], prot := 0, nt := Tryz.f6.ntmps }
theorem e_s_DrawSolutionsOf (K : Nat) (x : den ps_s_DrawSolutionsOf.ty) : s_DrawSolutionsOf K x = evFnS (cf_s_DrawSolutionsOf K) ps_s_DrawSolutionsOf rl_s_DrawSolutionsOf (en_s_DrawSolutionsOf K K) Tryz.f6.results.toList (bodyOf Tryz.f6) x := by kernel_rfl
theorem ok_s_DrawSolutionsOf (K : Nat) : ShOk Tryz.prog 6 (sp_s_DrawSolutionsOf (s_DrawSolutionsOf K)) :=
  sh_ok (cf := cf_s_DrawSolutionsOf K) (en := en_s_DrawSolutionsOf K K) (c := bodyOf Tryz.f6) Tryz.func6 (by kernel_rfl) (by kernel_rfl) tysOk (fns_ok (l := []) trivial) (shs_ok (l := [(55, sp_s_l09Draw (s_l09Draw K)), (56, sp_s_l01From (s_l01From K))]) ⟨ok_s_l09Draw K, ⟨ok_s_l01From K, trivial⟩⟩) (by kernel_rfl) rfl (Nat.le_of_ble_eq_true (by kernel_rfl)) (by kernel_rfl) (Nat.le_of_ble_eq_true (by kernel_rfl)) (by kernel_rfl) (fun C hP O => lpOk_of (en := en_s_DrawSolutionsOf K K) (S := hasK su_s_DrawSolutionsOf) (fun i => hasK_lk (sg_s_DrawSolutionsOf K K) i) _ (by rw [show partsOf (hasK su_s_DrawSolutionsOf) (bodyOf Tryz.f6) = [] from by kernel_rfl]; exact trivial)) (fun x y h => by rw [← e_s_DrawSolutionsOf]; exact h)
noncomputable def as_s_EasyClasses : Ty := (.pair (.st (.pair (.int .i64) (.pair (.sl (.st (.pair (.st (.pair (.int .i64) (.pair (.int .i64) .unit))) (.pair (.sl (.int .i64)) .unit)))) .unit))) .unit)
noncomputable def sp_s_EasyClasses (F : ((Int × (List ((Int × Int × Unit) × (List Int) × Unit)) × Unit) × Unit) → Option ((List Int) × Int × Unit)) : FnSpec := ⟨as_s_EasyClasses, [false], (.tup (.pair (.sl (.int .i64)) (.pair (.int .i64) .unit))), F⟩
noncomputable def s_EasyClasses_l9 {R : Type} (K : Nat) : Nat → (Int × (List ((Int × Int × Unit) × (List Int) × Unit)) × Unit) → (List Int) → (List Int) → Int → (List Int) → Int → ((Int × (List ((Int × Int × Unit) × (List Int) × Unit)) × Unit) → (List Int) → (List Int) → Int → Option R) → Option R
  | 0, _, _, _, _, _, _, _ => none
  | k + 1, v1, v4, v5, v6, v7, v8, kx2 =>
    (if (decide (v8 < (6 : Int))) = true then
    (if (bnds v8 (v4.length : Int)) = true then
    (if (bnds v8 (v7.length : Int)) = true then
    let x6 := (IntKind.i64.wrap ((v4.getD v8.toNat (0 : Int)) * (v7.getD v8.toNat (0 : Int))))
    (if (bnds v8 (v4.length : Int)) = true then
    let l7 := (v4.set v8.toNat x6)
    s_EasyClasses_l9 K k v1 l7 v5 v6 v7 (IntKind.i64.wrap (v8 + (1 : Int))) kx2
    else
    none)
    else
    none)
    else
    none)
    else
    kx2 v1 v4 v5 v6)
noncomputable def s_EasyClasses_l5 {R : Type} (K : Nat) : Nat → (Int × (List ((Int × Int × Unit) × (List Int) × Unit)) × Unit) → (List Int) → (List Int) → Int → ((List Int) → (List Int) → Option R) → Option R
  | 0, _, _, _, _, _ => none
  | k + 1, v1, v4, v5, v6, kx0 =>
    (if (decide (v6 < (v1.2.1.length : Int))) = true then
    (if (bnds v6 (v1.2.1.length : Int)) = true then
    let x4 := (v1.2.1.getD v6.toNat (((0 : Int), (0 : Int), ()), ([] : List Int), ()))
    (s_l09Row K (x4.1, ())).bind fun y5 =>
    s_EasyClasses_l9 K k v1 v4 v5 v6 y5 (0 : Int) (fun z8 z9 z10 z11 =>
    s_EasyClasses_l5 K k z8 z9 z10 (IntKind.i64.wrap (z11 + (1 : Int))) kx0)
    else
    none)
    else
    kx0 v4 v5)
noncomputable def s_EasyClasses_l13 {R : Type} (K : Nat) : Nat → (List Int) → (List Int) → Int → ((List Int) → Option R) → Option R
  | 0, _, _, _, _ => none
  | k + 1, v4, v5, v9, kx4 =>
    (if (decide (v9 < (6 : Int))) = true then
    (if (bnds v9 (v4.length : Int)) = true then
    (if (decide ((v4.getD v9.toNat (0 : Int)) = (1 : Int))) = true then
    (if (decide (v5.length + ([v9]).length ≤ lim)) = true then
    let l14 := (v5 ++ [v9])
    s_EasyClasses_l13 K k v4 l14 (IntKind.i64.wrap (v9 + (1 : Int))) kx4
    else
    none)
    else
    s_EasyClasses_l13 K k v4 v5 (IntKind.i64.wrap (v9 + (1 : Int))) kx4)
    else
    none)
    else
    kx4 v5)
noncomputable def s_EasyClasses (K : Nat) (x : ((Int × (List ((Int × Int × Unit) × (List Int) × Unit)) × Unit) × Unit)) : Option ((List Int) × Int × Unit) :=
    (s_l09Is K (x.1, ())).bind fun y1 =>
    (if (!y1) = true then
    some (([] : List Int), (1 : Int), ())
    else
    let l2 := [(1 : Int), (1 : Int), (1 : Int), (1 : Int), (1 : Int), (1 : Int)]
    let l3 := ([] : List Int)
    s_EasyClasses_l5 K K x.1 l2 l3 (0 : Int) (fun z12 z13 =>
    s_EasyClasses_l13 K K z12 z13 (0 : Int) (fun z15 =>
    some (z15, (0 : Int), ()))))
noncomputable def lv_s_EasyClasses_L5 : Lv := [(1, (.bx (.v (.st (.pair (.int .i64) (.pair (.sl (.st (.pair (.st (.pair (.int .i64) (.pair (.int .i64) .unit))) (.pair (.sl (.int .i64)) .unit)))) .unit)))))), (4, (.r (.int .i64))), (5, (.r (.int .i64))), (6, (.v (.int .i64)))]
noncomputable def lv_s_EasyClasses_L9 : Lv := [(1, (.bx (.v (.st (.pair (.int .i64) (.pair (.sl (.st (.pair (.st (.pair (.int .i64) (.pair (.int .i64) .unit))) (.pair (.sl (.int .i64)) .unit)))) .unit)))))), (4, (.r (.int .i64))), (5, (.r (.int .i64))), (6, (.v (.int .i64))), (7, (.r (.int .i64))), (8, (.v (.int .i64)))]
noncomputable def lv_s_EasyClasses_L13 : Lv := [(4, (.r (.int .i64))), (5, (.r (.int .i64))), (9, (.v (.int .i64)))]
noncomputable def lv_s_EasyClasses_X0 : Lv := [(4, (.r (.int .i64))), (5, (.r (.int .i64)))]
noncomputable def lv_s_EasyClasses_X2 : Lv := [(1, (.bx (.v (.st (.pair (.int .i64) (.pair (.sl (.st (.pair (.st (.pair (.int .i64) (.pair (.int .i64) .unit))) (.pair (.sl (.int .i64)) .unit)))) .unit)))))), (4, (.r (.int .i64))), (5, (.r (.int .i64))), (6, (.v (.int .i64)))]
noncomputable def lv_s_EasyClasses_X4 : Lv := [(5, (.r (.int .i64)))]
noncomputable def rv_s_EasyClasses : Lv := [(2, (.r (.int .i64))), (3, (.v (.int .i64)))]
noncomputable def gs_EasyClasses_l9 {R : Type} (K : Nat) (k : Nat) (x : den lv_s_EasyClasses_L9.ty) (kx : Nat → St → Option R) (kr : St → Option R) : Option R := s_EasyClasses_l9 K k x.1 x.2.1 x.2.2.1 x.2.2.2.1 x.2.2.2.2.1 x.2.2.2.2.2.1 (fun z0 z1 z2 z3 => kx 2 (mkSt lv_s_EasyClasses_X2 (z0, z1, z2, z3, ())))
noncomputable def gs_EasyClasses_l5 {R : Type} (K : Nat) (k : Nat) (x : den lv_s_EasyClasses_L5.ty) (kx : Nat → St → Option R) (kr : St → Option R) : Option R := s_EasyClasses_l5 K k x.1 x.2.1 x.2.2.1 x.2.2.2.1 (fun z0 z1 => kx 0 (mkSt lv_s_EasyClasses_X0 (z0, z1, ())))
noncomputable def gs_EasyClasses_l13 {R : Type} (K : Nat) (k : Nat) (x : den lv_s_EasyClasses_L13.ty) (kx : Nat → St → Option R) (kr : St → Option R) : Option R := s_EasyClasses_l13 K k x.1 x.2.1 x.2.2.1 (fun z0 => kx 4 (mkSt lv_s_EasyClasses_X4 (z0, ())))
noncomputable def sg_s_EasyClasses {R : Type} (K : Nat) (k : Nat) : List (Nat × SegS R) := []
noncomputable def su_s_EasyClasses : List (Nat × Unit) := []
noncomputable def en_s_EasyClasses {R : Type} (K : Nat) (k : Nat) : Env R := { L := lk [(9, mkLoop lv_s_EasyClasses_L9 (gs_EasyClasses_l9 K k)), (5, mkLoop lv_s_EasyClasses_L5 (gs_EasyClasses_l5 K k)), (13, mkLoop lv_s_EasyClasses_L13 (gs_EasyClasses_l13 K k))], X := lk [(0, lv_s_EasyClasses_X0), (2, lv_s_EasyClasses_X2), (4, lv_s_EasyClasses_X4)], S := lk (sg_s_EasyClasses K k), rv := rv_s_EasyClasses }
noncomputable def cf_s_EasyClasses (K : Nat) : Cfg := { ty := lk tys, fn := lk [(58, sp_s_l09Is (s_l09Is K)), (77, sp_s_l09Row (s_l09Row K))], fs := lk [], prot := 0, nt := Tryz.f20.ntmps }
noncomputable def c_s_EasyClasses_L5 : Code := nthC (partsOf (hasK su_s_EasyClasses) (bodyOf Tryz.f20)) 0
noncomputable def c_s_EasyClasses_L9 : Code := nthC (partsOf (hasK su_s_EasyClasses) c_s_EasyClasses_L5) 0
noncomputable def c_s_EasyClasses_L13 : Code := nthC (partsOf (hasK su_s_EasyClasses) (bodyOf Tryz.f20)) 1
theorem es_EasyClasses_l9 {R : Type} (K : Nat) (k : Nat) (x : den lv_s_EasyClasses_L9.ty) (kx : Nat → St → Option R) (kr : St → Option R) : gs_EasyClasses_l9 K (k + 1) x kx kr = evC (cf_s_EasyClasses K) (en_s_EasyClasses K k) c_s_EasyClasses_L9 (mkSt lv_s_EasyClasses_L9 x) (fun s => mkLoop lv_s_EasyClasses_L9 (gs_EasyClasses_l9 K k) s kx kr) kx kr := by kernel_rfl
theorem ss_EasyClasses_l9 {R : Type} (K : Nat) (C : Cx) (hP : C.P = Tryz.prog) (O : CfgOk C (cf_s_EasyClasses K)) (k : Nat) : LpS C (R := R) (mkLoop lv_s_EasyClasses_L9 (gs_EasyClasses_l9 K k)) c_s_EasyClasses_L9 :=
  loop_sound O (by rw [hP]; kernel_rfl) (fun x kx kr => rfl) (es_EasyClasses_l9 K) (fun k => lpOk_of (en := en_s_EasyClasses K k) (S := hasK su_s_EasyClasses) (fun i => hasK_lk (sg_s_EasyClasses K k) i) _ (by rw [show partsOf (hasK su_s_EasyClasses) c_s_EasyClasses_L9 = [] from by kernel_rfl]; exact trivial)) k
theorem es_EasyClasses_l5 {R : Type} (K : Nat) (k : Nat) (x : den lv_s_EasyClasses_L5.ty) (kx : Nat → St → Option R) (kr : St → Option R) : gs_EasyClasses_l5 K (k + 1) x kx kr = evC (cf_s_EasyClasses K) (en_s_EasyClasses K k) c_s_EasyClasses_L5 (mkSt lv_s_EasyClasses_L5 x) (fun s => mkLoop lv_s_EasyClasses_L5 (gs_EasyClasses_l5 K k) s kx kr) kx kr := by kernel_rfl
theorem ss_EasyClasses_l5 {R : Type} (K : Nat) (C : Cx) (hP : C.P = Tryz.prog) (O : CfgOk C (cf_s_EasyClasses K)) (k : Nat) : LpS C (R := R) (mkLoop lv_s_EasyClasses_L5 (gs_EasyClasses_l5 K k)) c_s_EasyClasses_L5 :=
  loop_sound O (by rw [hP]; kernel_rfl) (fun x kx kr => rfl) (es_EasyClasses_l5 K) (fun k => lpOk_of (en := en_s_EasyClasses K k) (S := hasK su_s_EasyClasses) (fun i => hasK_lk (sg_s_EasyClasses K k) i) _ (by rw [show partsOf (hasK su_s_EasyClasses) c_s_EasyClasses_L5 = [(true, c_s_EasyClasses_L9)] from by kernel_rfl]; exact (lpL_loop (f := mkLoop lv_s_EasyClasses_L9 (gs_EasyClasses_l9 K k)) (by kernel_rfl) (ss_EasyClasses_l9 K C hP O k) trivial))) k
theorem es_EasyClasses_l13 {R : Type} (K : Nat) (k : Nat) (x : den lv_s_EasyClasses_L13.ty) (kx : Nat → St → Option R) (kr : St → Option R) : gs_EasyClasses_l13 K (k + 1) x kx kr = evC (cf_s_EasyClasses K) (en_s_EasyClasses K k) c_s_EasyClasses_L13 (mkSt lv_s_EasyClasses_L13 x) (fun s => mkLoop lv_s_EasyClasses_L13 (gs_EasyClasses_l13 K k) s kx kr) kx kr := by kernel_rfl
theorem ss_EasyClasses_l13 {R : Type} (K : Nat) (C : Cx) (hP : C.P = Tryz.prog) (O : CfgOk C (cf_s_EasyClasses K)) (k : Nat) : LpS C (R := R) (mkLoop lv_s_EasyClasses_L13 (gs_EasyClasses_l13 K k)) c_s_EasyClasses_L13 :=
  loop_sound O (by rw [hP]; kernel_rfl) (fun x kx kr => rfl) (es_EasyClasses_l13 K) (fun k => lpOk_of (en := en_s_EasyClasses K k) (S := hasK su_s_EasyClasses) (fun i => hasK_lk (sg_s_EasyClasses K k) i) _ (by rw [show partsOf (hasK su_s_EasyClasses) c_s_EasyClasses_L13 = [] from by kernel_rfl]; exact trivial)) k
theorem e_s_EasyClasses (K : Nat) (x : den as_s_EasyClasses) : s_EasyClasses K x = evFn (cf_s_EasyClasses K) as_s_EasyClasses [false] (.tup (.pair (.sl (.int .i64)) (.pair (.int .i64) .unit))) (en_s_EasyClasses K K) Tryz.f20.results.toList (bodyOf Tryz.f20) x := by kernel_rfl
theorem ok_s_EasyClasses (K : Nat) : FnOk Tryz.prog 20 (sp_s_EasyClasses (s_EasyClasses K)) :=
  fn_ok (cf := cf_s_EasyClasses K) (en := en_s_EasyClasses K K) (c := bodyOf Tryz.f20) Tryz.func20 (by kernel_rfl) (by kernel_rfl) tysOk (fns_ok (l := [(58, sp_s_l09Is (s_l09Is K)), (77, sp_s_l09Row (s_l09Row K))]) ⟨ok_s_l09Is K, ⟨ok_s_l09Row K, trivial⟩⟩) (shs_ok (l := []) trivial) (by kernel_rfl) rfl (Nat.le_of_ble_eq_true (by kernel_rfl)) (by kernel_rfl) (of_decide_eq_true (by kernel_rfl)) (by decide) (fun C hP O => lpOk_of (en := en_s_EasyClasses K K) (S := hasK su_s_EasyClasses) (fun i => hasK_lk (sg_s_EasyClasses K K) i) _ (by rw [show partsOf (hasK su_s_EasyClasses) (bodyOf Tryz.f20) = [(true, c_s_EasyClasses_L5), (true, c_s_EasyClasses_L13)] from by kernel_rfl]; exact (lpL_loop (f := mkLoop lv_s_EasyClasses_L5 (gs_EasyClasses_l5 K K)) (by kernel_rfl) (ss_EasyClasses_l5 K C hP O K) (lpL_loop (f := mkLoop lv_s_EasyClasses_L13 (gs_EasyClasses_l13 K K)) (by kernel_rfl) (ss_EasyClasses_l13 K C hP O K) trivial)))) (fun x y h => by rw [← e_s_EasyClasses]; exact h)
noncomputable def as_s_EasyRow : Ty := (.pair (.st (.pair (.int .i64) (.pair (.int .i64) .unit))) .unit)
noncomputable def sp_s_EasyRow (F : ((Int × Int × Unit) × Unit) → Option ((List Int) × Int × Unit)) : FnSpec := ⟨as_s_EasyRow, [false], (.tup (.pair (.sl (.int .i64)) (.pair (.int .i64) .unit))), F⟩
noncomputable def s_EasyRow (K : Nat) (x : ((Int × Int × Unit) × Unit)) : Option ((List Int) × Int × Unit) :=
    (s_l06Is K (x.1, ())).bind fun y1 =>
    (if (!y1) = true then
    some (([] : List Int), (1 : Int), ())
    else
    (s_l09Row K (x.1, ())).bind fun y2 =>
    some (y2, (0 : Int), ()))
noncomputable def rv_s_EasyRow : Lv := [(2, (.r (.int .i64))), (3, (.v (.int .i64)))]
noncomputable def sg_s_EasyRow {R : Type} (K : Nat) (k : Nat) : List (Nat × SegS R) := []
noncomputable def su_s_EasyRow : List (Nat × Unit) := []
noncomputable def en_s_EasyRow {R : Type} (K : Nat) (k : Nat) : Env R := { L := lk [], X := lk [], S := lk (sg_s_EasyRow K k), rv := rv_s_EasyRow }
noncomputable def cf_s_EasyRow (K : Nat) : Cfg := { ty := lk tys, fn := lk [(77, sp_s_l09Row (s_l09Row K)), (81, sp_s_l06Is (s_l06Is K))], fs := lk [], prot := 0, nt := Tryz.f23.ntmps }
theorem e_s_EasyRow (K : Nat) (x : den as_s_EasyRow) : s_EasyRow K x = evFn (cf_s_EasyRow K) as_s_EasyRow [false] (.tup (.pair (.sl (.int .i64)) (.pair (.int .i64) .unit))) (en_s_EasyRow K K) Tryz.f23.results.toList (bodyOf Tryz.f23) x := by kernel_rfl
theorem ok_s_EasyRow (K : Nat) : FnOk Tryz.prog 23 (sp_s_EasyRow (s_EasyRow K)) :=
  fn_ok (cf := cf_s_EasyRow K) (en := en_s_EasyRow K K) (c := bodyOf Tryz.f23) Tryz.func23 (by kernel_rfl) (by kernel_rfl) tysOk (fns_ok (l := [(77, sp_s_l09Row (s_l09Row K)), (81, sp_s_l06Is (s_l06Is K))]) ⟨ok_s_l09Row K, ⟨ok_s_l06Is K, trivial⟩⟩) (shs_ok (l := []) trivial) (by kernel_rfl) rfl (Nat.le_of_ble_eq_true (by kernel_rfl)) (by kernel_rfl) (of_decide_eq_true (by kernel_rfl)) (by decide) (fun C hP O => lpOk_of (en := en_s_EasyRow K K) (S := hasK su_s_EasyRow) (fun i => hasK_lk (sg_s_EasyRow K K) i) _ (by rw [show partsOf (hasK su_s_EasyRow) (bodyOf Tryz.f23) = [] from by kernel_rfl]; exact trivial)) (fun x y h => by rw [← e_s_EasyRow]; exact h)
noncomputable def as_s_l09Flip : Ty := (.pair (.st (.pair (.int .i64) (.pair (.int .i64) .unit))) .unit)
noncomputable def sp_s_l09Flip (F : ((Int × Int × Unit) × Unit) → Option (Int × Int × Unit)) : FnSpec := ⟨as_s_l09Flip, [false], (.st (.pair (.int .i64) (.pair (.int .i64) .unit))), F⟩
noncomputable def s_l09Flip_l3 {R : Type} (K : Nat) : Nat → (Int × Int × Unit) → (Int × Int × Unit) → (Int × Int × Unit) → Int → Int → ((Int × Int × Unit) → (Int × Int × Unit) → Option R) → Option R
  | 0, _, _, _, _, _, _ => none
  | k + 1, v1, v2, v3, v4, v5, kx0 =>
    (if (decide (v5 < v4)) = true then
    (s_l09Has K (v1, v5, ())).bind fun y2 =>
    (if y2 = true then
    let x3 := (IntKind.i64.wrap ((IntKind.i64.wrap (v4 - (1 : Int))) - v5))
    (if (decide ((0 : Int) ≤ (IntKind.u64.wrap x3))) = true then
    let x4 := (IntKind.i64.wrap (v3.2.1 + (shlI .i64 (1 : Int) (IntKind.u64.wrap x3))))
    s_l09Flip_l3 K k v1 v2 (v3.1, x4, ()) v4 (IntKind.i64.wrap (v5 + (1 : Int))) kx0
    else
    none)
    else
    s_l09Flip_l3 K k v1 v2 v3 v4 (IntKind.i64.wrap (v5 + (1 : Int))) kx0)
    else
    kx0 v2 v3)
noncomputable def s_l09Flip (K : Nat) (x : ((Int × Int × Unit) × Unit)) : Option (Int × Int × Unit) :=
    (s_l01Rows K (x.1.1, ())).bind fun y1 =>
    s_l09Flip_l3 K K x.1 ((0 : Int), (0 : Int), ()) (x.1.1, ((0 : Int), (0 : Int), ()).2.1, ()) y1 (0 : Int) (fun z5 z6 =>
    some z6)
noncomputable def lv_s_l09Flip_L3 : Lv := [(1, (.bx (.v (.st (.pair (.int .i64) (.pair (.int .i64) .unit)))))), (2, (.bx (.v (.st (.pair (.int .i64) (.pair (.int .i64) .unit)))))), (3, (.bx (.v (.st (.pair (.int .i64) (.pair (.int .i64) .unit)))))), (4, (.v (.int .i64))), (5, (.v (.int .i64)))]
noncomputable def lv_s_l09Flip_X0 : Lv := [(2, (.bx (.v (.st (.pair (.int .i64) (.pair (.int .i64) .unit)))))), (3, (.bx (.v (.st (.pair (.int .i64) (.pair (.int .i64) .unit))))))]
noncomputable def rv_s_l09Flip : Lv := [(2, (.bx (.v (.st (.pair (.int .i64) (.pair (.int .i64) .unit))))))]
noncomputable def gs_l09Flip_l3 {R : Type} (K : Nat) (k : Nat) (x : den lv_s_l09Flip_L3.ty) (kx : Nat → St → Option R) (kr : St → Option R) : Option R := s_l09Flip_l3 K k x.1 x.2.1 x.2.2.1 x.2.2.2.1 x.2.2.2.2.1 (fun z0 z1 => kx 0 (mkSt lv_s_l09Flip_X0 (z0, z1, ())))
noncomputable def sg_s_l09Flip {R : Type} (K : Nat) (k : Nat) : List (Nat × SegS R) := []
noncomputable def su_s_l09Flip : List (Nat × Unit) := []
noncomputable def en_s_l09Flip {R : Type} (K : Nat) (k : Nat) : Env R := { L := lk [(3, mkLoop lv_s_l09Flip_L3 (gs_l09Flip_l3 K k))], X := lk [(0, lv_s_l09Flip_X0)], S := lk (sg_s_l09Flip K k), rv := rv_s_l09Flip }
noncomputable def cf_s_l09Flip (K : Nat) : Cfg := { ty := lk tys, fn := lk [(120, sp_s_l01Rows (s_l01Rows K)), (134, sp_s_l09Has (s_l09Has K))], fs := lk [], prot := 0, nt := Tryz.f76.ntmps }
noncomputable def c_s_l09Flip_L3 : Code := nthC (partsOf (hasK su_s_l09Flip) (bodyOf Tryz.f76)) 0
theorem es_l09Flip_l3 {R : Type} (K : Nat) (k : Nat) (x : den lv_s_l09Flip_L3.ty) (kx : Nat → St → Option R) (kr : St → Option R) : gs_l09Flip_l3 K (k + 1) x kx kr = evC (cf_s_l09Flip K) (en_s_l09Flip K k) c_s_l09Flip_L3 (mkSt lv_s_l09Flip_L3 x) (fun s => mkLoop lv_s_l09Flip_L3 (gs_l09Flip_l3 K k) s kx kr) kx kr := by kernel_rfl
theorem ss_l09Flip_l3 {R : Type} (K : Nat) (C : Cx) (hP : C.P = Tryz.prog) (O : CfgOk C (cf_s_l09Flip K)) (k : Nat) : LpS C (R := R) (mkLoop lv_s_l09Flip_L3 (gs_l09Flip_l3 K k)) c_s_l09Flip_L3 :=
  loop_sound O (by rw [hP]; kernel_rfl) (fun x kx kr => rfl) (es_l09Flip_l3 K) (fun k => lpOk_of (en := en_s_l09Flip K k) (S := hasK su_s_l09Flip) (fun i => hasK_lk (sg_s_l09Flip K k) i) _ (by rw [show partsOf (hasK su_s_l09Flip) c_s_l09Flip_L3 = [] from by kernel_rfl]; exact trivial)) k
theorem e_s_l09Flip (K : Nat) (x : den as_s_l09Flip) : s_l09Flip K x = evFn (cf_s_l09Flip K) as_s_l09Flip [false] (.st (.pair (.int .i64) (.pair (.int .i64) .unit))) (en_s_l09Flip K K) Tryz.f76.results.toList (bodyOf Tryz.f76) x := by kernel_rfl
theorem ok_s_l09Flip (K : Nat) : FnOk Tryz.prog 76 (sp_s_l09Flip (s_l09Flip K)) :=
  fn_ok (cf := cf_s_l09Flip K) (en := en_s_l09Flip K K) (c := bodyOf Tryz.f76) Tryz.func76 (by kernel_rfl) (by kernel_rfl) tysOk (fns_ok (l := [(120, sp_s_l01Rows (s_l01Rows K)), (134, sp_s_l09Has (s_l09Has K))]) ⟨ok_s_l01Rows K, ⟨ok_s_l09Has K, trivial⟩⟩) (shs_ok (l := []) trivial) (by kernel_rfl) rfl (Nat.le_of_ble_eq_true (by kernel_rfl)) (by kernel_rfl) (of_decide_eq_true (by kernel_rfl)) (by decide) (fun C hP O => lpOk_of (en := en_s_l09Flip K K) (S := hasK su_s_l09Flip) (fun i => hasK_lk (sg_s_l09Flip K K) i) _ (by rw [show partsOf (hasK su_s_l09Flip) (bodyOf Tryz.f76) = [(true, c_s_l09Flip_L3)] from by kernel_rfl]; exact (lpL_loop (f := mkLoop lv_s_l09Flip_L3 (gs_l09Flip_l3 K K)) (by kernel_rfl) (ss_l09Flip_l3 K C hP O K) trivial))) (fun x y h => by rw [← e_s_l09Flip]; exact h)
noncomputable def as_s_FlipInstance : Ty := (.pair (.st (.pair (.int .i64) (.pair (.sl (.st (.pair (.st (.pair (.int .i64) (.pair (.int .i64) .unit))) (.pair (.sl (.int .i64)) .unit)))) .unit))) .unit)
noncomputable def sp_s_FlipInstance (F : ((Int × (List ((Int × Int × Unit) × (List Int) × Unit)) × Unit) × Unit) → Option ((Int × (List ((Int × Int × Unit) × (List Int) × Unit)) × Unit) × Int × Unit)) : FnSpec := ⟨as_s_FlipInstance, [false], (.tup (.pair (.st (.pair (.int .i64) (.pair (.sl (.st (.pair (.st (.pair (.int .i64) (.pair (.int .i64) .unit))) (.pair (.sl (.int .i64)) .unit)))) .unit))) (.pair (.int .i64) .unit))), F⟩
noncomputable def s_FlipInstance_l5 {R : Type} (K : Nat) : Nat → Int → (List ((Int × Int × Unit) × (List Int) × Unit)) → Int → (List ((Int × Int × Unit) × (List Int) × Unit)) → Int → (Int → (List ((Int × Int × Unit) × (List Int) × Unit)) → Int → (List ((Int × Int × Unit) × (List Int) × Unit)) → Option R) → Option R
  | 0, _, _, _, _, _, _ => none
  | k + 1, v2_0, v2_1, v4_0, v4_1, v5, kx0 =>
    (if (decide (v5 < (v4_1.length : Int))) = true then
    (if (bnds v5 (v4_1.length : Int)) = true then
    let x3 := (v4_1.getD v5.toNat (((0 : Int), (0 : Int), ()), ([] : List Int), ())).1
    (s_l09Flip K (x3, ())).bind fun y4 =>
    (if (bnds v5 (v4_1.length : Int)) = true then
    let l5 := (v4_1.set v5.toNat (y4, (v4_1.getD v5.toNat (((0 : Int), (0 : Int), ()), ([] : List Int), ())).2.1, ()))
    s_FlipInstance_l5 K k v2_0 v2_1 v4_0 l5 (IntKind.i64.wrap (v5 + (1 : Int))) kx0
    else
    none)
    else
    none)
    else
    kx0 v2_0 v2_1 v4_0 v4_1)
noncomputable def s_FlipInstance (K : Nat) (x : ((Int × (List ((Int × Int × Unit) × (List Int) × Unit)) × Unit) × Unit)) : Option ((Int × (List ((Int × Int × Unit) × (List Int) × Unit)) × Unit) × Int × Unit) :=
    (s_l09Is K (x.1, ())).bind fun y1 =>
    (if (!y1) = true then
    some (((0 : Int), ([] : List ((Int × Int × Unit) × (List Int) × Unit)), ()), (1 : Int), ())
    else
    (s_l09Copy K (x.1, ())).bind fun y2 =>
    s_FlipInstance_l5 K K (0 : Int) ([] : List ((Int × Int × Unit) × (List Int) × Unit)) x.1.1 y2 (0 : Int) (fun z6 z7 z8 z9 =>
    some ((z8, z9, ()), (0 : Int), ())))
noncomputable def lv_s_FlipInstance_L5 : Lv := [(2, (.bx (.st (.pair (.v (.int .i64)) (.pair (.r (.st (.pair (.st (.pair (.int .i64) (.pair (.int .i64) .unit))) (.pair (.sl (.int .i64)) .unit)))) .unit))))), (4, (.bx (.st (.pair (.v (.int .i64)) (.pair (.r (.st (.pair (.st (.pair (.int .i64) (.pair (.int .i64) .unit))) (.pair (.sl (.int .i64)) .unit)))) .unit))))), (5, (.v (.int .i64)))]
noncomputable def lv_s_FlipInstance_X0 : Lv := [(2, (.bx (.st (.pair (.v (.int .i64)) (.pair (.r (.st (.pair (.st (.pair (.int .i64) (.pair (.int .i64) .unit))) (.pair (.sl (.int .i64)) .unit)))) .unit))))), (4, (.bx (.st (.pair (.v (.int .i64)) (.pair (.r (.st (.pair (.st (.pair (.int .i64) (.pair (.int .i64) .unit))) (.pair (.sl (.int .i64)) .unit)))) .unit)))))]
noncomputable def rv_s_FlipInstance : Lv := [(2, (.bx (.st (.pair (.v (.int .i64)) (.pair (.r (.st (.pair (.st (.pair (.int .i64) (.pair (.int .i64) .unit))) (.pair (.sl (.int .i64)) .unit)))) .unit))))), (3, (.v (.int .i64)))]
noncomputable def gs_FlipInstance_l5 {R : Type} (K : Nat) (k : Nat) (x : den lv_s_FlipInstance_L5.ty) (kx : Nat → St → Option R) (kr : St → Option R) : Option R := s_FlipInstance_l5 K k x.1.1 x.1.2.1 x.2.1.1 x.2.1.2.1 x.2.2.1 (fun z0 z1 z2 z3 => kx 0 (mkSt lv_s_FlipInstance_X0 ((z0, z1, ()), (z2, z3, ()), ())))
noncomputable def sg_s_FlipInstance {R : Type} (K : Nat) (k : Nat) : List (Nat × SegS R) := []
noncomputable def su_s_FlipInstance : List (Nat × Unit) := []
noncomputable def en_s_FlipInstance {R : Type} (K : Nat) (k : Nat) : Env R := { L := lk [(5, mkLoop lv_s_FlipInstance_L5 (gs_FlipInstance_l5 K k))], X := lk [(0, lv_s_FlipInstance_X0)], S := lk (sg_s_FlipInstance K k), rv := rv_s_FlipInstance }
noncomputable def cf_s_FlipInstance (K : Nat) : Cfg := { ty := lk tys, fn := lk [(58, sp_s_l09Is (s_l09Is K)), (75, sp_s_l09Copy (s_l09Copy K)), (76, sp_s_l09Flip (s_l09Flip K))], fs := lk [], prot := 0, nt := Tryz.f18.ntmps }
noncomputable def c_s_FlipInstance_L5 : Code := nthC (partsOf (hasK su_s_FlipInstance) (bodyOf Tryz.f18)) 0
theorem es_FlipInstance_l5 {R : Type} (K : Nat) (k : Nat) (x : den lv_s_FlipInstance_L5.ty) (kx : Nat → St → Option R) (kr : St → Option R) : gs_FlipInstance_l5 K (k + 1) x kx kr = evC (cf_s_FlipInstance K) (en_s_FlipInstance K k) c_s_FlipInstance_L5 (mkSt lv_s_FlipInstance_L5 x) (fun s => mkLoop lv_s_FlipInstance_L5 (gs_FlipInstance_l5 K k) s kx kr) kx kr := by kernel_rfl
theorem ss_FlipInstance_l5 {R : Type} (K : Nat) (C : Cx) (hP : C.P = Tryz.prog) (O : CfgOk C (cf_s_FlipInstance K)) (k : Nat) : LpS C (R := R) (mkLoop lv_s_FlipInstance_L5 (gs_FlipInstance_l5 K k)) c_s_FlipInstance_L5 :=
  loop_sound O (by rw [hP]; kernel_rfl) (fun x kx kr => rfl) (es_FlipInstance_l5 K) (fun k => lpOk_of (en := en_s_FlipInstance K k) (S := hasK su_s_FlipInstance) (fun i => hasK_lk (sg_s_FlipInstance K k) i) _ (by rw [show partsOf (hasK su_s_FlipInstance) c_s_FlipInstance_L5 = [] from by kernel_rfl]; exact trivial)) k
theorem e_s_FlipInstance (K : Nat) (x : den as_s_FlipInstance) : s_FlipInstance K x = evFn (cf_s_FlipInstance K) as_s_FlipInstance [false] (.tup (.pair (.st (.pair (.int .i64) (.pair (.sl (.st (.pair (.st (.pair (.int .i64) (.pair (.int .i64) .unit))) (.pair (.sl (.int .i64)) .unit)))) .unit))) (.pair (.int .i64) .unit))) (en_s_FlipInstance K K) Tryz.f18.results.toList (bodyOf Tryz.f18) x := by kernel_rfl
theorem ok_s_FlipInstance (K : Nat) : FnOk Tryz.prog 18 (sp_s_FlipInstance (s_FlipInstance K)) :=
  fn_ok (cf := cf_s_FlipInstance K) (en := en_s_FlipInstance K K) (c := bodyOf Tryz.f18) Tryz.func18 (by kernel_rfl) (by kernel_rfl) tysOk (fns_ok (l := [(58, sp_s_l09Is (s_l09Is K)), (75, sp_s_l09Copy (s_l09Copy K)), (76, sp_s_l09Flip (s_l09Flip K))]) ⟨ok_s_l09Is K, ⟨ok_s_l09Copy K, ⟨ok_s_l09Flip K, trivial⟩⟩⟩) (shs_ok (l := []) trivial) (by kernel_rfl) rfl (Nat.le_of_ble_eq_true (by kernel_rfl)) (by kernel_rfl) (of_decide_eq_true (by kernel_rfl)) (by decide) (fun C hP O => lpOk_of (en := en_s_FlipInstance K K) (S := hasK su_s_FlipInstance) (fun i => hasK_lk (sg_s_FlipInstance K K) i) _ (by rw [show partsOf (hasK su_s_FlipInstance) (bodyOf Tryz.f18) = [(true, c_s_FlipInstance_L5)] from by kernel_rfl]; exact (lpL_loop (f := mkLoop lv_s_FlipInstance_L5 (gs_FlipInstance_l5 K K)) (by kernel_rfl) (ss_FlipInstance_l5 K C hP O K) trivial))) (fun x y h => by rw [← e_s_FlipInstance]; exact h)
noncomputable def as_s_IsInstance : Ty := (.pair (.st (.pair (.int .i64) (.pair (.sl (.st (.pair (.st (.pair (.int .i64) (.pair (.int .i64) .unit))) (.pair (.sl (.int .i64)) .unit)))) .unit))) .unit)
noncomputable def sp_s_IsInstance (F : ((Int × (List ((Int × Int × Unit) × (List Int) × Unit)) × Unit) × Unit) → Option Bool) : FnSpec := ⟨as_s_IsInstance, [false], .bool, F⟩
noncomputable def s_IsInstance (K : Nat) (x : ((Int × (List ((Int × Int × Unit) × (List Int) × Unit)) × Unit) × Unit)) : Option Bool :=
    (s_l09Is K (x.1, ())).bind fun y1 =>
    some y1
noncomputable def rv_s_IsInstance : Lv := [(2, (.v .bool))]
noncomputable def sg_s_IsInstance {R : Type} (K : Nat) (k : Nat) : List (Nat × SegS R) := []
noncomputable def su_s_IsInstance : List (Nat × Unit) := []
noncomputable def en_s_IsInstance {R : Type} (K : Nat) (k : Nat) : Env R := { L := lk [], X := lk [], S := lk (sg_s_IsInstance K k), rv := rv_s_IsInstance }
noncomputable def cf_s_IsInstance (K : Nat) : Cfg := { ty := lk tys, fn := lk [(58, sp_s_l09Is (s_l09Is K))], fs := lk [], prot := 0, nt := Tryz.f11.ntmps }
theorem e_s_IsInstance (K : Nat) (x : den as_s_IsInstance) : s_IsInstance K x = evFn (cf_s_IsInstance K) as_s_IsInstance [false] .bool (en_s_IsInstance K K) Tryz.f11.results.toList (bodyOf Tryz.f11) x := by kernel_rfl
theorem ok_s_IsInstance (K : Nat) : FnOk Tryz.prog 11 (sp_s_IsInstance (s_IsInstance K)) :=
  fn_ok (cf := cf_s_IsInstance K) (en := en_s_IsInstance K K) (c := bodyOf Tryz.f11) Tryz.func11 (by kernel_rfl) (by kernel_rfl) tysOk (fns_ok (l := [(58, sp_s_l09Is (s_l09Is K))]) ⟨ok_s_l09Is K, trivial⟩) (shs_ok (l := []) trivial) (by kernel_rfl) rfl (Nat.le_of_ble_eq_true (by kernel_rfl)) (by kernel_rfl) (of_decide_eq_true (by kernel_rfl)) (by decide) (fun C hP O => lpOk_of (en := en_s_IsInstance K K) (S := hasK su_s_IsInstance) (fun i => hasK_lk (sg_s_IsInstance K K) i) _ (by rw [show partsOf (hasK su_s_IsInstance) (bodyOf Tryz.f11) = [] from by kernel_rfl]; exact trivial)) (fun x y h => by rw [← e_s_IsInstance]; exact h)
noncomputable def as_s_l09Given : Ty := (.pair (.st (.pair (.int .i64) (.pair (.sl (.st (.pair (.st (.pair (.int .i64) (.pair (.int .i64) .unit))) (.pair (.sl (.int .i64)) .unit)))) .unit))) .unit)
noncomputable def sp_s_l09Given (F : ((Int × (List ((Int × Int × Unit) × (List Int) × Unit)) × Unit) × Unit) → Option ((List Int) × Int × Unit)) : FnSpec := ⟨as_s_l09Given, [false], (.tup (.pair (.sl (.int .i64)) (.pair (.int .i64) .unit))), F⟩
noncomputable def s_l09Given (K : Nat) (x : ((Int × (List ((Int × Int × Unit) × (List Int) × Unit)) × Unit) × Unit)) : Option ((List Int) × Int × Unit) :=
    (s_l09Is K (x.1, ())).bind fun y1 =>
    (if (!y1) = true then
    some (([] : List Int), (1 : Int), ())
    else
    (s_l09Solutions K (x.1, ())).bind fun y2 =>
    (if (decide ((y2.length : Int) = (0 : Int))) = true then
    some (([] : List Int), (4 : Int), ())
    else
    some (y2, (0 : Int), ())))
noncomputable def rv_s_l09Given : Lv := [(2, (.r (.int .i64))), (3, (.v (.int .i64)))]
noncomputable def sg_s_l09Given {R : Type} (K : Nat) (k : Nat) : List (Nat × SegS R) := []
noncomputable def su_s_l09Given : List (Nat × Unit) := []
noncomputable def en_s_l09Given {R : Type} (K : Nat) (k : Nat) : Env R := { L := lk [], X := lk [], S := lk (sg_s_l09Given K k), rv := rv_s_l09Given }
noncomputable def cf_s_l09Given (K : Nat) : Cfg := { ty := lk tys, fn := lk [(58, sp_s_l09Is (s_l09Is K)), (59, sp_s_l09Solutions (s_l09Solutions K))], fs := lk [], prot := 0, nt := Tryz.f82.ntmps }
theorem e_s_l09Given (K : Nat) (x : den as_s_l09Given) : s_l09Given K x = evFn (cf_s_l09Given K) as_s_l09Given [false] (.tup (.pair (.sl (.int .i64)) (.pair (.int .i64) .unit))) (en_s_l09Given K K) Tryz.f82.results.toList (bodyOf Tryz.f82) x := by kernel_rfl
theorem ok_s_l09Given (K : Nat) : FnOk Tryz.prog 82 (sp_s_l09Given (s_l09Given K)) :=
  fn_ok (cf := cf_s_l09Given K) (en := en_s_l09Given K K) (c := bodyOf Tryz.f82) Tryz.func82 (by kernel_rfl) (by kernel_rfl) tysOk (fns_ok (l := [(58, sp_s_l09Is (s_l09Is K)), (59, sp_s_l09Solutions (s_l09Solutions K))]) ⟨ok_s_l09Is K, ⟨ok_s_l09Solutions K, trivial⟩⟩) (shs_ok (l := []) trivial) (by kernel_rfl) rfl (Nat.le_of_ble_eq_true (by kernel_rfl)) (by kernel_rfl) (of_decide_eq_true (by kernel_rfl)) (by decide) (fun C hP O => lpOk_of (en := en_s_l09Given K K) (S := hasK su_s_l09Given) (fun i => hasK_lk (sg_s_l09Given K K) i) _ (by rw [show partsOf (hasK su_s_l09Given) (bodyOf Tryz.f82) = [] from by kernel_rfl]; exact trivial)) (fun x y h => by rw [← e_s_l09Given]; exact h)
noncomputable def as_s_l03Size : Ty := (.pair (.int .i64) .unit)
noncomputable def sp_s_l03Size (F : (Int × Unit) → Option Int) : FnSpec := ⟨as_s_l03Size, [false], (.int .i64), F⟩
noncomputable def s_l03Size_l2 {R : Type} (K : Nat) : Nat → Int → Int → (Int → Option R) → Option R
  | 0, _, _, _ => none
  | k + 1, v0, v3, kx0 =>
    (if (decide (v0 > (0 : Int))) = true then
    s_l03Size_l2 K k (IntKind.i64.wrap (Int.tdiv v0 (2 : Int))) (IntKind.i64.wrap (v3 + (Int.tmod v0 (2 : Int)))) kx0
    else
    kx0 v3)
noncomputable def s_l03Size (K : Nat) (x : (Int × Unit)) : Option Int :=
    s_l03Size_l2 K K x.1 (0 : Int) (fun z1 =>
    some z1)
noncomputable def lv_s_l03Size_L2 : Lv := [(0, (.v (.int .i64))), (3, (.v (.int .i64)))]
noncomputable def lv_s_l03Size_X0 : Lv := [(3, (.v (.int .i64)))]
noncomputable def rv_s_l03Size : Lv := [(2, (.v (.int .i64)))]
noncomputable def gs_l03Size_l2 {R : Type} (K : Nat) (k : Nat) (x : den lv_s_l03Size_L2.ty) (kx : Nat → St → Option R) (kr : St → Option R) : Option R := s_l03Size_l2 K k x.1 x.2.1 (fun z0 => kx 0 (mkSt lv_s_l03Size_X0 (z0, ())))
noncomputable def sg_s_l03Size {R : Type} (K : Nat) (k : Nat) : List (Nat × SegS R) := []
noncomputable def su_s_l03Size : List (Nat × Unit) := []
noncomputable def en_s_l03Size {R : Type} (K : Nat) (k : Nat) : Env R := { L := lk [(2, mkLoop lv_s_l03Size_L2 (gs_l03Size_l2 K k))], X := lk [(0, lv_s_l03Size_X0)], S := lk (sg_s_l03Size K k), rv := rv_s_l03Size }
noncomputable def cf_s_l03Size (K : Nat) : Cfg := { ty := lk tys, fn := lk [], fs := lk [], prot := 0, nt := Tryz.f83.ntmps }
noncomputable def c_s_l03Size_L2 : Code := nthC (partsOf (hasK su_s_l03Size) (bodyOf Tryz.f83)) 0
theorem es_l03Size_l2 {R : Type} (K : Nat) (k : Nat) (x : den lv_s_l03Size_L2.ty) (kx : Nat → St → Option R) (kr : St → Option R) : gs_l03Size_l2 K (k + 1) x kx kr = evC (cf_s_l03Size K) (en_s_l03Size K k) c_s_l03Size_L2 (mkSt lv_s_l03Size_L2 x) (fun s => mkLoop lv_s_l03Size_L2 (gs_l03Size_l2 K k) s kx kr) kx kr := by kernel_rfl
theorem ss_l03Size_l2 {R : Type} (K : Nat) (C : Cx) (hP : C.P = Tryz.prog) (O : CfgOk C (cf_s_l03Size K)) (k : Nat) : LpS C (R := R) (mkLoop lv_s_l03Size_L2 (gs_l03Size_l2 K k)) c_s_l03Size_L2 :=
  loop_sound O (by rw [hP]; kernel_rfl) (fun x kx kr => rfl) (es_l03Size_l2 K) (fun k => lpOk_of (en := en_s_l03Size K k) (S := hasK su_s_l03Size) (fun i => hasK_lk (sg_s_l03Size K k) i) _ (by rw [show partsOf (hasK su_s_l03Size) c_s_l03Size_L2 = [] from by kernel_rfl]; exact trivial)) k
theorem e_s_l03Size (K : Nat) (x : den as_s_l03Size) : s_l03Size K x = evFn (cf_s_l03Size K) as_s_l03Size [false] (.int .i64) (en_s_l03Size K K) Tryz.f83.results.toList (bodyOf Tryz.f83) x := by kernel_rfl
theorem ok_s_l03Size (K : Nat) : FnOk Tryz.prog 83 (sp_s_l03Size (s_l03Size K)) :=
  fn_ok (cf := cf_s_l03Size K) (en := en_s_l03Size K K) (c := bodyOf Tryz.f83) Tryz.func83 (by kernel_rfl) (by kernel_rfl) tysOk (fns_ok (l := []) trivial) (shs_ok (l := []) trivial) (by kernel_rfl) rfl (Nat.le_of_ble_eq_true (by kernel_rfl)) (by kernel_rfl) (of_decide_eq_true (by kernel_rfl)) (by decide) (fun C hP O => lpOk_of (en := en_s_l03Size K K) (S := hasK su_s_l03Size) (fun i => hasK_lk (sg_s_l03Size K K) i) _ (by rw [show partsOf (hasK su_s_l03Size) (bodyOf Tryz.f83) = [(true, c_s_l03Size_L2)] from by kernel_rfl]; exact (lpL_loop (f := mkLoop lv_s_l03Size_L2 (gs_l03Size_l2 K K)) (by kernel_rfl) (ss_l03Size_l2 K C hP O K) trivial))) (fun x y h => by rw [← e_s_l03Size]; exact h)
noncomputable def as_s_LeastSolution : Ty := (.pair (.st (.pair (.int .i64) (.pair (.sl (.st (.pair (.st (.pair (.int .i64) (.pair (.int .i64) .unit))) (.pair (.sl (.int .i64)) .unit)))) .unit))) .unit)
noncomputable def sp_s_LeastSolution (F : ((Int × (List ((Int × Int × Unit) × (List Int) × Unit)) × Unit) × Unit) → Option (Int × Int × Unit)) : FnSpec := ⟨as_s_LeastSolution, [false], (.tup (.pair (.int .i64) (.pair (.int .i64) .unit))), F⟩
noncomputable def s_LeastSolution_l6 {R : Type} (K : Nat) : Nat → (List Int) → Int → Int → (Int → Option R) → Option R
  | 0, _, _, _, _ => none
  | k + 1, v4, v6, v7, kx0 =>
    (if (decide (v7 < (v4.length : Int))) = true then
    (if (bnds v7 (v4.length : Int)) = true then
    (s_l03Size K ((v4.getD v7.toNat (0 : Int)), ())).bind fun y2 =>
    (s_l03Size K (v6, ())).bind fun y3 =>
    (if (decide (y2 < y3)) = true then
    (if (bnds v7 (v4.length : Int)) = true then
    s_LeastSolution_l6 K k v4 (v4.getD v7.toNat (0 : Int)) (IntKind.i64.wrap (v7 + (1 : Int))) kx0
    else
    none)
    else
    s_LeastSolution_l6 K k v4 v6 (IntKind.i64.wrap (v7 + (1 : Int))) kx0)
    else
    none)
    else
    kx0 v6)
noncomputable def s_LeastSolution (K : Nat) (x : ((Int × (List ((Int × Int × Unit) × (List Int) × Unit)) × Unit) × Unit)) : Option (Int × Int × Unit) :=
    (s_l09Given K (x.1, ())).bind fun y1 =>
    (if (!decide (y1.2.1 = (0 : Int))) = true then
    some ((0 : Int), y1.2.1, ())
    else
    (if (bnds (0 : Int) (y1.1.length : Int)) = true then
    s_LeastSolution_l6 K K y1.1 (y1.1.getD (0 : Int).toNat (0 : Int)) (1 : Int) (fun z4 =>
    some (z4, (0 : Int), ()))
    else
    none))
noncomputable def lv_s_LeastSolution_L6 : Lv := [(4, (.r (.int .i64))), (6, (.v (.int .i64))), (7, (.v (.int .i64)))]
noncomputable def lv_s_LeastSolution_X0 : Lv := [(6, (.v (.int .i64)))]
noncomputable def rv_s_LeastSolution : Lv := [(2, (.v (.int .i64))), (3, (.v (.int .i64)))]
noncomputable def gs_LeastSolution_l6 {R : Type} (K : Nat) (k : Nat) (x : den lv_s_LeastSolution_L6.ty) (kx : Nat → St → Option R) (kr : St → Option R) : Option R := s_LeastSolution_l6 K k x.1 x.2.1 x.2.2.1 (fun z0 => kx 0 (mkSt lv_s_LeastSolution_X0 (z0, ())))
noncomputable def sg_s_LeastSolution {R : Type} (K : Nat) (k : Nat) : List (Nat × SegS R) := []
noncomputable def su_s_LeastSolution : List (Nat × Unit) := []
noncomputable def en_s_LeastSolution {R : Type} (K : Nat) (k : Nat) : Env R := { L := lk [(6, mkLoop lv_s_LeastSolution_L6 (gs_LeastSolution_l6 K k))], X := lk [(0, lv_s_LeastSolution_X0)], S := lk (sg_s_LeastSolution K k), rv := rv_s_LeastSolution }
noncomputable def cf_s_LeastSolution (K : Nat) : Cfg := { ty := lk tys, fn := lk [(82, sp_s_l09Given (s_l09Given K)), (83, sp_s_l03Size (s_l03Size K))], fs := lk [], prot := 0, nt := Tryz.f25.ntmps }
noncomputable def c_s_LeastSolution_L6 : Code := nthC (partsOf (hasK su_s_LeastSolution) (bodyOf Tryz.f25)) 0
theorem es_LeastSolution_l6 {R : Type} (K : Nat) (k : Nat) (x : den lv_s_LeastSolution_L6.ty) (kx : Nat → St → Option R) (kr : St → Option R) : gs_LeastSolution_l6 K (k + 1) x kx kr = evC (cf_s_LeastSolution K) (en_s_LeastSolution K k) c_s_LeastSolution_L6 (mkSt lv_s_LeastSolution_L6 x) (fun s => mkLoop lv_s_LeastSolution_L6 (gs_LeastSolution_l6 K k) s kx kr) kx kr := by kernel_rfl
theorem ss_LeastSolution_l6 {R : Type} (K : Nat) (C : Cx) (hP : C.P = Tryz.prog) (O : CfgOk C (cf_s_LeastSolution K)) (k : Nat) : LpS C (R := R) (mkLoop lv_s_LeastSolution_L6 (gs_LeastSolution_l6 K k)) c_s_LeastSolution_L6 :=
  loop_sound O (by rw [hP]; kernel_rfl) (fun x kx kr => rfl) (es_LeastSolution_l6 K) (fun k => lpOk_of (en := en_s_LeastSolution K k) (S := hasK su_s_LeastSolution) (fun i => hasK_lk (sg_s_LeastSolution K k) i) _ (by rw [show partsOf (hasK su_s_LeastSolution) c_s_LeastSolution_L6 = [] from by kernel_rfl]; exact trivial)) k
theorem e_s_LeastSolution (K : Nat) (x : den as_s_LeastSolution) : s_LeastSolution K x = evFn (cf_s_LeastSolution K) as_s_LeastSolution [false] (.tup (.pair (.int .i64) (.pair (.int .i64) .unit))) (en_s_LeastSolution K K) Tryz.f25.results.toList (bodyOf Tryz.f25) x := by kernel_rfl
theorem ok_s_LeastSolution (K : Nat) : FnOk Tryz.prog 25 (sp_s_LeastSolution (s_LeastSolution K)) :=
  fn_ok (cf := cf_s_LeastSolution K) (en := en_s_LeastSolution K K) (c := bodyOf Tryz.f25) Tryz.func25 (by kernel_rfl) (by kernel_rfl) tysOk (fns_ok (l := [(82, sp_s_l09Given (s_l09Given K)), (83, sp_s_l03Size (s_l03Size K))]) ⟨ok_s_l09Given K, ⟨ok_s_l03Size K, trivial⟩⟩) (shs_ok (l := []) trivial) (by kernel_rfl) rfl (Nat.le_of_ble_eq_true (by kernel_rfl)) (by kernel_rfl) (of_decide_eq_true (by kernel_rfl)) (by decide) (fun C hP O => lpOk_of (en := en_s_LeastSolution K K) (S := hasK su_s_LeastSolution) (fun i => hasK_lk (sg_s_LeastSolution K K) i) _ (by rw [show partsOf (hasK su_s_LeastSolution) (bodyOf Tryz.f25) = [(true, c_s_LeastSolution_L6)] from by kernel_rfl]; exact (lpL_loop (f := mkLoop lv_s_LeastSolution_L6 (gs_LeastSolution_l6 K K)) (by kernel_rfl) (ss_LeastSolution_l6 K C hP O K) trivial))) (fun x y h => by rw [← e_s_LeastSolution]; exact h)
noncomputable def as_s_MeetOfSolutions : Ty := (.pair (.st (.pair (.int .i64) (.pair (.sl (.st (.pair (.st (.pair (.int .i64) (.pair (.int .i64) .unit))) (.pair (.sl (.int .i64)) .unit)))) .unit))) .unit)
noncomputable def sp_s_MeetOfSolutions (F : ((Int × (List ((Int × Int × Unit) × (List Int) × Unit)) × Unit) × Unit) → Option (Int × Int × Unit)) : FnSpec := ⟨as_s_MeetOfSolutions, [false], (.tup (.pair (.int .i64) (.pair (.int .i64) .unit))), F⟩
noncomputable def s_MeetOfSolutions_l6 {R : Type} (K : Nat) : Nat → (List Int) → Int → Int → (Int → Option R) → Option R
  | 0, _, _, _, _ => none
  | k + 1, v4, v6, v7, kx0 =>
    (if (decide (v7 < (v4.length : Int))) = true then
    (if (bnds v7 (v4.length : Int)) = true then
    s_MeetOfSolutions_l6 K k v4 (bitI .and .i64 v6 (v4.getD v7.toNat (0 : Int))) (IntKind.i64.wrap (v7 + (1 : Int))) kx0
    else
    none)
    else
    kx0 v6)
noncomputable def s_MeetOfSolutions (K : Nat) (x : ((Int × (List ((Int × Int × Unit) × (List Int) × Unit)) × Unit) × Unit)) : Option (Int × Int × Unit) :=
    (s_l09Given K (x.1, ())).bind fun y1 =>
    (if (!decide (y1.2.1 = (0 : Int))) = true then
    some ((0 : Int), y1.2.1, ())
    else
    (if (bnds (0 : Int) (y1.1.length : Int)) = true then
    s_MeetOfSolutions_l6 K K y1.1 (y1.1.getD (0 : Int).toNat (0 : Int)) (1 : Int) (fun z2 =>
    some (z2, (0 : Int), ()))
    else
    none))
noncomputable def lv_s_MeetOfSolutions_L6 : Lv := [(4, (.r (.int .i64))), (6, (.v (.int .i64))), (7, (.v (.int .i64)))]
noncomputable def lv_s_MeetOfSolutions_X0 : Lv := [(6, (.v (.int .i64)))]
noncomputable def rv_s_MeetOfSolutions : Lv := [(2, (.v (.int .i64))), (3, (.v (.int .i64)))]
noncomputable def gs_MeetOfSolutions_l6 {R : Type} (K : Nat) (k : Nat) (x : den lv_s_MeetOfSolutions_L6.ty) (kx : Nat → St → Option R) (kr : St → Option R) : Option R := s_MeetOfSolutions_l6 K k x.1 x.2.1 x.2.2.1 (fun z0 => kx 0 (mkSt lv_s_MeetOfSolutions_X0 (z0, ())))
noncomputable def sg_s_MeetOfSolutions {R : Type} (K : Nat) (k : Nat) : List (Nat × SegS R) := []
noncomputable def su_s_MeetOfSolutions : List (Nat × Unit) := []
noncomputable def en_s_MeetOfSolutions {R : Type} (K : Nat) (k : Nat) : Env R := { L := lk [(6, mkLoop lv_s_MeetOfSolutions_L6 (gs_MeetOfSolutions_l6 K k))], X := lk [(0, lv_s_MeetOfSolutions_X0)], S := lk (sg_s_MeetOfSolutions K k), rv := rv_s_MeetOfSolutions }
noncomputable def cf_s_MeetOfSolutions (K : Nat) : Cfg := { ty := lk tys, fn := lk [(82, sp_s_l09Given (s_l09Given K))], fs := lk [], prot := 0, nt := Tryz.f27.ntmps }
noncomputable def c_s_MeetOfSolutions_L6 : Code := nthC (partsOf (hasK su_s_MeetOfSolutions) (bodyOf Tryz.f27)) 0
theorem es_MeetOfSolutions_l6 {R : Type} (K : Nat) (k : Nat) (x : den lv_s_MeetOfSolutions_L6.ty) (kx : Nat → St → Option R) (kr : St → Option R) : gs_MeetOfSolutions_l6 K (k + 1) x kx kr = evC (cf_s_MeetOfSolutions K) (en_s_MeetOfSolutions K k) c_s_MeetOfSolutions_L6 (mkSt lv_s_MeetOfSolutions_L6 x) (fun s => mkLoop lv_s_MeetOfSolutions_L6 (gs_MeetOfSolutions_l6 K k) s kx kr) kx kr := by kernel_rfl
theorem ss_MeetOfSolutions_l6 {R : Type} (K : Nat) (C : Cx) (hP : C.P = Tryz.prog) (O : CfgOk C (cf_s_MeetOfSolutions K)) (k : Nat) : LpS C (R := R) (mkLoop lv_s_MeetOfSolutions_L6 (gs_MeetOfSolutions_l6 K k)) c_s_MeetOfSolutions_L6 :=
  loop_sound O (by rw [hP]; kernel_rfl) (fun x kx kr => rfl) (es_MeetOfSolutions_l6 K) (fun k => lpOk_of (en := en_s_MeetOfSolutions K k) (S := hasK su_s_MeetOfSolutions) (fun i => hasK_lk (sg_s_MeetOfSolutions K k) i) _ (by rw [show partsOf (hasK su_s_MeetOfSolutions) c_s_MeetOfSolutions_L6 = [] from by kernel_rfl]; exact trivial)) k
theorem e_s_MeetOfSolutions (K : Nat) (x : den as_s_MeetOfSolutions) : s_MeetOfSolutions K x = evFn (cf_s_MeetOfSolutions K) as_s_MeetOfSolutions [false] (.tup (.pair (.int .i64) (.pair (.int .i64) .unit))) (en_s_MeetOfSolutions K K) Tryz.f27.results.toList (bodyOf Tryz.f27) x := by kernel_rfl
theorem ok_s_MeetOfSolutions (K : Nat) : FnOk Tryz.prog 27 (sp_s_MeetOfSolutions (s_MeetOfSolutions K)) :=
  fn_ok (cf := cf_s_MeetOfSolutions K) (en := en_s_MeetOfSolutions K K) (c := bodyOf Tryz.f27) Tryz.func27 (by kernel_rfl) (by kernel_rfl) tysOk (fns_ok (l := [(82, sp_s_l09Given (s_l09Given K))]) ⟨ok_s_l09Given K, trivial⟩) (shs_ok (l := []) trivial) (by kernel_rfl) rfl (Nat.le_of_ble_eq_true (by kernel_rfl)) (by kernel_rfl) (of_decide_eq_true (by kernel_rfl)) (by decide) (fun C hP O => lpOk_of (en := en_s_MeetOfSolutions K K) (S := hasK su_s_MeetOfSolutions) (fun i => hasK_lk (sg_s_MeetOfSolutions K K) i) _ (by rw [show partsOf (hasK su_s_MeetOfSolutions) (bodyOf Tryz.f27) = [(true, c_s_MeetOfSolutions_L6)] from by kernel_rfl]; exact (lpL_loop (f := mkLoop lv_s_MeetOfSolutions_L6 (gs_MeetOfSolutions_l6 K K)) (by kernel_rfl) (ss_MeetOfSolutions_l6 K C hP O K) trivial))) (fun x y h => by rw [← e_s_MeetOfSolutions]; exact h)
noncomputable def as_s_SolutionsOf : Ty := (.pair (.st (.pair (.int .i64) (.pair (.sl (.st (.pair (.st (.pair (.int .i64) (.pair (.int .i64) .unit))) (.pair (.sl (.int .i64)) .unit)))) .unit))) .unit)
noncomputable def sp_s_SolutionsOf (F : ((Int × (List ((Int × Int × Unit) × (List Int) × Unit)) × Unit) × Unit) → Option ((List Int) × Int × Unit)) : FnSpec := ⟨as_s_SolutionsOf, [false], (.tup (.pair (.sl (.int .i64)) (.pair (.int .i64) .unit))), F⟩
noncomputable def s_SolutionsOf (K : Nat) (x : ((Int × (List ((Int × Int × Unit) × (List Int) × Unit)) × Unit) × Unit)) : Option ((List Int) × Int × Unit) :=
    (s_l09Is K (x.1, ())).bind fun y1 =>
    (if (!y1) = true then
    some (([] : List Int), (1 : Int), ())
    else
    (s_l09Solutions K (x.1, ())).bind fun y2 =>
    some (y2, (0 : Int), ()))
noncomputable def rv_s_SolutionsOf : Lv := [(2, (.r (.int .i64))), (3, (.v (.int .i64)))]
noncomputable def sg_s_SolutionsOf {R : Type} (K : Nat) (k : Nat) : List (Nat × SegS R) := []
noncomputable def su_s_SolutionsOf : List (Nat × Unit) := []
noncomputable def en_s_SolutionsOf {R : Type} (K : Nat) (k : Nat) : Env R := { L := lk [], X := lk [], S := lk (sg_s_SolutionsOf K k), rv := rv_s_SolutionsOf }
noncomputable def cf_s_SolutionsOf (K : Nat) : Cfg := { ty := lk tys, fn := lk [(58, sp_s_l09Is (s_l09Is K)), (59, sp_s_l09Solutions (s_l09Solutions K))], fs := lk [], prot := 0, nt := Tryz.f8.ntmps }
theorem e_s_SolutionsOf (K : Nat) (x : den as_s_SolutionsOf) : s_SolutionsOf K x = evFn (cf_s_SolutionsOf K) as_s_SolutionsOf [false] (.tup (.pair (.sl (.int .i64)) (.pair (.int .i64) .unit))) (en_s_SolutionsOf K K) Tryz.f8.results.toList (bodyOf Tryz.f8) x := by kernel_rfl
theorem ok_s_SolutionsOf (K : Nat) : FnOk Tryz.prog 8 (sp_s_SolutionsOf (s_SolutionsOf K)) :=
  fn_ok (cf := cf_s_SolutionsOf K) (en := en_s_SolutionsOf K K) (c := bodyOf Tryz.f8) Tryz.func8 (by kernel_rfl) (by kernel_rfl) tysOk (fns_ok (l := [(58, sp_s_l09Is (s_l09Is K)), (59, sp_s_l09Solutions (s_l09Solutions K))]) ⟨ok_s_l09Is K, ⟨ok_s_l09Solutions K, trivial⟩⟩) (shs_ok (l := []) trivial) (by kernel_rfl) rfl (Nat.le_of_ble_eq_true (by kernel_rfl)) (by kernel_rfl) (of_decide_eq_true (by kernel_rfl)) (by decide) (fun C hP O => lpOk_of (en := en_s_SolutionsOf K K) (S := hasK su_s_SolutionsOf) (fun i => hasK_lk (sg_s_SolutionsOf K K) i) _ (by rw [show partsOf (hasK su_s_SolutionsOf) (bodyOf Tryz.f8) = [] from by kernel_rfl]; exact trivial)) (fun x y h => by rw [← e_s_SolutionsOf]; exact h)
noncomputable def as_w_big : Ty := (.pair (.sl (.int .u8)) .unit)
noncomputable def sp_w_big (F : ((List Int) × Unit) → Option Bool) : FnSpec := ⟨as_w_big, [false], .bool, F⟩
noncomputable def w_big (K : Nat) (x : ((List Int) × Unit)) : Option Bool :=
    some (decide ((x.1.length : Int) > (4096 : Int)))
noncomputable def rv_w_big : Lv := [(2, (.v .bool))]
noncomputable def sg_w_big {R : Type} (K : Nat) (k : Nat) : List (Nat × SegS R) := []
noncomputable def su_w_big : List (Nat × Unit) := []
noncomputable def en_w_big {R : Type} (K : Nat) (k : Nat) : Env R := { L := lk [], X := lk [], S := lk (sg_w_big K k), rv := rv_w_big }
noncomputable def cf_w_big (K : Nat) : Cfg := { ty := lk tys, fn := lk [], fs := lk [], prot := 0, nt := Tryz.f5.ntmps }
theorem e_w_big (K : Nat) (x : den as_w_big) : w_big K x = evFn (cf_w_big K) as_w_big [false] .bool (en_w_big K K) Tryz.f5.results.toList (bodyOf Tryz.f5) x := by kernel_rfl
theorem ok_w_big (K : Nat) : FnOk Tryz.prog 5 (sp_w_big (w_big K)) :=
  fn_ok (cf := cf_w_big K) (en := en_w_big K K) (c := bodyOf Tryz.f5) Tryz.func5 (by kernel_rfl) (by kernel_rfl) tysOk (fns_ok (l := []) trivial) (shs_ok (l := []) trivial) (by kernel_rfl) rfl (Nat.le_of_ble_eq_true (by kernel_rfl)) (by kernel_rfl) (of_decide_eq_true (by kernel_rfl)) (by decide) (fun C hP O => lpOk_of (en := en_w_big K K) (S := hasK su_w_big) (fun i => hasK_lk (sg_w_big K K) i) _ (by rw [show partsOf (hasK su_w_big) (bodyOf Tryz.f5) = [] from by kernel_rfl]; exact trivial)) (fun x y h => by rw [← e_w_big]; exact h)
noncomputable def as_w_likeInts : Ty := (.pair (.sl (.int .i64)) (.pair (.sl (.int .i64)) .unit))
noncomputable def sp_w_likeInts (F : ((List Int) × (List Int) × Unit) → Option Bool) : FnSpec := ⟨as_w_likeInts, [false, false], .bool, F⟩
noncomputable def w_likeInts_l4 {R : Type} (K : Nat) : Nat → (List Int) → (List Int) → Int → (Option R) → (Bool → Option R) → Option R
  | 0, _, _, _, _, _ => none
  | k + 1, v0, v1, v5, kx0, kr =>
    (if (decide (v5 < (v0.length : Int))) = true then
    (if (bnds v5 (v0.length : Int)) = true then
    (if (bnds v5 (v1.length : Int)) = true then
    let x1 := (!decide ((v0.getD v5.toNat (0 : Int)) = (v1.getD v5.toNat (0 : Int))))
    (if x1 = true then
    kr false
    else
    w_likeInts_l4 K k v0 v1 (IntKind.i64.wrap (v5 + (1 : Int))) kx0 kr)
    else
    none)
    else
    none)
    else
    kx0)
noncomputable def w_likeInts (K : Nat) (x : ((List Int) × (List Int) × Unit)) : Option Bool :=
    (if (!decide ((x.1.length : Int) = (x.2.1.length : Int))) = true then
    some false
    else
    w_likeInts_l4 K K x.1 x.2.1 (0 : Int) (some true) (fun z2 =>
    some z2))
noncomputable def lv_w_likeInts_L4 : Lv := [(0, (.v (.sl (.int .i64)))), (1, (.v (.sl (.int .i64)))), (5, (.v (.int .i64)))]
noncomputable def lv_w_likeInts_X0 : Lv := []
noncomputable def rv_w_likeInts : Lv := [(4, (.v .bool))]
noncomputable def gw_likeInts_l4 {R : Type} (K : Nat) (k : Nat) (x : den lv_w_likeInts_L4.ty) (kx : Nat → St → Option R) (kr : St → Option R) : Option R := w_likeInts_l4 K k x.1 x.2.1 x.2.2.1 (kx 0 (mkSt lv_w_likeInts_X0 ())) (fun z0 => kr (mkSt rv_w_likeInts (z0, ())))
noncomputable def sg_w_likeInts {R : Type} (K : Nat) (k : Nat) : List (Nat × SegS R) := []
noncomputable def su_w_likeInts : List (Nat × Unit) := []
noncomputable def en_w_likeInts {R : Type} (K : Nat) (k : Nat) : Env R := { L := lk [(4, mkLoop lv_w_likeInts_L4 (gw_likeInts_l4 K k))], X := lk [(0, lv_w_likeInts_X0)], S := lk (sg_w_likeInts K k), rv := rv_w_likeInts }
noncomputable def cf_w_likeInts (K : Nat) : Cfg := { ty := lk tys, fn := lk [], fs := lk [], prot := 0, nt := Tryz.f9.ntmps }
noncomputable def c_w_likeInts_L4 : Code := nthC (partsOf (hasK su_w_likeInts) (bodyOf Tryz.f9)) 0
theorem ew_likeInts_l4 {R : Type} (K : Nat) (k : Nat) (x : den lv_w_likeInts_L4.ty) (kx : Nat → St → Option R) (kr : St → Option R) : gw_likeInts_l4 K (k + 1) x kx kr = evC (cf_w_likeInts K) (en_w_likeInts K k) c_w_likeInts_L4 (mkSt lv_w_likeInts_L4 x) (fun s => mkLoop lv_w_likeInts_L4 (gw_likeInts_l4 K k) s kx kr) kx kr := by kernel_rfl
theorem sw_likeInts_l4 {R : Type} (K : Nat) (C : Cx) (hP : C.P = Tryz.prog) (O : CfgOk C (cf_w_likeInts K)) (k : Nat) : LpS C (R := R) (mkLoop lv_w_likeInts_L4 (gw_likeInts_l4 K k)) c_w_likeInts_L4 :=
  loop_sound O (by rw [hP]; kernel_rfl) (fun x kx kr => rfl) (ew_likeInts_l4 K) (fun k => lpOk_of (en := en_w_likeInts K k) (S := hasK su_w_likeInts) (fun i => hasK_lk (sg_w_likeInts K k) i) _ (by rw [show partsOf (hasK su_w_likeInts) c_w_likeInts_L4 = [] from by kernel_rfl]; exact trivial)) k
theorem e_w_likeInts (K : Nat) (x : den as_w_likeInts) : w_likeInts K x = evFn (cf_w_likeInts K) as_w_likeInts [false, false] .bool (en_w_likeInts K K) Tryz.f9.results.toList (bodyOf Tryz.f9) x := by kernel_rfl
theorem ok_w_likeInts (K : Nat) : FnOk Tryz.prog 9 (sp_w_likeInts (w_likeInts K)) :=
  fn_ok (cf := cf_w_likeInts K) (en := en_w_likeInts K K) (c := bodyOf Tryz.f9) Tryz.func9 (by kernel_rfl) (by kernel_rfl) tysOk (fns_ok (l := []) trivial) (shs_ok (l := []) trivial) (by kernel_rfl) rfl (Nat.le_of_ble_eq_true (by kernel_rfl)) (by kernel_rfl) (of_decide_eq_true (by kernel_rfl)) (by decide) (fun C hP O => lpOk_of (en := en_w_likeInts K K) (S := hasK su_w_likeInts) (fun i => hasK_lk (sg_w_likeInts K K) i) _ (by rw [show partsOf (hasK su_w_likeInts) (bodyOf Tryz.f9) = [(true, c_w_likeInts_L4)] from by kernel_rfl]; exact (lpL_loop (f := mkLoop lv_w_likeInts_L4 (gw_likeInts_l4 K K)) (by kernel_rfl) (sw_likeInts_l4 K C hP O K) trivial))) (fun x y h => by rw [← e_w_likeInts]; exact h)
noncomputable def as_w_instances5 : Ty := (.pair (.st (.pair (.int .i64) (.pair (.sl (.st (.pair (.st (.pair (.int .i64) (.pair (.int .i64) .unit))) (.pair (.sl (.int .i64)) .unit)))) .unit))) (.pair (.st (.pair (.int .i64) (.pair (.sl (.st (.pair (.st (.pair (.int .i64) (.pair (.int .i64) .unit))) (.pair (.sl (.int .i64)) .unit)))) .unit))) .unit))
noncomputable def sp_w_instances5 (F : ((Int × (List ((Int × Int × Unit) × (List Int) × Unit)) × Unit) × (Int × (List ((Int × Int × Unit) × (List Int) × Unit)) × Unit) × Unit) → Option Bool) : FnSpec := ⟨as_w_instances5, [false, false], .bool, F⟩
noncomputable def w_instances5_l4 {R : Type} (K : Nat) : Nat → (Int × (List ((Int × Int × Unit) × (List Int) × Unit)) × Unit) → (Int × (List ((Int × Int × Unit) × (List Int) × Unit)) × Unit) → Int → (Option R) → (Bool → Option R) → Option R
  | 0, _, _, _, _, _ => none
  | k + 1, v2, v3, v5, kx0, kr =>
    (if (decide (v5 < (v2.2.1.length : Int))) = true then
    (if (bnds v5 (v2.2.1.length : Int)) = true then
    let x2 := (v2.2.1.getD v5.toNat (((0 : Int), (0 : Int), ()), ([] : List Int), ()))
    (if (bnds v5 (v3.2.1.length : Int)) = true then
    let x3 := (v3.2.1.getD v5.toNat (((0 : Int), (0 : Int), ()), ([] : List Int), ()))
    let x4 := (!(eqD (.pair (.int .i64) (.pair (.int .i64) .unit)) x2.1 x3.1))
    (if x4 = true then
    kr false
    else
    (if (bnds v5 (v2.2.1.length : Int)) = true then
    let x5 := (v2.2.1.getD v5.toNat (((0 : Int), (0 : Int), ()), ([] : List Int), ()))
    (if (bnds v5 (v3.2.1.length : Int)) = true then
    let x6 := (v3.2.1.getD v5.toNat (((0 : Int), (0 : Int), ()), ([] : List Int), ()))
    (w_likeInts K (x5.2.1, x6.2.1, ())).bind fun y7 =>
    (if (!y7) = true then
    kr false
    else
    w_instances5_l4 K k v2 v3 (IntKind.i64.wrap (v5 + (1 : Int))) kx0 kr)
    else
    none)
    else
    none))
    else
    none)
    else
    none)
    else
    kx0)
noncomputable def w_instances5_j3 {R : Type} (K : Nat) (k : Nat) (v2 : (Int × (List ((Int × Int × Unit) × (List Int) × Unit)) × Unit)) (v3 : (Int × (List ((Int × Int × Unit) × (List Int) × Unit)) × Unit)) (kn : Option R) (kr : (Bool → Option R)) : Option R :=
    w_instances5_l4 K k v2 v3 (0 : Int) (kr true) (fun z8 =>
    kr z8)
noncomputable def w_instances5 (K : Nat) (x : ((Int × (List ((Int × Int × Unit) × (List Int) × Unit)) × Unit) × (Int × (List ((Int × Int × Unit) × (List Int) × Unit)) × Unit) × Unit)) : Option Bool :=
    (if (!decide (x.1.1 = x.2.1.1)) = true then
    some false
    else
    let x1 := (!decide ((x.1.2.1.length : Int) = (x.2.1.2.1.length : Int)))
    (if x1 = true then
    some false
    else
    w_instances5_j3 K K x.1 x.2.1 none (fun z9 =>
    some z9)))
noncomputable def lv_w_instances5_J3 : Lv := [(2, (.bx (.v (.st (.pair (.int .i64) (.pair (.sl (.st (.pair (.st (.pair (.int .i64) (.pair (.int .i64) .unit))) (.pair (.sl (.int .i64)) .unit)))) .unit)))))), (3, (.bx (.v (.st (.pair (.int .i64) (.pair (.sl (.st (.pair (.st (.pair (.int .i64) (.pair (.int .i64) .unit))) (.pair (.sl (.int .i64)) .unit)))) .unit))))))]
noncomputable def lv_w_instances5_L4 : Lv := [(2, (.bx (.v (.st (.pair (.int .i64) (.pair (.sl (.st (.pair (.st (.pair (.int .i64) (.pair (.int .i64) .unit))) (.pair (.sl (.int .i64)) .unit)))) .unit)))))), (3, (.bx (.v (.st (.pair (.int .i64) (.pair (.sl (.st (.pair (.st (.pair (.int .i64) (.pair (.int .i64) .unit))) (.pair (.sl (.int .i64)) .unit)))) .unit)))))), (5, (.v (.int .i64)))]
noncomputable def lv_w_instances5_N3 : Lv := []
noncomputable def lv_w_instances5_X0 : Lv := []
noncomputable def rv_w_instances5 : Lv := [(4, (.v .bool))]
noncomputable def gw_instances5_l4 {R : Type} (K : Nat) (k : Nat) (x : den lv_w_instances5_L4.ty) (kx : Nat → St → Option R) (kr : St → Option R) : Option R := w_instances5_l4 K k x.1 x.2.1 x.2.2.1 (kx 0 (mkSt lv_w_instances5_X0 ())) (fun z0 => kr (mkSt rv_w_instances5 (z0, ())))
noncomputable def gw_instances5_j3 {R : Type} (K : Nat) (k : Nat) (x : den lv_w_instances5_J3.ty) (kn : den lv_w_instances5_N3.ty → Option R) (kx : Nat → St → Option R) (kr : St → Option R) : Option R := w_instances5_j3 K k x.1 x.2.1 (kn ()) (fun z0 => kr (mkSt rv_w_instances5 (z0, ())))
noncomputable def sg_w_instances5 {R : Type} (K : Nat) (k : Nat) : List (Nat × SegS R) := [(3, mkSeg lv_w_instances5_J3 lv_w_instances5_N3 (gw_instances5_j3 K k))]
noncomputable def su_w_instances5 : List (Nat × Unit) := [(3, ())]
noncomputable def en_w_instances5 {R : Type} (K : Nat) (k : Nat) : Env R := { L := lk [(4, mkLoop lv_w_instances5_L4 (gw_instances5_l4 K k))], X := lk [(0, lv_w_instances5_X0)], S := lk (sg_w_instances5 K k), rv := rv_w_instances5 }
noncomputable def cf_w_instances5 (K : Nat) : Cfg := { ty := lk tys, fn := lk [(9, sp_w_likeInts (w_likeInts K))], fs := lk [], prot := 0, nt := Tryz.f30.ntmps }
noncomputable def c_w_instances5_J3 : Code := nthC (partsOf (hasK su_w_instances5) (bodyOf Tryz.f30)) 0
noncomputable def c_w_instances5_L4 : Code := nthC (partsOf (hasK su_w_instances5) c_w_instances5_J3) 0
theorem ew_instances5_l4 {R : Type} (K : Nat) (k : Nat) (x : den lv_w_instances5_L4.ty) (kx : Nat → St → Option R) (kr : St → Option R) : gw_instances5_l4 K (k + 1) x kx kr = evC (cf_w_instances5 K) (en_w_instances5 K k) c_w_instances5_L4 (mkSt lv_w_instances5_L4 x) (fun s => mkLoop lv_w_instances5_L4 (gw_instances5_l4 K k) s kx kr) kx kr := by kernel_rfl
theorem sw_instances5_l4 {R : Type} (K : Nat) (C : Cx) (hP : C.P = Tryz.prog) (O : CfgOk C (cf_w_instances5 K)) (k : Nat) : LpS C (R := R) (mkLoop lv_w_instances5_L4 (gw_instances5_l4 K k)) c_w_instances5_L4 :=
  loop_sound O (by rw [hP]; kernel_rfl) (fun x kx kr => rfl) (ew_instances5_l4 K) (fun k => lpOk_of (en := en_w_instances5 K k) (S := hasK su_w_instances5) (fun i => hasK_lk (sg_w_instances5 K k) i) _ (by rw [show partsOf (hasK su_w_instances5) c_w_instances5_L4 = [] from by kernel_rfl]; exact trivial)) k
theorem ew_instances5_j3 {R : Type} (K : Nat) (k : Nat) (x : den lv_w_instances5_J3.ty) (kn : den lv_w_instances5_N3.ty → Option R) (kx : Nat → St → Option R) (kr : St → Option R) : gw_instances5_j3 K k x kn kx kr = evC (cf_w_instances5 K) (en_w_instances5 K k) c_w_instances5_J3 (mkSt lv_w_instances5_J3 x) (cutK lv_w_instances5_N3 kn) kx kr := by kernel_rfl
theorem sw_instances5_j3 {R : Type} (K : Nat) (C : Cx) (hP : C.P = Tryz.prog) (O : CfgOk C (cf_w_instances5 K)) (k : Nat) : SgS C (R := R) (mkSeg lv_w_instances5_J3 lv_w_instances5_N3 (gw_instances5_j3 K k)) c_w_instances5_J3 :=
  seg_sound O (by rw [hP]; kernel_rfl) (ew_instances5_j3 K k) (lpOk_of (en := en_w_instances5 K k) (S := hasK su_w_instances5) (fun i => hasK_lk (sg_w_instances5 K k) i) _ (by rw [show partsOf (hasK su_w_instances5) c_w_instances5_J3 = [(true, c_w_instances5_L4)] from by kernel_rfl]; exact (lpL_loop (f := mkLoop lv_w_instances5_L4 (gw_instances5_l4 K k)) (by kernel_rfl) (sw_instances5_l4 K C hP O k) trivial)))
theorem e_w_instances5 (K : Nat) (x : den as_w_instances5) : w_instances5 K x = evFn (cf_w_instances5 K) as_w_instances5 [false, false] .bool (en_w_instances5 K K) Tryz.f30.results.toList (bodyOf Tryz.f30) x := by kernel_rfl
theorem ok_w_instances5 (K : Nat) : FnOk Tryz.prog 30 (sp_w_instances5 (w_instances5 K)) :=
  fn_ok (cf := cf_w_instances5 K) (en := en_w_instances5 K K) (c := bodyOf Tryz.f30) Tryz.func30 (by kernel_rfl) (by kernel_rfl) tysOk (fns_ok (l := [(9, sp_w_likeInts (w_likeInts K))]) ⟨ok_w_likeInts K, trivial⟩) (shs_ok (l := []) trivial) (by kernel_rfl) rfl (Nat.le_of_ble_eq_true (by kernel_rfl)) (by kernel_rfl) (of_decide_eq_true (by kernel_rfl)) (by decide) (fun C hP O => lpOk_of (en := en_w_instances5 K K) (S := hasK su_w_instances5) (fun i => hasK_lk (sg_w_instances5 K K) i) _ (by rw [show partsOf (hasK su_w_instances5) (bodyOf Tryz.f30) = [(false, c_w_instances5_J3)] from by kernel_rfl]; exact (lpL_seg (f := mkSeg lv_w_instances5_J3 lv_w_instances5_N3 (gw_instances5_j3 K K)) (by kernel_rfl) (sw_instances5_j3 K C hP O K) trivial))) (fun x y h => by rw [← e_w_instances5]; exact h)
noncomputable def as_w_FnInstances : Ty := (.pair (.sl (.int .u8)) .unit)
noncomputable def sp_w_FnInstances (F : ((List Int) × Unit) → Option Bool) : FnSpec := ⟨as_w_FnInstances, [false], .bool, F⟩
noncomputable def w_FnInstances_j26 {R : Type} (K : Nat) (k : Nat) (v0 : (List Int)) (v4 : (List Int)) (v10 : (List Int)) (v14 : (List Int)) (v16 : Int) (v18 : Int) (v20 : Int) (v21 : Int) (v22 : Int) (v23 : Bool) (v24 : Bool) (v25 : Int) (kn : (List Int) → (List Int) → (List Int) → (List Int) → Int → Int → Int → Int → Int → Bool → Bool → Int → Option R) (kr : (Bool → Option R)) : Option R :=
    let x17 := (IntKind.i64.wrap ((IntKind.i64.wrap (v20 - (1 : Int))) - v25))
    (if (bnds x17 (v14.length : Int)) = true then
    (if (bnds v25 (v4.length : Int)) = true then
    let x18 := (!decide ((v14.getD x17.toNat (0 : Int)) = (IntKind.i64.wrap (v21 - (v4.getD v25.toNat (0 : Int))))))
    (if x18 = true then
    kr false
    else
    (if (bnds v25 (v4.length : Int)) = true then
    let x19 := (!decide ((bitI .and .i64 v16 (v4.getD v25.toNat (0 : Int))) = v16))
    (if x19 = true then
    kr false
    else
    kn v0 v4 v10 v14 v16 v18 v20 v21 v22 v23 v24 v25)
    else
    none))
    else
    none)
    else
    none)
noncomputable def w_FnInstances_j25 {R : Type} (K : Nat) (k : Nat) (v0 : (List Int)) (v4 : (List Int)) (v10 : (List Int)) (v14 : (List Int)) (v16 : Int) (v18 : Int) (v20 : Int) (v21 : Int) (v22 : Int) (v23 : Bool) (v24 : Bool) (v25 : Int) (kn : (List Int) → (List Int) → (List Int) → (List Int) → Int → Int → Int → Int → Int → Bool → Bool → Int → Option R) (kr : (Bool → Option R)) : Option R :=
    (if v24 = true then
    w_FnInstances_j26 K k v0 v4 v10 v14 v16 v18 v20 v21 v22 v23 true v25 (fun z20 z21 z22 z23 z24 z25 z26 z27 z28 z29 z30 z31 =>
    kn z20 z21 z22 z23 z24 z25 z26 z27 z28 z29 z30 z31) (fun z32 =>
    kr z32)
    else
    (if (bnds v25 (v4.length : Int)) = true then
    w_FnInstances_j26 K k v0 v4 v10 v14 v16 v18 v20 v21 v22 v23 (decide ((v4.getD v25.toNat (0 : Int)) = v18)) v25 (fun z33 z34 z35 z36 z37 z38 z39 z40 z41 z42 z43 z44 =>
    kn z33 z34 z35 z36 z37 z38 z39 z40 z41 z42 z43 z44) (fun z45 =>
    kr z45)
    else
    none))
noncomputable def w_FnInstances_j22 {R : Type} (K : Nat) (k : Nat) (v0 : (List Int)) (v4 : (List Int)) (v10 : (List Int)) (v14 : (List Int)) (v16 : Int) (v18 : Int) (v20 : Int) (v21 : Int) (v22 : Int) (v23 : Bool) (v24 : Bool) (v25 : Int) (kn : (List Int) → (List Int) → (List Int) → (List Int) → Int → Int → Int → Int → Int → Bool → Bool → Int → Option R)  : Option R :=
    kn v0 v4 v10 v14 v16 v18 v20 v21 v22 v23 v24 (IntKind.i64.wrap (v25 + (1 : Int)))
noncomputable def w_FnInstances_l21 {R : Type} (K : Nat) : Nat → (List Int) → (List Int) → (List Int) → (List Int) → Int → Int → Int → Int → Int → Bool → Bool → Int → ((List Int) → (List Int) → (List Int) → Int → Int → Int → Int → Int → Bool → Bool → Option R) → (Bool → Option R) → Option R
  | 0, _, _, _, _, _, _, _, _, _, _, _, _, _, _ => none
  | k + 1, v0, v4, v10, v14, v16, v18, v20, v21, v22, v23, v24, v25, kx0, kr =>
    (if (decide (v25 < v20)) = true then
    (if (bnds v25 (v4.length : Int)) = true then
    (if v23 = true then
    w_FnInstances_j25 K k v0 v4 v10 v14 v16 v18 v20 v21 (bitI .or .i64 v22 (v4.getD v25.toNat (0 : Int))) true v24 v25 (fun z46 z47 z48 z49 z50 z51 z52 z53 z54 z55 z56 z57 =>
    w_FnInstances_j22 K k z46 z47 z48 z49 z50 z51 z52 z53 z54 z55 z56 z57 (fun z58 z59 z60 z61 z62 z63 z64 z65 z66 z67 z68 z69 =>
    w_FnInstances_l21 K k z58 z59 z60 z61 z62 z63 z64 z65 z66 z67 z68 z69 kx0 kr)) (fun z70 =>
    kr z70)
    else
    (if (bnds v25 (v4.length : Int)) = true then
    w_FnInstances_j25 K k v0 v4 v10 v14 v16 v18 v20 v21 (bitI .or .i64 v22 (v4.getD v25.toNat (0 : Int))) (decide ((v4.getD v25.toNat (0 : Int)) = v16)) v24 v25 (fun z71 z72 z73 z74 z75 z76 z77 z78 z79 z80 z81 z82 =>
    w_FnInstances_j22 K k z71 z72 z73 z74 z75 z76 z77 z78 z79 z80 z81 z82 (fun z83 z84 z85 z86 z87 z88 z89 z90 z91 z92 z93 z94 =>
    w_FnInstances_l21 K k z83 z84 z85 z86 z87 z88 z89 z90 z91 z92 z93 z94 kx0 kr)) (fun z95 =>
    kr z95)
    else
    none))
    else
    none)
    else
    kx0 v0 v4 v10 v16 v18 v20 v21 v22 v23 v24)
noncomputable def w_FnInstances_l30 {R : Type} (K : Nat) : Nat → (List Int) → (List Int) → (List Int) → Int → Int → Int → Int → Int → Bool → Bool → Bool → Int → ((List Int) → (List Int) → (List Int) → Int → Int → Int → Int → Bool → Bool → Bool → Option R) → Option R
  | 0, _, _, _, _, _, _, _, _, _, _, _, _, _ => none
  | k + 1, v0, v4, v10, v16, v18, v20, v21, v22, v23, v24, v26, v27, kx2 =>
    (if (decide (v27 < v20)) = true then
    (if v26 = true then
    w_FnInstances_l30 K k v0 v4 v10 v16 v18 v20 v21 v22 v23 v24 true (IntKind.i64.wrap (v27 + (1 : Int))) kx2
    else
    (if (bnds v27 (v4.length : Int)) = true then
    w_FnInstances_l30 K k v0 v4 v10 v16 v18 v20 v21 v22 v23 v24 (decide ((v4.getD v27.toNat (0 : Int)) = v22)) (IntKind.i64.wrap (v27 + (1 : Int))) kx2
    else
    none))
    else
    kx2 v0 v4 v10 v16 v18 v20 v21 v23 v24 v26)
noncomputable def w_FnInstances_j35 {R : Type} (K : Nat) (k : Nat) (v0 : (List Int)) (v4 : (List Int)) (v10 : (List Int)) (v16 : Int) (v18 : Int) (v20 : Int) (v21 : Int) (v23 : Bool) (v24 : Bool) (v26 : Bool) (v28 : Int) (kn : (List Int) → (List Int) → (List Int) → Int → Int → Int → Int → Bool → Bool → Bool → Int → Option R)  : Option R :=
    kn v0 v4 v10 v16 v18 v20 v21 v23 v24 v26 (IntKind.i64.wrap (v28 + (1 : Int)))
noncomputable def w_FnInstances_l34 {R : Type} (K : Nat) : Nat → (List Int) → (List Int) → (List Int) → Int → Int → Int → Int → Bool → Bool → Bool → Int → ((List Int) → Int → Bool → Option R) → (Bool → Option R) → Option R
  | 0, _, _, _, _, _, _, _, _, _, _, _, _, _ => none
  | k + 1, v0, v4, v10, v16, v18, v20, v21, v23, v24, v26, v28, kx4, kr =>
    (if (decide (v28 < (v10.length : Int))) = true then
    (if (bnds v28 (v10.length : Int)) = true then
    (if (decide ((v10.getD v28.toNat (0 : Int)) = (0 : Int))) = true then
    (if (decide (v20 < (1 : Int))) = true then
    kr false
    else
    (if (bnds (0 : Int) (v4.length : Int)) = true then
    (if (!decide ((v4.getD (0 : Int).toNat (0 : Int)) = (0 : Int))) = true then
    kr false
    else
    w_FnInstances_j35 K k v0 v4 v10 v16 v18 v20 v21 v23 v24 v26 v28 (fun z116 z117 z118 z119 z120 z121 z122 z123 z124 z125 z126 =>
    w_FnInstances_l34 K k z116 z117 z118 z119 z120 z121 z122 z123 z124 z125 z126 kx4 kr))
    else
    none))
    else
    (if (decide ((v10.getD v28.toNat (0 : Int)) = (1 : Int))) = true then
    (if (decide (v20 < (1 : Int))) = true then
    kr false
    else
    (if (bnds (IntKind.i64.wrap (v20 - (1 : Int))) (v4.length : Int)) = true then
    let x127 := (v4.getD (IntKind.i64.wrap (v20 - (1 : Int))).toNat (0 : Int))
    (if (!decide (x127 = v21)) = true then
    kr false
    else
    w_FnInstances_j35 K k v0 v4 v10 v16 v18 v20 v21 v23 v24 v26 v28 (fun z128 z129 z130 z131 z132 z133 z134 z135 z136 z137 z138 =>
    w_FnInstances_l34 K k z128 z129 z130 z131 z132 z133 z134 z135 z136 z137 z138 kx4 kr))
    else
    none))
    else
    (if (decide ((v10.getD v28.toNat (0 : Int)) = (2 : Int))) = true then
    (if (decide (v20 > (0 : Int))) = true then
    (if (!v23) = true then
    kr false
    else
    (if (!decide (v18 = v16)) = true then
    kr false
    else
    w_FnInstances_j35 K k v0 v4 v10 v16 v18 v20 v21 v23 v24 v26 v28 (fun z139 z140 z141 z142 z143 z144 z145 z146 z147 z148 z149 =>
    w_FnInstances_l34 K k z139 z140 z141 z142 z143 z144 z145 z146 z147 z148 z149 kx4 kr)))
    else
    w_FnInstances_j35 K k v0 v4 v10 v16 v18 v20 v21 v23 v24 v26 v28 (fun z150 z151 z152 z153 z154 z155 z156 z157 z158 z159 z160 =>
    w_FnInstances_l34 K k z150 z151 z152 z153 z154 z155 z156 z157 z158 z159 z160 kx4 kr))
    else
    (if (decide ((v10.getD v28.toNat (0 : Int)) = (3 : Int))) = true then
    (if (decide (v20 > (0 : Int))) = true then
    (if (!v26) = true then
    kr false
    else
    w_FnInstances_j35 K k v0 v4 v10 v16 v18 v20 v21 v23 v24 v26 v28 (fun z161 z162 z163 z164 z165 z166 z167 z168 z169 z170 z171 =>
    w_FnInstances_l34 K k z161 z162 z163 z164 z165 z166 z167 z168 z169 z170 z171 kx4 kr))
    else
    w_FnInstances_j35 K k v0 v4 v10 v16 v18 v20 v21 v23 v24 v26 v28 (fun z172 z173 z174 z175 z176 z177 z178 z179 z180 z181 z182 =>
    w_FnInstances_l34 K k z172 z173 z174 z175 z176 z177 z178 z179 z180 z181 z182 kx4 kr))
    else
    (if (decide ((v10.getD v28.toNat (0 : Int)) = (5 : Int))) = true then
    (if (decide (v20 > (0 : Int))) = true then
    let x183 := (!decide ((bitI .and .i64 v20 (IntKind.i64.wrap (v20 - (1 : Int)))) = (0 : Int)))
    (if x183 = true then
    kr false
    else
    w_FnInstances_j35 K k v0 v4 v10 v16 v18 v20 v21 v23 v24 v26 v28 (fun z184 z185 z186 z187 z188 z189 z190 z191 z192 z193 z194 =>
    w_FnInstances_l34 K k z184 z185 z186 z187 z188 z189 z190 z191 z192 z193 z194 kx4 kr))
    else
    w_FnInstances_j35 K k v0 v4 v10 v16 v18 v20 v21 v23 v24 v26 v28 (fun z195 z196 z197 z198 z199 z200 z201 z202 z203 z204 z205 =>
    w_FnInstances_l34 K k z195 z196 z197 z198 z199 z200 z201 z202 z203 z204 z205 kx4 kr))
    else
    w_FnInstances_j35 K k v0 v4 v10 v16 v18 v20 v21 v23 v24 v26 v28 (fun z206 z207 z208 z209 z210 z211 z212 z213 z214 z215 z216 =>
    w_FnInstances_l34 K k z206 z207 z208 z209 z210 z211 z212 z213 z214 z215 z216 kx4 kr))))))
    else
    none)
    else
    kx4 v0 v20 v24)
noncomputable def w_FnInstances_j18 {R : Type} (K : Nat) (k : Nat) (v0 : (List Int)) (v3 : (Int × (List ((Int × Int × Unit) × (List Int) × Unit)) × Unit)) (v4 : (List Int)) (v10 : (List Int)) (v14 : (List Int)) (v16 : Int) (v18 : Int) (v20 : Int) (kn : (List Int) → Option R) (kr : (Bool → Option R)) : Option R :=
    (if (decide ((0 : Int) ≤ (IntKind.u64.wrap v3.1))) = true then
    let x16 := (IntKind.i64.wrap ((shlI .i64 (1 : Int) (IntKind.u64.wrap v3.1)) - (1 : Int)))
    w_FnInstances_l21 K k v0 v4 v10 v14 v16 v18 v20 x16 (0 : Int) false false (0 : Int) (fun z96 z97 z98 z99 z100 z101 z102 z103 z104 z105 =>
    w_FnInstances_l30 K k z96 z97 z98 z99 z100 z101 z102 z103 z104 z105 false (0 : Int) (fun z106 z107 z108 z109 z110 z111 z112 z113 z114 z115 =>
    w_FnInstances_l34 K k z106 z107 z108 z109 z110 z111 z112 z113 z114 z115 (0 : Int) (fun z217 z218 z219 =>
    (if (decide (z218 > (0 : Int))) = true then
    (if (!z219) = true then
    kr false
    else
    kn z217)
    else
    kn z217)) (fun z220 =>
    kr z220))) (fun z221 =>
    kr z221)
    else
    none)
noncomputable def w_FnInstances_j54 {R : Type} (K : Nat) (k : Nat) (v0 : (List Int)) (kn : Option R) (kr : (Bool → Option R)) : Option R :=
    (s_DrawFlipInstance K (v0, ())).bind fun y223 =>
    (i_FlipInstance K (y223.1.1, ())).bind fun y224 =>
    (s_FlipInstance K (y223.1.1, ())).bind fun y225 =>
    (s_DrawEasyClasses K (v0, ())).bind fun y226 =>
    (i_EasyClasses K (y226.1.1, ())).bind fun y227 =>
    (s_EasyClasses K (y226.1.1, ())).bind fun y228 =>
    (s_DrawEasyRow K (v0, ())).bind fun y229 =>
    (i_EasyRow K (y229, ())).bind fun y230 =>
    (s_EasyRow K (y229, ())).bind fun y231 =>
    (s_DrawLeastSolution K (v0, ())).bind fun y232 =>
    (i_LeastSolution K (y232.1.1, ())).bind fun y233 =>
    (s_LeastSolution K (y232.1.1, ())).bind fun y234 =>
    (s_DrawMeetOfSolutions K (v0, ())).bind fun y235 =>
    (i_MeetOfSolutions K (y235.1.1, ())).bind fun y236 =>
    (s_MeetOfSolutions K (y235.1.1, ())).bind fun y237 =>
    (s_DrawCountSolutions K (v0, ())).bind fun y238 =>
    (i_CountSolutions K (y238.1.1, ())).bind fun y239 =>
    (s_CountSolutions K (y238.1.1, ())).bind fun y240 =>
    (if (decide (y224.2.1 = y225.2.1)) = true then
    (w_instances5 K ((y224.1.1, y224.1.2.1, ()), (y225.1.1, y225.1.2.1, ()), ())).bind fun y241 =>
    (if y241 = true then
    (if (decide (y227.2.1 = y228.2.1)) = true then
    (w_likeInts K (y227.1, y228.1, ())).bind fun y242 =>
    (if y242 = true then
    (if (decide (y230.2.1 = y231.2.1)) = true then
    (w_likeInts K (y230.1, y231.1, ())).bind fun y243 =>
    (if y243 = true then
    (if (decide (y233.2.1 = y234.2.1)) = true then
    (if (decide (y233.1 = y234.1)) = true then
    (if (decide (y236.2.1 = y237.2.1)) = true then
    (if (decide (y236.1 = y237.1)) = true then
    (if (decide (y239.2.1 = y240.2.1)) = true then
    kr (decide (y239.1 = y240.1))
    else
    kr false)
    else
    kr false)
    else
    kr false)
    else
    kr false)
    else
    kr false)
    else
    kr false)
    else
    kr false)
    else
    kr false)
    else
    kr false)
    else
    kr false)
    else
    kr false)
noncomputable def w_FnInstances_j8 {R : Type} (K : Nat) (k : Nat) (v0 : (List Int)) (v3 : (Int × (List ((Int × Int × Unit) × (List Int) × Unit)) × Unit)) (v4 : (List Int)) (v5 : Int) (kn : Option R) (kr : (Bool → Option R)) : Option R :=
    (if (decide (v5 = (0 : Int))) = true then
    (i_CountSolutions K (v3, ())).bind fun y8 =>
    (i_EasyClasses K (v3, ())).bind fun y9 =>
    (i_FlipInstance K (v3, ())).bind fun y10 =>
    (i_SolutionsOf K ((y10.1.1, y10.1.2.1, ()), ())).bind fun y11 =>
    (i_MeetOfSolutions K (v3, ())).bind fun y12 =>
    (i_LeastSolution K (v3, ())).bind fun y13 =>
    (if (!decide (y8.2.1 = (0 : Int))) = true then
    kr false
    else
    (if (!decide (y9.2.1 = (0 : Int))) = true then
    kr false
    else
    (if (!decide (y10.2.1 = (0 : Int))) = true then
    kr false
    else
    (if (!decide (y11.2.1 = (0 : Int))) = true then
    kr false
    else
    (if (!decide (y8.1 = (v4.length : Int))) = true then
    kr false
    else
    (if (!decide ((y11.1.length : Int) = (v4.length : Int))) = true then
    kr false
    else
    let x14 := (!((decide ((v4.length : Int) > (0 : Int))) == (decide (y12.2.1 = (0 : Int)))))
    (if x14 = true then
    kr false
    else
    let x15 := (!((decide ((v4.length : Int) > (0 : Int))) == (decide (y13.2.1 = (0 : Int)))))
    (if x15 = true then
    kr false
    else
    w_FnInstances_j18 K k v0 v3 v4 y9.1 y11.1 y12.1 y13.1 (v4.length : Int) (fun z222 =>
    w_FnInstances_j54 K k z222 none (fun z244 =>
    kr z244)) (fun z245 =>
    kr z245)))))))))
    else
    w_FnInstances_j54 K k v0 none (fun z246 =>
    kr z246))
noncomputable def w_FnInstances (K : Nat) (x : ((List Int) × Unit)) : Option Bool :=
    (w_big K (x.1, ())).bind fun y1 =>
    (if y1 = true then
    some true
    else
    (s_DrawSolutionsOf K (x.1, ())).bind fun y2 =>
    (i_SolutionsOf K (y2.1.1, ())).bind fun y3 =>
    (s_SolutionsOf K (y2.1.1, ())).bind fun y4 =>
    (if (!decide (y3.2.1 = y4.2.1)) = true then
    some false
    else
    (w_likeInts K (y3.1, y4.1, ())).bind fun y5 =>
    (if (!y5) = true then
    some false
    else
    (i_IsInstance K (y2.1.1, ())).bind fun y6 =>
    (s_IsInstance K (y2.1.1, ())).bind fun y7 =>
    (if (!(y6 == y7)) = true then
    some false
    else
    w_FnInstances_j8 K K x.1 y2.1.1 y3.1 y3.2.1 none (fun z247 =>
    some z247)))))
noncomputable def lv_w_FnInstances_J8 : Lv := [(0, (.v (.sl (.int .u8)))), (3, (.bx (.v (.st (.pair (.int .i64) (.pair (.sl (.st (.pair (.st (.pair (.int .i64) (.pair (.int .i64) .unit))) (.pair (.sl (.int .i64)) .unit)))) .unit)))))), (4, (.r (.int .i64))), (5, (.v (.int .i64)))]
noncomputable def lv_w_FnInstances_J18 : Lv := [(0, (.v (.sl (.int .u8)))), (3, (.bx (.v (.st (.pair (.int .i64) (.pair (.sl (.st (.pair (.st (.pair (.int .i64) (.pair (.int .i64) .unit))) (.pair (.sl (.int .i64)) .unit)))) .unit)))))), (4, (.r (.int .i64))), (10, (.r (.int .i64))), (14, (.r (.int .i64))), (16, (.v (.int .i64))), (18, (.v (.int .i64))), (20, (.v (.int .i64)))]
noncomputable def lv_w_FnInstances_J22 : Lv := [(0, (.v (.sl (.int .u8)))), (4, (.r (.int .i64))), (10, (.r (.int .i64))), (14, (.r (.int .i64))), (16, (.v (.int .i64))), (18, (.v (.int .i64))), (20, (.v (.int .i64))), (21, (.v (.int .i64))), (22, (.v (.int .i64))), (23, (.v .bool)), (24, (.v .bool)), (25, (.v (.int .i64)))]
noncomputable def lv_w_FnInstances_J25 : Lv := [(0, (.v (.sl (.int .u8)))), (4, (.r (.int .i64))), (10, (.r (.int .i64))), (14, (.r (.int .i64))), (16, (.v (.int .i64))), (18, (.v (.int .i64))), (20, (.v (.int .i64))), (21, (.v (.int .i64))), (22, (.v (.int .i64))), (23, (.v .bool)), (24, (.v .bool)), (25, (.v (.int .i64)))]
noncomputable def lv_w_FnInstances_J26 : Lv := [(0, (.v (.sl (.int .u8)))), (4, (.r (.int .i64))), (10, (.r (.int .i64))), (14, (.r (.int .i64))), (16, (.v (.int .i64))), (18, (.v (.int .i64))), (20, (.v (.int .i64))), (21, (.v (.int .i64))), (22, (.v (.int .i64))), (23, (.v .bool)), (24, (.v .bool)), (25, (.v (.int .i64)))]
noncomputable def lv_w_FnInstances_J35 : Lv := [(0, (.v (.sl (.int .u8)))), (4, (.r (.int .i64))), (10, (.r (.int .i64))), (16, (.v (.int .i64))), (18, (.v (.int .i64))), (20, (.v (.int .i64))), (21, (.v (.int .i64))), (23, (.v .bool)), (24, (.v .bool)), (26, (.v .bool)), (28, (.v (.int .i64)))]
noncomputable def lv_w_FnInstances_J54 : Lv := [(0, (.v (.sl (.int .u8))))]
noncomputable def lv_w_FnInstances_L21 : Lv := [(0, (.v (.sl (.int .u8)))), (4, (.r (.int .i64))), (10, (.r (.int .i64))), (14, (.r (.int .i64))), (16, (.v (.int .i64))), (18, (.v (.int .i64))), (20, (.v (.int .i64))), (21, (.v (.int .i64))), (22, (.v (.int .i64))), (23, (.v .bool)), (24, (.v .bool)), (25, (.v (.int .i64)))]
noncomputable def lv_w_FnInstances_L30 : Lv := [(0, (.v (.sl (.int .u8)))), (4, (.r (.int .i64))), (10, (.r (.int .i64))), (16, (.v (.int .i64))), (18, (.v (.int .i64))), (20, (.v (.int .i64))), (21, (.v (.int .i64))), (22, (.v (.int .i64))), (23, (.v .bool)), (24, (.v .bool)), (26, (.v .bool)), (27, (.v (.int .i64)))]
noncomputable def lv_w_FnInstances_L34 : Lv := [(0, (.v (.sl (.int .u8)))), (4, (.r (.int .i64))), (10, (.r (.int .i64))), (16, (.v (.int .i64))), (18, (.v (.int .i64))), (20, (.v (.int .i64))), (21, (.v (.int .i64))), (23, (.v .bool)), (24, (.v .bool)), (26, (.v .bool)), (28, (.v (.int .i64)))]
noncomputable def lv_w_FnInstances_N8 : Lv := []
noncomputable def lv_w_FnInstances_N18 : Lv := [(0, (.v (.sl (.int .u8))))]
noncomputable def lv_w_FnInstances_N22 : Lv := [(0, (.v (.sl (.int .u8)))), (4, (.r (.int .i64))), (10, (.r (.int .i64))), (14, (.r (.int .i64))), (16, (.v (.int .i64))), (18, (.v (.int .i64))), (20, (.v (.int .i64))), (21, (.v (.int .i64))), (22, (.v (.int .i64))), (23, (.v .bool)), (24, (.v .bool)), (25, (.v (.int .i64)))]
noncomputable def lv_w_FnInstances_N25 : Lv := [(0, (.v (.sl (.int .u8)))), (4, (.r (.int .i64))), (10, (.r (.int .i64))), (14, (.r (.int .i64))), (16, (.v (.int .i64))), (18, (.v (.int .i64))), (20, (.v (.int .i64))), (21, (.v (.int .i64))), (22, (.v (.int .i64))), (23, (.v .bool)), (24, (.v .bool)), (25, (.v (.int .i64)))]
noncomputable def lv_w_FnInstances_N26 : Lv := [(0, (.v (.sl (.int .u8)))), (4, (.r (.int .i64))), (10, (.r (.int .i64))), (14, (.r (.int .i64))), (16, (.v (.int .i64))), (18, (.v (.int .i64))), (20, (.v (.int .i64))), (21, (.v (.int .i64))), (22, (.v (.int .i64))), (23, (.v .bool)), (24, (.v .bool)), (25, (.v (.int .i64)))]
noncomputable def lv_w_FnInstances_N35 : Lv := [(0, (.v (.sl (.int .u8)))), (4, (.r (.int .i64))), (10, (.r (.int .i64))), (16, (.v (.int .i64))), (18, (.v (.int .i64))), (20, (.v (.int .i64))), (21, (.v (.int .i64))), (23, (.v .bool)), (24, (.v .bool)), (26, (.v .bool)), (28, (.v (.int .i64)))]
noncomputable def lv_w_FnInstances_N54 : Lv := []
noncomputable def lv_w_FnInstances_X0 : Lv := [(0, (.v (.sl (.int .u8)))), (4, (.r (.int .i64))), (10, (.r (.int .i64))), (16, (.v (.int .i64))), (18, (.v (.int .i64))), (20, (.v (.int .i64))), (21, (.v (.int .i64))), (22, (.v (.int .i64))), (23, (.v .bool)), (24, (.v .bool))]
noncomputable def lv_w_FnInstances_X2 : Lv := [(0, (.v (.sl (.int .u8)))), (4, (.r (.int .i64))), (10, (.r (.int .i64))), (16, (.v (.int .i64))), (18, (.v (.int .i64))), (20, (.v (.int .i64))), (21, (.v (.int .i64))), (23, (.v .bool)), (24, (.v .bool)), (26, (.v .bool))]
noncomputable def lv_w_FnInstances_X4 : Lv := [(0, (.v (.sl (.int .u8)))), (20, (.v (.int .i64))), (24, (.v .bool))]
noncomputable def rv_w_FnInstances : Lv := [(2, (.v .bool))]
noncomputable def gw_FnInstances_j26 {R : Type} (K : Nat) (k : Nat) (x : den lv_w_FnInstances_J26.ty) (kn : den lv_w_FnInstances_N26.ty → Option R) (kx : Nat → St → Option R) (kr : St → Option R) : Option R := w_FnInstances_j26 K k x.1 x.2.1 x.2.2.1 x.2.2.2.1 x.2.2.2.2.1 x.2.2.2.2.2.1 x.2.2.2.2.2.2.1 x.2.2.2.2.2.2.2.1 x.2.2.2.2.2.2.2.2.1 x.2.2.2.2.2.2.2.2.2.1 x.2.2.2.2.2.2.2.2.2.2.1 x.2.2.2.2.2.2.2.2.2.2.2.1 (fun z0 z1 z2 z3 z4 z5 z6 z7 z8 z9 z10 z11 => kn (z0, z1, z2, z3, z4, z5, z6, z7, z8, z9, z10, z11, ())) (fun z0 => kr (mkSt rv_w_FnInstances (z0, ())))
noncomputable def gw_FnInstances_j25 {R : Type} (K : Nat) (k : Nat) (x : den lv_w_FnInstances_J25.ty) (kn : den lv_w_FnInstances_N25.ty → Option R) (kx : Nat → St → Option R) (kr : St → Option R) : Option R := w_FnInstances_j25 K k x.1 x.2.1 x.2.2.1 x.2.2.2.1 x.2.2.2.2.1 x.2.2.2.2.2.1 x.2.2.2.2.2.2.1 x.2.2.2.2.2.2.2.1 x.2.2.2.2.2.2.2.2.1 x.2.2.2.2.2.2.2.2.2.1 x.2.2.2.2.2.2.2.2.2.2.1 x.2.2.2.2.2.2.2.2.2.2.2.1 (fun z0 z1 z2 z3 z4 z5 z6 z7 z8 z9 z10 z11 => kn (z0, z1, z2, z3, z4, z5, z6, z7, z8, z9, z10, z11, ())) (fun z0 => kr (mkSt rv_w_FnInstances (z0, ())))
noncomputable def gw_FnInstances_j22 {R : Type} (K : Nat) (k : Nat) (x : den lv_w_FnInstances_J22.ty) (kn : den lv_w_FnInstances_N22.ty → Option R) (kx : Nat → St → Option R) (kr : St → Option R) : Option R := w_FnInstances_j22 K k x.1 x.2.1 x.2.2.1 x.2.2.2.1 x.2.2.2.2.1 x.2.2.2.2.2.1 x.2.2.2.2.2.2.1 x.2.2.2.2.2.2.2.1 x.2.2.2.2.2.2.2.2.1 x.2.2.2.2.2.2.2.2.2.1 x.2.2.2.2.2.2.2.2.2.2.1 x.2.2.2.2.2.2.2.2.2.2.2.1 (fun z0 z1 z2 z3 z4 z5 z6 z7 z8 z9 z10 z11 => kn (z0, z1, z2, z3, z4, z5, z6, z7, z8, z9, z10, z11, ()))
noncomputable def gw_FnInstances_l21 {R : Type} (K : Nat) (k : Nat) (x : den lv_w_FnInstances_L21.ty) (kx : Nat → St → Option R) (kr : St → Option R) : Option R := w_FnInstances_l21 K k x.1 x.2.1 x.2.2.1 x.2.2.2.1 x.2.2.2.2.1 x.2.2.2.2.2.1 x.2.2.2.2.2.2.1 x.2.2.2.2.2.2.2.1 x.2.2.2.2.2.2.2.2.1 x.2.2.2.2.2.2.2.2.2.1 x.2.2.2.2.2.2.2.2.2.2.1 x.2.2.2.2.2.2.2.2.2.2.2.1 (fun z0 z1 z2 z3 z4 z5 z6 z7 z8 z9 => kx 0 (mkSt lv_w_FnInstances_X0 (z0, z1, z2, z3, z4, z5, z6, z7, z8, z9, ()))) (fun z0 => kr (mkSt rv_w_FnInstances (z0, ())))
noncomputable def gw_FnInstances_l30 {R : Type} (K : Nat) (k : Nat) (x : den lv_w_FnInstances_L30.ty) (kx : Nat → St → Option R) (kr : St → Option R) : Option R := w_FnInstances_l30 K k x.1 x.2.1 x.2.2.1 x.2.2.2.1 x.2.2.2.2.1 x.2.2.2.2.2.1 x.2.2.2.2.2.2.1 x.2.2.2.2.2.2.2.1 x.2.2.2.2.2.2.2.2.1 x.2.2.2.2.2.2.2.2.2.1 x.2.2.2.2.2.2.2.2.2.2.1 x.2.2.2.2.2.2.2.2.2.2.2.1 (fun z0 z1 z2 z3 z4 z5 z6 z7 z8 z9 => kx 2 (mkSt lv_w_FnInstances_X2 (z0, z1, z2, z3, z4, z5, z6, z7, z8, z9, ())))
noncomputable def gw_FnInstances_j35 {R : Type} (K : Nat) (k : Nat) (x : den lv_w_FnInstances_J35.ty) (kn : den lv_w_FnInstances_N35.ty → Option R) (kx : Nat → St → Option R) (kr : St → Option R) : Option R := w_FnInstances_j35 K k x.1 x.2.1 x.2.2.1 x.2.2.2.1 x.2.2.2.2.1 x.2.2.2.2.2.1 x.2.2.2.2.2.2.1 x.2.2.2.2.2.2.2.1 x.2.2.2.2.2.2.2.2.1 x.2.2.2.2.2.2.2.2.2.1 x.2.2.2.2.2.2.2.2.2.2.1 (fun z0 z1 z2 z3 z4 z5 z6 z7 z8 z9 z10 => kn (z0, z1, z2, z3, z4, z5, z6, z7, z8, z9, z10, ()))
noncomputable def gw_FnInstances_l34 {R : Type} (K : Nat) (k : Nat) (x : den lv_w_FnInstances_L34.ty) (kx : Nat → St → Option R) (kr : St → Option R) : Option R := w_FnInstances_l34 K k x.1 x.2.1 x.2.2.1 x.2.2.2.1 x.2.2.2.2.1 x.2.2.2.2.2.1 x.2.2.2.2.2.2.1 x.2.2.2.2.2.2.2.1 x.2.2.2.2.2.2.2.2.1 x.2.2.2.2.2.2.2.2.2.1 x.2.2.2.2.2.2.2.2.2.2.1 (fun z0 z1 z2 => kx 4 (mkSt lv_w_FnInstances_X4 (z0, z1, z2, ()))) (fun z0 => kr (mkSt rv_w_FnInstances (z0, ())))
noncomputable def gw_FnInstances_j18 {R : Type} (K : Nat) (k : Nat) (x : den lv_w_FnInstances_J18.ty) (kn : den lv_w_FnInstances_N18.ty → Option R) (kx : Nat → St → Option R) (kr : St → Option R) : Option R := w_FnInstances_j18 K k x.1 x.2.1 x.2.2.1 x.2.2.2.1 x.2.2.2.2.1 x.2.2.2.2.2.1 x.2.2.2.2.2.2.1 x.2.2.2.2.2.2.2.1 (fun z0 => kn (z0, ())) (fun z0 => kr (mkSt rv_w_FnInstances (z0, ())))
noncomputable def gw_FnInstances_j54 {R : Type} (K : Nat) (k : Nat) (x : den lv_w_FnInstances_J54.ty) (kn : den lv_w_FnInstances_N54.ty → Option R) (kx : Nat → St → Option R) (kr : St → Option R) : Option R := w_FnInstances_j54 K k x.1 (kn ()) (fun z0 => kr (mkSt rv_w_FnInstances (z0, ())))
noncomputable def gw_FnInstances_j8 {R : Type} (K : Nat) (k : Nat) (x : den lv_w_FnInstances_J8.ty) (kn : den lv_w_FnInstances_N8.ty → Option R) (kx : Nat → St → Option R) (kr : St → Option R) : Option R := w_FnInstances_j8 K k x.1 x.2.1 x.2.2.1 x.2.2.2.1 (kn ()) (fun z0 => kr (mkSt rv_w_FnInstances (z0, ())))
noncomputable def sg_w_FnInstances {R : Type} (K : Nat) (k : Nat) : List (Nat × SegS R) := [(26, mkSeg lv_w_FnInstances_J26 lv_w_FnInstances_N26 (gw_FnInstances_j26 K k)), (25, mkSeg lv_w_FnInstances_J25 lv_w_FnInstances_N25 (gw_FnInstances_j25 K k)), (22, mkSeg lv_w_FnInstances_J22 lv_w_FnInstances_N22 (gw_FnInstances_j22 K k)), (35, mkSeg lv_w_FnInstances_J35 lv_w_FnInstances_N35 (gw_FnInstances_j35 K k)), (18, mkSeg lv_w_FnInstances_J18 lv_w_FnInstances_N18 (gw_FnInstances_j18 K k)), (54, mkSeg lv_w_FnInstances_J54 lv_w_FnInstances_N54 (gw_FnInstances_j54 K k)), (8, mkSeg lv_w_FnInstances_J8 lv_w_FnInstances_N8 (gw_FnInstances_j8 K k))]
noncomputable def su_w_FnInstances : List (Nat × Unit) := [(26, ()), (25, ()), (22, ()), (35, ()), (18, ()), (54, ()), (8, ())]
noncomputable def en_w_FnInstances {R : Type} (K : Nat) (k : Nat) : Env R := { L := lk [(21, mkLoop lv_w_FnInstances_L21 (gw_FnInstances_l21 K k)), (30, mkLoop lv_w_FnInstances_L30 (gw_FnInstances_l30 K k)), (34, mkLoop lv_w_FnInstances_L34 (gw_FnInstances_l34 K k))], X := lk [(0, lv_w_FnInstances_X0), (2, lv_w_FnInstances_X2), (4, lv_w_FnInstances_X4)], S := lk (sg_w_FnInstances K k), rv := rv_w_FnInstances }
noncomputable def cf_w_FnInstances (K : Nat) : Cfg := { ty := lk tys, fn := lk [(5, sp_w_big (w_big K)), (7, sp_i_SolutionsOf (i_SolutionsOf K)), (8, sp_s_SolutionsOf (s_SolutionsOf K)), (9, sp_w_likeInts (w_likeInts K)), (10, sp_i_IsInstance (i_IsInstance K)), (11, sp_s_IsInstance (s_IsInstance K)), (12, sp_i_CountSolutions (i_CountSolutions K)), (13, sp_i_EasyClasses (i_EasyClasses K)), (14, sp_i_FlipInstance (i_FlipInstance K)), (15, sp_i_MeetOfSolutions (i_MeetOfSolutions K)), (16, sp_i_LeastSolution (i_LeastSolution K)), (18, sp_s_FlipInstance (s_FlipInstance K)), (20, sp_s_EasyClasses (s_EasyClasses K)), (21, sp_s_DrawEasyRow (s_DrawEasyRow K)), (22, sp_i_EasyRow (i_EasyRow K)), (23, sp_s_EasyRow (s_EasyRow K)), (25, sp_s_LeastSolution (s_LeastSolution K)), (27, sp_s_MeetOfSolutions (s_MeetOfSolutions K)), (29, sp_s_CountSolutions (s_CountSolutions K)), (30, sp_w_instances5 (w_instances5 K))], fs := lk [(6, sp_s_DrawSolutionsOf (s_DrawSolutionsOf K)), (17, sp_s_DrawFlipInstance (s_DrawFlipInstance K)), (19, sp_s_DrawEasyClasses (s_DrawEasyClasses K)), (24, sp_s_DrawLeastSolution (s_DrawLeastSolution K)), (26, sp_s_DrawMeetOfSolutions (s_DrawMeetOfSolutions K)), (28, sp_s_DrawCountSolutions (s_DrawCountSolutions K))], prot := 0, nt := Tryz.f3.ntmps }
noncomputable def c_w_FnInstances_J8 : Code := nthC (partsOf (hasK su_w_FnInstances) (bodyOf Tryz.f3)) 0
noncomputable def c_w_FnInstances_J18 : Code := nthC (partsOf (hasK su_w_FnInstances) c_w_FnInstances_J8) 0
noncomputable def c_w_FnInstances_L21 : Code := nthC (partsOf (hasK su_w_FnInstances) c_w_FnInstances_J18) 0
noncomputable def c_w_FnInstances_J25 : Code := nthC (partsOf (hasK su_w_FnInstances) c_w_FnInstances_L21) 0
noncomputable def c_w_FnInstances_J26 : Code := nthC (partsOf (hasK su_w_FnInstances) c_w_FnInstances_J25) 0
noncomputable def c_w_FnInstances_J22 : Code := nthC (partsOf (hasK su_w_FnInstances) c_w_FnInstances_L21) 1
noncomputable def c_w_FnInstances_L30 : Code := nthC (partsOf (hasK su_w_FnInstances) c_w_FnInstances_J18) 1
noncomputable def c_w_FnInstances_L34 : Code := nthC (partsOf (hasK su_w_FnInstances) c_w_FnInstances_J18) 2
noncomputable def c_w_FnInstances_J35 : Code := nthC (partsOf (hasK su_w_FnInstances) c_w_FnInstances_L34) 0
noncomputable def c_w_FnInstances_J54 : Code := nthC (partsOf (hasK su_w_FnInstances) c_w_FnInstances_J8) 1
theorem ew_FnInstances_j26 {R : Type} (K : Nat) (k : Nat) (x : den lv_w_FnInstances_J26.ty) (kn : den lv_w_FnInstances_N26.ty → Option R) (kx : Nat → St → Option R) (kr : St → Option R) : gw_FnInstances_j26 K k x kn kx kr = evC (cf_w_FnInstances K) (en_w_FnInstances K k) c_w_FnInstances_J26 (mkSt lv_w_FnInstances_J26 x) (cutK lv_w_FnInstances_N26 kn) kx kr := by kernel_rfl
theorem sw_FnInstances_j26 {R : Type} (K : Nat) (C : Cx) (hP : C.P = Tryz.prog) (O : CfgOk C (cf_w_FnInstances K)) (k : Nat) : SgS C (R := R) (mkSeg lv_w_FnInstances_J26 lv_w_FnInstances_N26 (gw_FnInstances_j26 K k)) c_w_FnInstances_J26 :=
  seg_sound O (by rw [hP]; kernel_rfl) (ew_FnInstances_j26 K k) (lpOk_of (en := en_w_FnInstances K k) (S := hasK su_w_FnInstances) (fun i => hasK_lk (sg_w_FnInstances K k) i) _ (by rw [show partsOf (hasK su_w_FnInstances) c_w_FnInstances_J26 = [] from by kernel_rfl]; exact trivial))
theorem ew_FnInstances_j25 {R : Type} (K : Nat) (k : Nat) (x : den lv_w_FnInstances_J25.ty) (kn : den lv_w_FnInstances_N25.ty → Option R) (kx : Nat → St → Option R) (kr : St → Option R) : gw_FnInstances_j25 K k x kn kx kr = evC (cf_w_FnInstances K) (en_w_FnInstances K k) c_w_FnInstances_J25 (mkSt lv_w_FnInstances_J25 x) (cutK lv_w_FnInstances_N25 kn) kx kr := by kernel_rfl
theorem sw_FnInstances_j25 {R : Type} (K : Nat) (C : Cx) (hP : C.P = Tryz.prog) (O : CfgOk C (cf_w_FnInstances K)) (k : Nat) : SgS C (R := R) (mkSeg lv_w_FnInstances_J25 lv_w_FnInstances_N25 (gw_FnInstances_j25 K k)) c_w_FnInstances_J25 :=
  seg_sound O (by rw [hP]; kernel_rfl) (ew_FnInstances_j25 K k) (lpOk_of (en := en_w_FnInstances K k) (S := hasK su_w_FnInstances) (fun i => hasK_lk (sg_w_FnInstances K k) i) _ (by rw [show partsOf (hasK su_w_FnInstances) c_w_FnInstances_J25 = [(false, c_w_FnInstances_J26)] from by kernel_rfl]; exact (lpL_seg (f := mkSeg lv_w_FnInstances_J26 lv_w_FnInstances_N26 (gw_FnInstances_j26 K k)) (by kernel_rfl) (sw_FnInstances_j26 K C hP O k) trivial)))
theorem ew_FnInstances_j22 {R : Type} (K : Nat) (k : Nat) (x : den lv_w_FnInstances_J22.ty) (kn : den lv_w_FnInstances_N22.ty → Option R) (kx : Nat → St → Option R) (kr : St → Option R) : gw_FnInstances_j22 K k x kn kx kr = evC (cf_w_FnInstances K) (en_w_FnInstances K k) c_w_FnInstances_J22 (mkSt lv_w_FnInstances_J22 x) (cutK lv_w_FnInstances_N22 kn) kx kr := by kernel_rfl
theorem sw_FnInstances_j22 {R : Type} (K : Nat) (C : Cx) (hP : C.P = Tryz.prog) (O : CfgOk C (cf_w_FnInstances K)) (k : Nat) : SgS C (R := R) (mkSeg lv_w_FnInstances_J22 lv_w_FnInstances_N22 (gw_FnInstances_j22 K k)) c_w_FnInstances_J22 :=
  seg_sound O (by rw [hP]; kernel_rfl) (ew_FnInstances_j22 K k) (lpOk_of (en := en_w_FnInstances K k) (S := hasK su_w_FnInstances) (fun i => hasK_lk (sg_w_FnInstances K k) i) _ (by rw [show partsOf (hasK su_w_FnInstances) c_w_FnInstances_J22 = [] from by kernel_rfl]; exact trivial))
theorem ew_FnInstances_l21 {R : Type} (K : Nat) (k : Nat) (x : den lv_w_FnInstances_L21.ty) (kx : Nat → St → Option R) (kr : St → Option R) : gw_FnInstances_l21 K (k + 1) x kx kr = evC (cf_w_FnInstances K) (en_w_FnInstances K k) c_w_FnInstances_L21 (mkSt lv_w_FnInstances_L21 x) (fun s => mkLoop lv_w_FnInstances_L21 (gw_FnInstances_l21 K k) s kx kr) kx kr := by kernel_rfl
theorem sw_FnInstances_l21 {R : Type} (K : Nat) (C : Cx) (hP : C.P = Tryz.prog) (O : CfgOk C (cf_w_FnInstances K)) (k : Nat) : LpS C (R := R) (mkLoop lv_w_FnInstances_L21 (gw_FnInstances_l21 K k)) c_w_FnInstances_L21 :=
  loop_sound O (by rw [hP]; kernel_rfl) (fun x kx kr => rfl) (ew_FnInstances_l21 K) (fun k => lpOk_of (en := en_w_FnInstances K k) (S := hasK su_w_FnInstances) (fun i => hasK_lk (sg_w_FnInstances K k) i) _ (by rw [show partsOf (hasK su_w_FnInstances) c_w_FnInstances_L21 = [(false, c_w_FnInstances_J25), (false, c_w_FnInstances_J22)] from by kernel_rfl]; exact (lpL_seg (f := mkSeg lv_w_FnInstances_J25 lv_w_FnInstances_N25 (gw_FnInstances_j25 K k)) (by kernel_rfl) (sw_FnInstances_j25 K C hP O k) (lpL_seg (f := mkSeg lv_w_FnInstances_J22 lv_w_FnInstances_N22 (gw_FnInstances_j22 K k)) (by kernel_rfl) (sw_FnInstances_j22 K C hP O k) trivial)))) k
theorem ew_FnInstances_l30 {R : Type} (K : Nat) (k : Nat) (x : den lv_w_FnInstances_L30.ty) (kx : Nat → St → Option R) (kr : St → Option R) : gw_FnInstances_l30 K (k + 1) x kx kr = evC (cf_w_FnInstances K) (en_w_FnInstances K k) c_w_FnInstances_L30 (mkSt lv_w_FnInstances_L30 x) (fun s => mkLoop lv_w_FnInstances_L30 (gw_FnInstances_l30 K k) s kx kr) kx kr := by kernel_rfl
theorem sw_FnInstances_l30 {R : Type} (K : Nat) (C : Cx) (hP : C.P = Tryz.prog) (O : CfgOk C (cf_w_FnInstances K)) (k : Nat) : LpS C (R := R) (mkLoop lv_w_FnInstances_L30 (gw_FnInstances_l30 K k)) c_w_FnInstances_L30 :=
  loop_sound O (by rw [hP]; kernel_rfl) (fun x kx kr => rfl) (ew_FnInstances_l30 K) (fun k => lpOk_of (en := en_w_FnInstances K k) (S := hasK su_w_FnInstances) (fun i => hasK_lk (sg_w_FnInstances K k) i) _ (by rw [show partsOf (hasK su_w_FnInstances) c_w_FnInstances_L30 = [] from by kernel_rfl]; exact trivial)) k
theorem ew_FnInstances_j35 {R : Type} (K : Nat) (k : Nat) (x : den lv_w_FnInstances_J35.ty) (kn : den lv_w_FnInstances_N35.ty → Option R) (kx : Nat → St → Option R) (kr : St → Option R) : gw_FnInstances_j35 K k x kn kx kr = evC (cf_w_FnInstances K) (en_w_FnInstances K k) c_w_FnInstances_J35 (mkSt lv_w_FnInstances_J35 x) (cutK lv_w_FnInstances_N35 kn) kx kr := by kernel_rfl
theorem sw_FnInstances_j35 {R : Type} (K : Nat) (C : Cx) (hP : C.P = Tryz.prog) (O : CfgOk C (cf_w_FnInstances K)) (k : Nat) : SgS C (R := R) (mkSeg lv_w_FnInstances_J35 lv_w_FnInstances_N35 (gw_FnInstances_j35 K k)) c_w_FnInstances_J35 :=
  seg_sound O (by rw [hP]; kernel_rfl) (ew_FnInstances_j35 K k) (lpOk_of (en := en_w_FnInstances K k) (S := hasK su_w_FnInstances) (fun i => hasK_lk (sg_w_FnInstances K k) i) _ (by rw [show partsOf (hasK su_w_FnInstances) c_w_FnInstances_J35 = [] from by kernel_rfl]; exact trivial))
theorem ew_FnInstances_l34 {R : Type} (K : Nat) (k : Nat) (x : den lv_w_FnInstances_L34.ty) (kx : Nat → St → Option R) (kr : St → Option R) : gw_FnInstances_l34 K (k + 1) x kx kr = evC (cf_w_FnInstances K) (en_w_FnInstances K k) c_w_FnInstances_L34 (mkSt lv_w_FnInstances_L34 x) (fun s => mkLoop lv_w_FnInstances_L34 (gw_FnInstances_l34 K k) s kx kr) kx kr := by kernel_rfl
theorem sw_FnInstances_l34 {R : Type} (K : Nat) (C : Cx) (hP : C.P = Tryz.prog) (O : CfgOk C (cf_w_FnInstances K)) (k : Nat) : LpS C (R := R) (mkLoop lv_w_FnInstances_L34 (gw_FnInstances_l34 K k)) c_w_FnInstances_L34 :=
  loop_sound O (by rw [hP]; kernel_rfl) (fun x kx kr => rfl) (ew_FnInstances_l34 K) (fun k => lpOk_of (en := en_w_FnInstances K k) (S := hasK su_w_FnInstances) (fun i => hasK_lk (sg_w_FnInstances K k) i) _ (by rw [show partsOf (hasK su_w_FnInstances) c_w_FnInstances_L34 = [(false, c_w_FnInstances_J35)] from by kernel_rfl]; exact (lpL_seg (f := mkSeg lv_w_FnInstances_J35 lv_w_FnInstances_N35 (gw_FnInstances_j35 K k)) (by kernel_rfl) (sw_FnInstances_j35 K C hP O k) trivial))) k
theorem ew_FnInstances_j18 {R : Type} (K : Nat) (k : Nat) (x : den lv_w_FnInstances_J18.ty) (kn : den lv_w_FnInstances_N18.ty → Option R) (kx : Nat → St → Option R) (kr : St → Option R) : gw_FnInstances_j18 K k x kn kx kr = evC (cf_w_FnInstances K) (en_w_FnInstances K k) c_w_FnInstances_J18 (mkSt lv_w_FnInstances_J18 x) (cutK lv_w_FnInstances_N18 kn) kx kr := by kernel_rfl
theorem sw_FnInstances_j18 {R : Type} (K : Nat) (C : Cx) (hP : C.P = Tryz.prog) (O : CfgOk C (cf_w_FnInstances K)) (k : Nat) : SgS C (R := R) (mkSeg lv_w_FnInstances_J18 lv_w_FnInstances_N18 (gw_FnInstances_j18 K k)) c_w_FnInstances_J18 :=
  seg_sound O (by rw [hP]; kernel_rfl) (ew_FnInstances_j18 K k) (lpOk_of (en := en_w_FnInstances K k) (S := hasK su_w_FnInstances) (fun i => hasK_lk (sg_w_FnInstances K k) i) _ (by rw [show partsOf (hasK su_w_FnInstances) c_w_FnInstances_J18 = [(true, c_w_FnInstances_L21), (true, c_w_FnInstances_L30), (true, c_w_FnInstances_L34)] from by kernel_rfl]; exact (lpL_loop (f := mkLoop lv_w_FnInstances_L21 (gw_FnInstances_l21 K k)) (by kernel_rfl) (sw_FnInstances_l21 K C hP O k) (lpL_loop (f := mkLoop lv_w_FnInstances_L30 (gw_FnInstances_l30 K k)) (by kernel_rfl) (sw_FnInstances_l30 K C hP O k) (lpL_loop (f := mkLoop lv_w_FnInstances_L34 (gw_FnInstances_l34 K k)) (by kernel_rfl) (sw_FnInstances_l34 K C hP O k) trivial)))))
theorem ew_FnInstances_j54 {R : Type} (K : Nat) (k : Nat) (x : den lv_w_FnInstances_J54.ty) (kn : den lv_w_FnInstances_N54.ty → Option R) (kx : Nat → St → Option R) (kr : St → Option R) : gw_FnInstances_j54 K k x kn kx kr = evC (cf_w_FnInstances K) (en_w_FnInstances K k) c_w_FnInstances_J54 (mkSt lv_w_FnInstances_J54 x) (cutK lv_w_FnInstances_N54 kn) kx kr := by kernel_rfl
theorem sw_FnInstances_j54 {R : Type} (K : Nat) (C : Cx) (hP : C.P = Tryz.prog) (O : CfgOk C (cf_w_FnInstances K)) (k : Nat) : SgS C (R := R) (mkSeg lv_w_FnInstances_J54 lv_w_FnInstances_N54 (gw_FnInstances_j54 K k)) c_w_FnInstances_J54 :=
  seg_sound O (by rw [hP]; kernel_rfl) (ew_FnInstances_j54 K k) (lpOk_of (en := en_w_FnInstances K k) (S := hasK su_w_FnInstances) (fun i => hasK_lk (sg_w_FnInstances K k) i) _ (by rw [show partsOf (hasK su_w_FnInstances) c_w_FnInstances_J54 = [] from by kernel_rfl]; exact trivial))
theorem ew_FnInstances_j8 {R : Type} (K : Nat) (k : Nat) (x : den lv_w_FnInstances_J8.ty) (kn : den lv_w_FnInstances_N8.ty → Option R) (kx : Nat → St → Option R) (kr : St → Option R) : gw_FnInstances_j8 K k x kn kx kr = evC (cf_w_FnInstances K) (en_w_FnInstances K k) c_w_FnInstances_J8 (mkSt lv_w_FnInstances_J8 x) (cutK lv_w_FnInstances_N8 kn) kx kr := by kernel_rfl
theorem sw_FnInstances_j8 {R : Type} (K : Nat) (C : Cx) (hP : C.P = Tryz.prog) (O : CfgOk C (cf_w_FnInstances K)) (k : Nat) : SgS C (R := R) (mkSeg lv_w_FnInstances_J8 lv_w_FnInstances_N8 (gw_FnInstances_j8 K k)) c_w_FnInstances_J8 :=
  seg_sound O (by rw [hP]; kernel_rfl) (ew_FnInstances_j8 K k) (lpOk_of (en := en_w_FnInstances K k) (S := hasK su_w_FnInstances) (fun i => hasK_lk (sg_w_FnInstances K k) i) _ (by rw [show partsOf (hasK su_w_FnInstances) c_w_FnInstances_J8 = [(false, c_w_FnInstances_J18), (false, c_w_FnInstances_J54)] from by kernel_rfl]; exact (lpL_seg (f := mkSeg lv_w_FnInstances_J18 lv_w_FnInstances_N18 (gw_FnInstances_j18 K k)) (by kernel_rfl) (sw_FnInstances_j18 K C hP O k) (lpL_seg (f := mkSeg lv_w_FnInstances_J54 lv_w_FnInstances_N54 (gw_FnInstances_j54 K k)) (by kernel_rfl) (sw_FnInstances_j54 K C hP O k) trivial))))
theorem e_w_FnInstances (K : Nat) (x : den as_w_FnInstances) : w_FnInstances K x = evFn (cf_w_FnInstances K) as_w_FnInstances [false] .bool (en_w_FnInstances K K) Tryz.f3.results.toList (bodyOf Tryz.f3) x := by kernel_rfl
theorem ok_w_FnInstances (K : Nat) : FnOk Tryz.prog 3 (sp_w_FnInstances (w_FnInstances K)) :=
  fn_ok (cf := cf_w_FnInstances K) (en := en_w_FnInstances K K) (c := bodyOf Tryz.f3) Tryz.func3 (by kernel_rfl) (by kernel_rfl) tysOk (fns_ok (l := [(5, sp_w_big (w_big K)), (7, sp_i_SolutionsOf (i_SolutionsOf K)), (8, sp_s_SolutionsOf (s_SolutionsOf K)), (9, sp_w_likeInts (w_likeInts K)), (10, sp_i_IsInstance (i_IsInstance K)), (11, sp_s_IsInstance (s_IsInstance K)), (12, sp_i_CountSolutions (i_CountSolutions K)), (13, sp_i_EasyClasses (i_EasyClasses K)), (14, sp_i_FlipInstance (i_FlipInstance K)), (15, sp_i_MeetOfSolutions (i_MeetOfSolutions K)), (16, sp_i_LeastSolution (i_LeastSolution K)), (18, sp_s_FlipInstance (s_FlipInstance K)), (20, sp_s_EasyClasses (s_EasyClasses K)), (21, sp_s_DrawEasyRow (s_DrawEasyRow K)), (22, sp_i_EasyRow (i_EasyRow K)), (23, sp_s_EasyRow (s_EasyRow K)), (25, sp_s_LeastSolution (s_LeastSolution K)), (27, sp_s_MeetOfSolutions (s_MeetOfSolutions K)), (29, sp_s_CountSolutions (s_CountSolutions K)), (30, sp_w_instances5 (w_instances5 K))]) ⟨ok_w_big K, ⟨ok_i_SolutionsOf K, ⟨ok_s_SolutionsOf K, ⟨ok_w_likeInts K, ⟨ok_i_IsInstance K, ⟨ok_s_IsInstance K, ⟨ok_i_CountSolutions K, ⟨ok_i_EasyClasses K, ⟨ok_i_FlipInstance K, ⟨ok_i_MeetOfSolutions K, ⟨ok_i_LeastSolution K, ⟨ok_s_FlipInstance K, ⟨ok_s_EasyClasses K, ⟨ok_s_DrawEasyRow K, ⟨ok_i_EasyRow K, ⟨ok_s_EasyRow K, ⟨ok_s_LeastSolution K, ⟨ok_s_MeetOfSolutions K, ⟨ok_s_CountSolutions K, ⟨ok_w_instances5 K, trivial⟩⟩⟩⟩⟩⟩⟩⟩⟩⟩⟩⟩⟩⟩⟩⟩⟩⟩⟩⟩) (shs_ok (l := [(6, sp_s_DrawSolutionsOf (s_DrawSolutionsOf K)), (17, sp_s_DrawFlipInstance (s_DrawFlipInstance K)), (19, sp_s_DrawEasyClasses (s_DrawEasyClasses K)), (24, sp_s_DrawLeastSolution (s_DrawLeastSolution K)), (26, sp_s_DrawMeetOfSolutions (s_DrawMeetOfSolutions K)), (28, sp_s_DrawCountSolutions (s_DrawCountSolutions K))]) ⟨ok_s_DrawSolutionsOf K, ⟨ok_s_DrawFlipInstance K, ⟨ok_s_DrawEasyClasses K, ⟨ok_s_DrawLeastSolution K, ⟨ok_s_DrawMeetOfSolutions K, ⟨ok_s_DrawCountSolutions K, trivial⟩⟩⟩⟩⟩⟩) (by kernel_rfl) rfl (Nat.le_of_ble_eq_true (by kernel_rfl)) (by kernel_rfl) (of_decide_eq_true (by kernel_rfl)) (by decide) (fun C hP O => lpOk_of (en := en_w_FnInstances K K) (S := hasK su_w_FnInstances) (fun i => hasK_lk (sg_w_FnInstances K K) i) _ (by rw [show partsOf (hasK su_w_FnInstances) (bodyOf Tryz.f3) = [(false, c_w_FnInstances_J8)] from by kernel_rfl]; exact (lpL_seg (f := mkSeg lv_w_FnInstances_J8 lv_w_FnInstances_N8 (gw_FnInstances_j8 K K)) (by kernel_rfl) (sw_FnInstances_j8 K C hP O K) trivial))) (fun x y h => by rw [← e_w_FnInstances]; exact h)
end Go.Proofs.YtjbpdhfoeomabaaGreat.E
