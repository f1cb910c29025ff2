/-
  Plain lemmas: what the functions hand back, and that the statement holds of it. Conditions: those of each theorem.
-/
import Derived.Test.YtckkagmccbkfbaaCFnIdentities5
namespace Go.Proofs.Ytckkagmccbkfbaa.E
open Go Go.Proofs Go.Proofs.Ytckkagmccbkfbaa
set_option maxRecDepth 100000
set_option linter.unusedVariables false
noncomputable def as_s_KindCounts : Ty := (.pair (.int .i64) .unit)
noncomputable def sp_s_KindCounts (F : (Int × Unit) → Option ((List Int) × Int × Unit)) : FnSpec := ⟨as_s_KindCounts, [false], (.tup (.pair (.sl (.int .i64)) (.pair (.int .i64) .unit))), F⟩
noncomputable def s_KindCounts_j15 {R : Type} (K : Nat) (k : Nat) (v0 : Int) (v4 : (List Int)) (v5 : Int) (v6 : (Int × Int × Unit)) (kn : Int → (List Int) → Int → Option R)  : Option R :=
    (s_l10Near K (v6, ())).bind fun y12 =>
    (if y12 = true then
    (if (bnds (3 : Int) (v4.length : Int)) = true then
    let x13 := (IntKind.i64.wrap ((v4.getD (3 : Int).toNat (0 : Int)) + (1 : Int)))
    (if (bnds (3 : Int) (v4.length : Int)) = true then
    let l14 := (v4.set (3 : Int).toNat x13)
    kn v0 l14 v5
    else
    none)
    else
    none)
    else
    kn v0 v4 v5)
noncomputable def s_KindCounts_j13 {R : Type} (K : Nat) (k : Nat) (v0 : Int) (v4 : (List Int)) (v5 : Int) (v6 : (Int × Int × Unit)) (v7 : Bool) (v8 : Bool) (kn : Int → (List Int) → Int → Option R)  : Option R :=
    (if v7 = true then
    (if v8 = true then
    (if (bnds (2 : Int) (v4.length : Int)) = true then
    let x10 := (IntKind.i64.wrap ((v4.getD (2 : Int).toNat (0 : Int)) + (1 : Int)))
    (if (bnds (2 : Int) (v4.length : Int)) = true then
    let l11 := (v4.set (2 : Int).toNat x10)
    s_KindCounts_j15 K k v0 l11 v5 v6 (fun z15 z16 z17 =>
    kn z15 z16 z17)
    else
    none)
    else
    none)
    else
    s_KindCounts_j15 K k v0 v4 v5 v6 (fun z18 z19 z20 =>
    kn z18 z19 z20))
    else
    s_KindCounts_j15 K k v0 v4 v5 v6 (fun z21 z22 z23 =>
    kn z21 z22 z23))
noncomputable def s_KindCounts_j11 {R : Type} (K : Nat) (k : Nat) (v0 : Int) (v4 : (List Int)) (v5 : Int) (v6 : (Int × Int × Unit)) (v7 : Bool) (v8 : Bool) (kn : Int → (List Int) → Int → Option R)  : Option R :=
    (if v8 = true then
    (if (bnds (1 : Int) (v4.length : Int)) = true then
    let x8 := (IntKind.i64.wrap ((v4.getD (1 : Int).toNat (0 : Int)) + (1 : Int)))
    (if (bnds (1 : Int) (v4.length : Int)) = true then
    let l9 := (v4.set (1 : Int).toNat x8)
    s_KindCounts_j13 K k v0 l9 v5 v6 v7 v8 (fun z24 z25 z26 =>
    kn z24 z25 z26)
    else
    none)
    else
    none)
    else
    s_KindCounts_j13 K k v0 v4 v5 v6 v7 v8 (fun z27 z28 z29 =>
    kn z27 z28 z29))
noncomputable def s_KindCounts_j6 {R : Type} (K : Nat) (k : Nat) (v0 : Int) (v4 : (List Int)) (v5 : Int) (kn : Int → (List Int) → Int → Option R)  : Option R :=
    kn v0 v4 (IntKind.i64.wrap (v5 + (1 : Int)))
noncomputable def s_KindCounts_l5 {R : Type} (K : Nat) : Nat → Int → (List Int) → Int → ((List Int) → Option R) → Option R
  | 0, _, _, _, _ => none
  | k + 1, v0, v4, v5, kx0 =>
    (s_l01All K (v0, ())).bind fun y3 =>
    (if (decide (v5 ≤ y3)) = true then
    (s_l10Idem K (((v0, ((0 : Int), (0 : Int), ()).2.1, ()).1, v5, ()), ())).bind fun y4 =>
    (s_l10Symmetric K (((v0, ((0 : Int), (0 : Int), ()).2.1, ()).1, v5, ()), ())).bind fun y5 =>
    (if y4 = true then
    (if (bnds (0 : Int) (v4.length : Int)) = true then
    let x6 := (IntKind.i64.wrap ((v4.getD (0 : Int).toNat (0 : Int)) + (1 : Int)))
    (if (bnds (0 : Int) (v4.length : Int)) = true then
    let l7 := (v4.set (0 : Int).toNat x6)
    s_KindCounts_j11 K k v0 l7 v5 ((v0, ((0 : Int), (0 : Int), ()).2.1, ()).1, v5, ()) y4 y5 (fun z30 z31 z32 =>
    s_KindCounts_j6 K k z30 z31 z32 (fun z33 z34 z35 =>
    s_KindCounts_l5 K k z33 z34 z35 kx0))
    else
    none)
    else
    none)
    else
    s_KindCounts_j11 K k v0 v4 v5 ((v0, ((0 : Int), (0 : Int), ()).2.1, ()).1, v5, ()) y4 y5 (fun z36 z37 z38 =>
    s_KindCounts_j6 K k z36 z37 z38 (fun z39 z40 z41 =>
    s_KindCounts_l5 K k z39 z40 z41 kx0)))
    else
    kx0 v4)
noncomputable def s_KindCounts (K : Nat) (x : (Int × Unit)) : Option ((List Int) × Int × Unit) :=
    (s_l01In K (x.1, (0 : Int), (4 : Int), ())).bind fun y1 =>
    (if (!y1) = true then
    some (([] : List Int), (2 : Int), ())
    else
    (if (decide (0 ≤ (4 : Int)) && decide ((4 : Int) ≤ (lim : Int)) && decide ((4 : Int) = (4 : Int))) = true then
    let l2 := (List.replicate (4 : Int).toNat (0 : Int))
    s_KindCounts_l5 K K x.1 l2 (0 : Int) (fun z42 =>
    some (z42, (0 : Int), ()))
    else
    none))
noncomputable def lv_s_KindCounts_J6 : Lv := [(0, (.v (.int .i64))), (4, (.r (.int .i64))), (5, (.v (.int .i64)))]
noncomputable def lv_s_KindCounts_J11 : Lv := [(0, (.v (.int .i64))), (4, (.r (.int .i64))), (5, (.v (.int .i64))), (6, (.bx (.v (.st (.pair (.int .i64) (.pair (.int .i64) .unit)))))), (7, (.v .bool)), (8, (.v .bool))]
noncomputable def lv_s_KindCounts_J13 : Lv := [(0, (.v (.int .i64))), (4, (.r (.int .i64))), (5, (.v (.int .i64))), (6, (.bx (.v (.st (.pair (.int .i64) (.pair (.int .i64) .unit)))))), (7, (.v .bool)), (8, (.v .bool))]
noncomputable def lv_s_KindCounts_J15 : Lv := [(0, (.v (.int .i64))), (4, (.r (.int .i64))), (5, (.v (.int .i64))), (6, (.bx (.v (.st (.pair (.int .i64) (.pair (.int .i64) .unit))))))]
noncomputable def lv_s_KindCounts_L5 : Lv := [(0, (.v (.int .i64))), (4, (.r (.int .i64))), (5, (.v (.int .i64)))]
noncomputable def lv_s_KindCounts_N6 : Lv := [(0, (.v (.int .i64))), (4, (.r (.int .i64))), (5, (.v (.int .i64)))]
noncomputable def lv_s_KindCounts_N11 : Lv := [(0, (.v (.int .i64))), (4, (.r (.int .i64))), (5, (.v (.int .i64)))]
noncomputable def lv_s_KindCounts_N13 : Lv := [(0, (.v (.int .i64))), (4, (.r (.int .i64))), (5, (.v (.int .i64)))]
noncomputable def lv_s_KindCounts_N15 : Lv := [(0, (.v (.int .i64))), (4, (.r (.int .i64))), (5, (.v (.int .i64)))]
noncomputable def lv_s_KindCounts_X0 : Lv := [(4, (.r (.int .i64)))]
noncomputable def rv_s_KindCounts : Lv := [(2, (.r (.int .i64))), (3, (.v (.int .i64)))]
noncomputable def gs_KindCounts_j15 {R : Type} (K : Nat) (k : Nat) (x : den lv_s_KindCounts_J15.ty) (kn : den lv_s_KindCounts_N15.ty → Option R) (kx : Nat → St → Option R) (kr : St → Option R) : Option R := s_KindCounts_j15 K k x.1 x.2.1 x.2.2.1 x.2.2.2.1 (fun z0 z1 z2 => kn (z0, z1, z2, ()))
noncomputable def gs_KindCounts_j13 {R : Type} (K : Nat) (k : Nat) (x : den lv_s_KindCounts_J13.ty) (kn : den lv_s_KindCounts_N13.ty → Option R) (kx : Nat → St → Option R) (kr : St → Option R) : Option R := s_KindCounts_j13 K k x.1 x.2.1 x.2.2.1 x.2.2.2.1 x.2.2.2.2.1 x.2.2.2.2.2.1 (fun z0 z1 z2 => kn (z0, z1, z2, ()))
noncomputable def gs_KindCounts_j11 {R : Type} (K : Nat) (k : Nat) (x : den lv_s_KindCounts_J11.ty) (kn : den lv_s_KindCounts_N11.ty → Option R) (kx : Nat → St → Option R) (kr : St → Option R) : Option R := s_KindCounts_j11 K k x.1 x.2.1 x.2.2.1 x.2.2.2.1 x.2.2.2.2.1 x.2.2.2.2.2.1 (fun z0 z1 z2 => kn (z0, z1, z2, ()))
noncomputable def gs_KindCounts_j6 {R : Type} (K : Nat) (k : Nat) (x : den lv_s_KindCounts_J6.ty) (kn : den lv_s_KindCounts_N6.ty → Option R) (kx : Nat → St → Option R) (kr : St → Option R) : Option R := s_KindCounts_j6 K k x.1 x.2.1 x.2.2.1 (fun z0 z1 z2 => kn (z0, z1, z2, ()))
noncomputable def gs_KindCounts_l5 {R : Type} (K : Nat) (k : Nat) (x : den lv_s_KindCounts_L5.ty) (kx : Nat → St → Option R) (kr : St → Option R) : Option R := s_KindCounts_l5 K k x.1 x.2.1 x.2.2.1 (fun z0 => kx 0 (mkSt lv_s_KindCounts_X0 (z0, ())))
noncomputable def sg_s_KindCounts {R : Type} (K : Nat) (k : Nat) : List (Nat × SegS R) := [(15, mkSeg lv_s_KindCounts_J15 lv_s_KindCounts_N15 (gs_KindCounts_j15 K k)), (13, mkSeg lv_s_KindCounts_J13 lv_s_KindCounts_N13 (gs_KindCounts_j13 K k)), (11, mkSeg lv_s_KindCounts_J11 lv_s_KindCounts_N11 (gs_KindCounts_j11 K k)), (6, mkSeg lv_s_KindCounts_J6 lv_s_KindCounts_N6 (gs_KindCounts_j6 K k))]
noncomputable def su_s_KindCounts : List (Nat × Unit) := [(15, ()), (13, ()), (11, ()), (6, ())]
noncomputable def en_s_KindCounts {R : Type} (K : Nat) (k : Nat) : Env R := { L := lk [(5, mkLoop lv_s_KindCounts_L5 (gs_KindCounts_l5 K k))], X := lk [(0, lv_s_KindCounts_X0)], S := lk (sg_s_KindCounts K k), rv := rv_s_KindCounts }
noncomputable def cf_s_KindCounts (K : Nat) : Cfg := { ty := lk tys, fn := lk [(61, sp_s_l01In (s_l01In K)), (99, sp_s_l10Idem (s_l10Idem K)), (101, sp_s_l10Symmetric (s_l10Symmetric K)), (107, sp_s_l10Near (s_l10Near K)), (111, sp_s_l01All (s_l01All K))], fs := lk [], prot := 0, nt := Try.f46.ntmps }
noncomputable def c_s_KindCounts_L5 : Code := nthC (partsOf (hasK su_s_KindCounts) (bodyOf Try.f46)) 0
noncomputable def c_s_KindCounts_J11 : Code := nthC (partsOf (hasK su_s_KindCounts) c_s_KindCounts_L5) 0
noncomputable def c_s_KindCounts_J13 : Code := nthC (partsOf (hasK su_s_KindCounts) c_s_KindCounts_J11) 0
noncomputable def c_s_KindCounts_J15 : Code := nthC (partsOf (hasK su_s_KindCounts) c_s_KindCounts_J13) 0
noncomputable def c_s_KindCounts_J6 : Code := nthC (partsOf (hasK su_s_KindCounts) c_s_KindCounts_L5) 1
theorem es_KindCounts_j15 {R : Type} (K : Nat) (k : Nat) (x : den lv_s_KindCounts_J15.ty) (kn : den lv_s_KindCounts_N15.ty → Option R) (kx : Nat → St → Option R) (kr : St → Option R) : gs_KindCounts_j15 K k x kn kx kr = evC (cf_s_KindCounts K) (en_s_KindCounts K k) c_s_KindCounts_J15 (mkSt lv_s_KindCounts_J15 x) (cutK lv_s_KindCounts_N15 kn) kx kr := by kernel_rfl
theorem ss_KindCounts_j15 {R : Type} (K : Nat) (C : Cx) (hP : C.P = Try.prog) (O : CfgOk C (cf_s_KindCounts K)) (k : Nat) : SgS C (R := R) (mkSeg lv_s_KindCounts_J15 lv_s_KindCounts_N15 (gs_KindCounts_j15 K k)) c_s_KindCounts_J15 :=
  seg_sound O (by rw [hP]; kernel_rfl) (es_KindCounts_j15 K k) (lpOk_of (en := en_s_KindCounts K k) (S := hasK su_s_KindCounts) (fun i => hasK_lk (sg_s_KindCounts K k) i) _ (by rw [show partsOf (hasK su_s_KindCounts) c_s_KindCounts_J15 = [] from by kernel_rfl]; exact trivial))
theorem es_KindCounts_j13 {R : Type} (K : Nat) (k : Nat) (x : den lv_s_KindCounts_J13.ty) (kn : den lv_s_KindCounts_N13.ty → Option R) (kx : Nat → St → Option R) (kr : St → Option R) : gs_KindCounts_j13 K k x kn kx kr = evC (cf_s_KindCounts K) (en_s_KindCounts K k) c_s_KindCounts_J13 (mkSt lv_s_KindCounts_J13 x) (cutK lv_s_KindCounts_N13 kn) kx kr := by kernel_rfl
theorem ss_KindCounts_j13 {R : Type} (K : Nat) (C : Cx) (hP : C.P = Try.prog) (O : CfgOk C (cf_s_KindCounts K)) (k : Nat) : SgS C (R := R) (mkSeg lv_s_KindCounts_J13 lv_s_KindCounts_N13 (gs_KindCounts_j13 K k)) c_s_KindCounts_J13 :=
  seg_sound O (by rw [hP]; kernel_rfl) (es_KindCounts_j13 K k) (lpOk_of (en := en_s_KindCounts K k) (S := hasK su_s_KindCounts) (fun i => hasK_lk (sg_s_KindCounts K k) i) _ (by rw [show partsOf (hasK su_s_KindCounts) c_s_KindCounts_J13 = [(false, c_s_KindCounts_J15)] from by kernel_rfl]; exact (lpL_seg (f := mkSeg lv_s_KindCounts_J15 lv_s_KindCounts_N15 (gs_KindCounts_j15 K k)) (by kernel_rfl) (ss_KindCounts_j15 K C hP O k) trivial)))
theorem es_KindCounts_j11 {R : Type} (K : Nat) (k : Nat) (x : den lv_s_KindCounts_J11.ty) (kn : den lv_s_KindCounts_N11.ty → Option R) (kx : Nat → St → Option R) (kr : St → Option R) : gs_KindCounts_j11 K k x kn kx kr = evC (cf_s_KindCounts K) (en_s_KindCounts K k) c_s_KindCounts_J11 (mkSt lv_s_KindCounts_J11 x) (cutK lv_s_KindCounts_N11 kn) kx kr := by kernel_rfl
theorem ss_KindCounts_j11 {R : Type} (K : Nat) (C : Cx) (hP : C.P = Try.prog) (O : CfgOk C (cf_s_KindCounts K)) (k : Nat) : SgS C (R := R) (mkSeg lv_s_KindCounts_J11 lv_s_KindCounts_N11 (gs_KindCounts_j11 K k)) c_s_KindCounts_J11 :=
  seg_sound O (by rw [hP]; kernel_rfl) (es_KindCounts_j11 K k) (lpOk_of (en := en_s_KindCounts K k) (S := hasK su_s_KindCounts) (fun i => hasK_lk (sg_s_KindCounts K k) i) _ (by rw [show partsOf (hasK su_s_KindCounts) c_s_KindCounts_J11 = [(false, c_s_KindCounts_J13)] from by kernel_rfl]; exact (lpL_seg (f := mkSeg lv_s_KindCounts_J13 lv_s_KindCounts_N13 (gs_KindCounts_j13 K k)) (by kernel_rfl) (ss_KindCounts_j13 K C hP O k) trivial)))
theorem es_KindCounts_j6 {R : Type} (K : Nat) (k : Nat) (x : den lv_s_KindCounts_J6.ty) (kn : den lv_s_KindCounts_N6.ty → Option R) (kx : Nat → St → Option R) (kr : St → Option R) : gs_KindCounts_j6 K k x kn kx kr = evC (cf_s_KindCounts K) (en_s_KindCounts K k) c_s_KindCounts_J6 (mkSt lv_s_KindCounts_J6 x) (cutK lv_s_KindCounts_N6 kn) kx kr := by kernel_rfl
theorem ss_KindCounts_j6 {R : Type} (K : Nat) (C : Cx) (hP : C.P = Try.prog) (O : CfgOk C (cf_s_KindCounts K)) (k : Nat) : SgS C (R := R) (mkSeg lv_s_KindCounts_J6 lv_s_KindCounts_N6 (gs_KindCounts_j6 K k)) c_s_KindCounts_J6 :=
  seg_sound O (by rw [hP]; kernel_rfl) (es_KindCounts_j6 K k) (lpOk_of (en := en_s_KindCounts K k) (S := hasK su_s_KindCounts) (fun i => hasK_lk (sg_s_KindCounts K k) i) _ (by rw [show partsOf (hasK su_s_KindCounts) c_s_KindCounts_J6 = [] from by kernel_rfl]; exact trivial))
theorem es_KindCounts_l5 {R : Type} (K : Nat) (k : Nat) (x : den lv_s_KindCounts_L5.ty) (kx : Nat → St → Option R) (kr : St → Option R) : gs_KindCounts_l5 K (k + 1) x kx kr = evC (cf_s_KindCounts K) (en_s_KindCounts K k) c_s_KindCounts_L5 (mkSt lv_s_KindCounts_L5 x) (fun s => mkLoop lv_s_KindCounts_L5 (gs_KindCounts_l5 K k) s kx kr) kx kr := by kernel_rfl
theorem ss_KindCounts_l5 {R : Type} (K : Nat) (C : Cx) (hP : C.P = Try.prog) (O : CfgOk C (cf_s_KindCounts K)) (k : Nat) : LpS C (R := R) (mkLoop lv_s_KindCounts_L5 (gs_KindCounts_l5 K k)) c_s_KindCounts_L5 :=
  loop_sound O (by rw [hP]; kernel_rfl) (fun x kx kr => rfl) (es_KindCounts_l5 K) (fun k => lpOk_of (en := en_s_KindCounts K k) (S := hasK su_s_KindCounts) (fun i => hasK_lk (sg_s_KindCounts K k) i) _ (by rw [show partsOf (hasK su_s_KindCounts) c_s_KindCounts_L5 = [(false, c_s_KindCounts_J11), (false, c_s_KindCounts_J6)] from by kernel_rfl]; exact (lpL_seg (f := mkSeg lv_s_KindCounts_J11 lv_s_KindCounts_N11 (gs_KindCounts_j11 K k)) (by kernel_rfl) (ss_KindCounts_j11 K C hP O k) (lpL_seg (f := mkSeg lv_s_KindCounts_J6 lv_s_KindCounts_N6 (gs_KindCounts_j6 K k)) (by kernel_rfl) (ss_KindCounts_j6 K C hP O k) trivial)))) k
theorem e_s_KindCounts (K : Nat) (x : den as_s_KindCounts) : s_KindCounts K x = evFn (cf_s_KindCounts K) as_s_KindCounts [false] (.tup (.pair (.sl (.int .i64)) (.pair (.int .i64) .unit))) (en_s_KindCounts K K) Try.f46.results.toList (bodyOf Try.f46) x := by kernel_rfl
theorem ok_s_KindCounts (K : Nat) : FnOk Try.prog 46 (sp_s_KindCounts (s_KindCounts K)) :=
  fn_ok (cf := cf_s_KindCounts K) (en := en_s_KindCounts K K) (c := bodyOf Try.f46) Try.func46 (by kernel_rfl) (by kernel_rfl) tysOk (fns_ok (l := [(61, sp_s_l01In (s_l01In K)), (99, sp_s_l10Idem (s_l10Idem K)), (101, sp_s_l10Symmetric (s_l10Symmetric K)), (107, sp_s_l10Near (s_l10Near K)), (111, sp_s_l01All (s_l01All K))]) ⟨ok_s_l01In K, ⟨ok_s_l10Idem K, ⟨ok_s_l10Symmetric K, ⟨ok_s_l10Near K, ⟨ok_s_l01All K, trivial⟩⟩⟩⟩⟩) (shs_ok (l := []) trivial) (by kernel_rfl) rfl (Nat.le_of_ble_eq_true (by kernel_rfl)) (by kernel_rfl) (of_decide_eq_true (by kernel_rfl)) (by decide) (fun C hP O => lpOk_of (en := en_s_KindCounts K K) (S := hasK su_s_KindCounts) (fun i => hasK_lk (sg_s_KindCounts K K) i) _ (by rw [show partsOf (hasK su_s_KindCounts) (bodyOf Try.f46) = [(true, c_s_KindCounts_L5)] from by kernel_rfl]; exact (lpL_loop (f := mkLoop lv_s_KindCounts_L5 (gs_KindCounts_l5 K K)) (by kernel_rfl) (ss_KindCounts_l5 K C hP O K) trivial))) (fun x y h => by rw [← e_s_KindCounts]; exact h)
noncomputable def as_w_big : Ty := (.pair (.sl (.int .u8)) .unit)
noncomputable def sp_w_big (F : ((List Int) × Unit) → Option Bool) : FnSpec := ⟨as_w_big, [false], .bool, F⟩
noncomputable def w_big (K : Nat) (x : ((List Int) × Unit)) : Option Bool :=
    some (decide ((x.1.length : Int) > (4096 : Int)))
noncomputable def rv_w_big : Lv := [(2, (.v .bool))]
noncomputable def sg_w_big {R : Type} (K : Nat) (k : Nat) : List (Nat × SegS R) := []
noncomputable def su_w_big : List (Nat × Unit) := []
noncomputable def en_w_big {R : Type} (K : Nat) (k : Nat) : Env R := { L := lk [], X := lk [], S := lk (sg_w_big K k), rv := rv_w_big }
noncomputable def cf_w_big (K : Nat) : Cfg := { ty := lk tys, fn := lk [], fs := lk [], prot := 0, nt := Try.f31.ntmps }
theorem e_w_big (K : Nat) (x : den as_w_big) : w_big K x = evFn (cf_w_big K) as_w_big [false] .bool (en_w_big K K) Try.f31.results.toList (bodyOf Try.f31) x := by kernel_rfl
theorem ok_w_big (K : Nat) : FnOk Try.prog 31 (sp_w_big (w_big K)) :=
  fn_ok (cf := cf_w_big K) (en := en_w_big K K) (c := bodyOf Try.f31) Try.func31 (by kernel_rfl) (by kernel_rfl) tysOk (fns_ok (l := []) trivial) (shs_ok (l := []) trivial) (by kernel_rfl) rfl (Nat.le_of_ble_eq_true (by kernel_rfl)) (by kernel_rfl) (of_decide_eq_true (by kernel_rfl)) (by decide) (fun C hP O => lpOk_of (en := en_w_big K K) (S := hasK su_w_big) (fun i => hasK_lk (sg_w_big K K) i) _ (by rw [show partsOf (hasK su_w_big) (bodyOf Try.f31) = [] from by kernel_rfl]; exact trivial)) (fun x y h => by rw [← e_w_big]; exact h)
noncomputable def as_w_likeInts : Ty := (.pair (.sl (.int .i64)) (.pair (.sl (.int .i64)) .unit))
noncomputable def sp_w_likeInts (F : ((List Int) × (List Int) × Unit) → Option Bool) : FnSpec := ⟨as_w_likeInts, [false, false], .bool, F⟩
noncomputable def w_likeInts_l4 {R : Type} (K : Nat) : Nat → (List Int) → (List Int) → Int → (Option R) → (Bool → Option R) → Option R
  | 0, _, _, _, _, _ => none
  | k + 1, v0, v1, v5, kx0, kr =>
    (if (decide (v5 < (v0.length : Int))) = true then
    (if (bnds v5 (v0.length : Int)) = true then
    (if (bnds v5 (v1.length : Int)) = true then
    let x1 := (!decide ((v0.getD v5.toNat (0 : Int)) = (v1.getD v5.toNat (0 : Int))))
    (if x1 = true then
    kr false
    else
    w_likeInts_l4 K k v0 v1 (IntKind.i64.wrap (v5 + (1 : Int))) kx0 kr)
    else
    none)
    else
    none)
    else
    kx0)
noncomputable def w_likeInts (K : Nat) (x : ((List Int) × (List Int) × Unit)) : Option Bool :=
    (if (!decide ((x.1.length : Int) = (x.2.1.length : Int))) = true then
    some false
    else
    w_likeInts_l4 K K x.1 x.2.1 (0 : Int) (some true) (fun z2 =>
    some z2))
noncomputable def lv_w_likeInts_L4 : Lv := [(0, (.v (.sl (.int .i64)))), (1, (.v (.sl (.int .i64)))), (5, (.v (.int .i64)))]
noncomputable def lv_w_likeInts_X0 : Lv := []
noncomputable def rv_w_likeInts : Lv := [(4, (.v .bool))]
noncomputable def gw_likeInts_l4 {R : Type} (K : Nat) (k : Nat) (x : den lv_w_likeInts_L4.ty) (kx : Nat → St → Option R) (kr : St → Option R) : Option R := w_likeInts_l4 K k x.1 x.2.1 x.2.2.1 (kx 0 (mkSt lv_w_likeInts_X0 ())) (fun z0 => kr (mkSt rv_w_likeInts (z0, ())))
noncomputable def sg_w_likeInts {R : Type} (K : Nat) (k : Nat) : List (Nat × SegS R) := []
noncomputable def su_w_likeInts : List (Nat × Unit) := []
noncomputable def en_w_likeInts {R : Type} (K : Nat) (k : Nat) : Env R := { L := lk [(4, mkLoop lv_w_likeInts_L4 (gw_likeInts_l4 K k))], X := lk [(0, lv_w_likeInts_X0)], S := lk (sg_w_likeInts K k), rv := rv_w_likeInts }
noncomputable def cf_w_likeInts (K : Nat) : Cfg := { ty := lk tys, fn := lk [], fs := lk [], prot := 0, nt := Try.f47.ntmps }
noncomputable def c_w_likeInts_L4 : Code := nthC (partsOf (hasK su_w_likeInts) (bodyOf Try.f47)) 0
theorem ew_likeInts_l4 {R : Type} (K : Nat) (k : Nat) (x : den lv_w_likeInts_L4.ty) (kx : Nat → St → Option R) (kr : St → Option R) : gw_likeInts_l4 K (k + 1) x kx kr = evC (cf_w_likeInts K) (en_w_likeInts K k) c_w_likeInts_L4 (mkSt lv_w_likeInts_L4 x) (fun s => mkLoop lv_w_likeInts_L4 (gw_likeInts_l4 K k) s kx kr) kx kr := by kernel_rfl
theorem sw_likeInts_l4 {R : Type} (K : Nat) (C : Cx) (hP : C.P = Try.prog) (O : CfgOk C (cf_w_likeInts K)) (k : Nat) : LpS C (R := R) (mkLoop lv_w_likeInts_L4 (gw_likeInts_l4 K k)) c_w_likeInts_L4 :=
  loop_sound O (by rw [hP]; kernel_rfl) (fun x kx kr => rfl) (ew_likeInts_l4 K) (fun k => lpOk_of (en := en_w_likeInts K k) (S := hasK su_w_likeInts) (fun i => hasK_lk (sg_w_likeInts K k) i) _ (by rw [show partsOf (hasK su_w_likeInts) c_w_likeInts_L4 = [] from by kernel_rfl]; exact trivial)) k
theorem e_w_likeInts (K : Nat) (x : den as_w_likeInts) : w_likeInts K x = evFn (cf_w_likeInts K) as_w_likeInts [false, false] .bool (en_w_likeInts K K) Try.f47.results.toList (bodyOf Try.f47) x := by kernel_rfl
theorem ok_w_likeInts (K : Nat) : FnOk Try.prog 47 (sp_w_likeInts (w_likeInts K)) :=
  fn_ok (cf := cf_w_likeInts K) (en := en_w_likeInts K K) (c := bodyOf Try.f47) Try.func47 (by kernel_rfl) (by kernel_rfl) tysOk (fns_ok (l := []) trivial) (shs_ok (l := []) trivial) (by kernel_rfl) rfl (Nat.le_of_ble_eq_true (by kernel_rfl)) (by kernel_rfl) (of_decide_eq_true (by kernel_rfl)) (by decide) (fun C hP O => lpOk_of (en := en_w_likeInts K K) (S := hasK su_w_likeInts) (fun i => hasK_lk (sg_w_likeInts K K) i) _ (by rw [show partsOf (hasK su_w_likeInts) (bodyOf Try.f47) = [(true, c_w_likeInts_L4)] from by kernel_rfl]; exact (lpL_loop (f := mkLoop lv_w_likeInts_L4 (gw_likeInts_l4 K K)) (by kernel_rfl) (sw_likeInts_l4 K C hP O K) trivial))) (fun x y h => by rw [← e_w_likeInts]; exact h)
noncomputable def as_w_FnIdentities : Ty := (.pair (.sl (.int .u8)) .unit)
noncomputable def sp_w_FnIdentities (F : ((List Int) × Unit) → Option Bool) : FnSpec := ⟨as_w_FnIdentities, [false], .bool, F⟩
noncomputable def w_FnIdentities_j36 {R : Type} (K : Nat) (k : Nat) (v3 : (Int × Int × Unit)) (v5 : Bool) (v6 : Int) (kn : Option R) (kr : (Bool → Option R)) : Option R :=
    (if (!decide (v6 = (0 : Int))) = true then
    kr (!v5)
    else
    (i_IsIdempotent K (v3, ())).bind fun y22 =>
    (if (decide (y22.2.1 = (0 : Int))) = true then
    (if (!v5) = true then
    kr true
    else
    kr y22.1)
    else
    kr false))
noncomputable def w_FnIdentities_j32 {R : Type} (K : Nat) (k : Nat) (v3 : (Int × Int × Unit)) (v5 : Bool) (v6 : Int) (v9 : (Int × Int × Unit)) (v10 : Bool) (v11 : Int) (v14 : Bool) (v18 : Bool) (v22 : Bool) (kn : Option R) (kr : (Bool → Option R)) : Option R :=
    (if (decide (v11 = (0 : Int))) = true then
    (i_IsOfKind K (v9, (0 : Int), ())).bind fun y21 =>
    (if (!decide (y21.2.1 = (0 : Int))) = true then
    kr false
    else
    (if (decide (v9.1 = (3 : Int))) = true then
    (if (!(v22 == y21.1)) = true then
    kr false
    else
    (if v18 = true then
    (if (!v10) = true then
    kr false
    else
    (if (!v14) = true then
    kr false
    else
    (if v22 = true then
    (if (!v10) = true then
    kr false
    else
    w_FnIdentities_j36 K k v3 v5 v6 none (fun z23 =>
    kr z23))
    else
    w_FnIdentities_j36 K k v3 v5 v6 none (fun z24 =>
    kr z24))))
    else
    (if v22 = true then
    (if (!v10) = true then
    kr false
    else
    w_FnIdentities_j36 K k v3 v5 v6 none (fun z25 =>
    kr z25))
    else
    w_FnIdentities_j36 K k v3 v5 v6 none (fun z26 =>
    kr z26))))
    else
    (if v18 = true then
    (if (!v10) = true then
    kr false
    else
    (if (!v14) = true then
    kr false
    else
    (if v22 = true then
    (if (!v10) = true then
    kr false
    else
    w_FnIdentities_j36 K k v3 v5 v6 none (fun z27 =>
    kr z27))
    else
    w_FnIdentities_j36 K k v3 v5 v6 none (fun z28 =>
    kr z28))))
    else
    (if v22 = true then
    (if (!v10) = true then
    kr false
    else
    w_FnIdentities_j36 K k v3 v5 v6 none (fun z29 =>
    kr z29))
    else
    w_FnIdentities_j36 K k v3 v5 v6 none (fun z30 =>
    kr z30)))))
    else
    w_FnIdentities_j36 K k v3 v5 v6 none (fun z31 =>
    kr z31))
noncomputable def w_FnIdentities_j30 {R : Type} (K : Nat) (k : Nat) (v3 : (Int × Int × Unit)) (v5 : Bool) (v6 : Int) (v9 : (Int × Int × Unit)) (v10 : Bool) (v11 : Int) (v14 : Bool) (v18 : Bool) (v22 : Bool) (v26 : Int) (v27 : (List Int)) (v28 : Int) (kn : Option R) (kr : (Bool → Option R)) : Option R :=
    (if (decide (v28 = (0 : Int))) = true then
    (if (bnds (1 : Int) (v27.length : Int)) = true then
    (if (decide ((0 : Int) ≤ (IntKind.u64.wrap (IntKind.i64.wrap (v26 + (1 : Int)))))) = true then
    let x18 := (shlI .i64 (1 : Int) (IntKind.u64.wrap (IntKind.i64.wrap (v26 + (1 : Int)))))
    (if (!decide ((v27.getD (1 : Int).toNat (0 : Int)) = x18)) = true then
    kr false
    else
    (if (bnds (2 : Int) (v27.length : Int)) = true then
    (if (bnds (0 : Int) (v27.length : Int)) = true then
    let x19 := (decide ((v27.getD (2 : Int).toNat (0 : Int)) > (v27.getD (0 : Int).toNat (0 : Int))))
    (if x19 = true then
    kr false
    else
    (if (bnds (2 : Int) (v27.length : Int)) = true then
    (if (bnds (1 : Int) (v27.length : Int)) = true then
    let x20 := (decide ((v27.getD (2 : Int).toNat (0 : Int)) > (v27.getD (1 : Int).toNat (0 : Int))))
    (if x20 = true then
    kr false
    else
    w_FnIdentities_j32 K k v3 v5 v6 v9 v10 v11 v14 v18 v22 none (fun z32 =>
    kr z32))
    else
    none)
    else
    none))
    else
    none)
    else
    none))
    else
    none)
    else
    none)
    else
    w_FnIdentities_j32 K k v3 v5 v6 v9 v10 v11 v14 v18 v22 none (fun z33 =>
    kr z33))
noncomputable def w_FnIdentities_j25 {R : Type} (K : Nat) (k : Nat) (v0 : (List Int)) (v3 : (Int × Int × Unit)) (v5 : Bool) (v6 : Int) (v9 : (Int × Int × Unit)) (v10 : Bool) (v11 : Int) (v14 : Bool) (v18 : Bool) (v22 : Bool) (kn : Option R) (kr : (Bool → Option R)) : Option R :=
    (s_DrawKindCounts K (v0, ())).bind fun y14 =>
    (i_KindCounts K (y14, ())).bind fun y15 =>
    (s_KindCounts K (y14, ())).bind fun y16 =>
    (if (!decide (y15.2.1 = y16.2.1)) = true then
    kr false
    else
    (w_likeInts K (y15.1, y16.1, ())).bind fun y17 =>
    (if (!y17) = true then
    kr false
    else
    w_FnIdentities_j30 K k v3 v5 v6 v9 v10 v11 v14 v18 v22 y14 y15.1 y15.2.1 none (fun z34 =>
    kr z34)))
noncomputable def w_FnIdentities_j21 {R : Type} (K : Nat) (k : Nat) (v0 : (List Int)) (v3 : (Int × Int × Unit)) (v5 : Bool) (v6 : Int) (v9 : (Int × Int × Unit)) (v10 : Bool) (v11 : Int) (v14 : Bool) (v18 : Bool) (kn : Option R) (kr : (Bool → Option R)) : Option R :=
    (i_HasNearUnanimity K (v9, ())).bind fun y12 =>
    (s_HasNearUnanimity K (v9, ())).bind fun y13 =>
    (if (!decide (y12.2.1 = y13.2.1)) = true then
    kr false
    else
    (if (!(y12.1 == y13.1)) = true then
    kr false
    else
    w_FnIdentities_j25 K k v0 v3 v5 v6 v9 v10 v11 v14 v18 y12.1 none (fun z35 =>
    kr z35)))
noncomputable def w_FnIdentities_j17 {R : Type} (K : Nat) (k : Nat) (v0 : (List Int)) (v3 : (Int × Int × Unit)) (v5 : Bool) (v6 : Int) (v9 : (Int × Int × Unit)) (v10 : Bool) (v11 : Int) (v14 : Bool) (kn : Option R) (kr : (Bool → Option R)) : Option R :=
    (i_IsSemilattice K (v9, ())).bind fun y10 =>
    (s_IsSemilattice K (v9, ())).bind fun y11 =>
    (if (!decide (y10.2.1 = y11.2.1)) = true then
    kr false
    else
    (if (!(y10.1 == y11.1)) = true then
    kr false
    else
    w_FnIdentities_j21 K k v0 v3 v5 v6 v9 v10 v11 v14 y10.1 none (fun z36 =>
    kr z36)))
noncomputable def w_FnIdentities_j13 {R : Type} (K : Nat) (k : Nat) (v0 : (List Int)) (v3 : (Int × Int × Unit)) (v5 : Bool) (v6 : Int) (v9 : (Int × Int × Unit)) (v10 : Bool) (v11 : Int) (kn : Option R) (kr : (Bool → Option R)) : Option R :=
    (i_IsSymmetric K (v9, ())).bind fun y8 =>
    (s_IsSymmetric K (v9, ())).bind fun y9 =>
    (if (!decide (y8.2.1 = y9.2.1)) = true then
    kr false
    else
    (if (!(y8.1 == y9.1)) = true then
    kr false
    else
    w_FnIdentities_j17 K k v0 v3 v5 v6 v9 v10 v11 y8.1 none (fun z37 =>
    kr z37)))
noncomputable def w_FnIdentities_j8 {R : Type} (K : Nat) (k : Nat) (v0 : (List Int)) (v3 : (Int × Int × Unit)) (v5 : Bool) (v6 : Int) (kn : Option R) (kr : (Bool → Option R)) : Option R :=
    (s_DrawIsIdempotent K (v0, ())).bind fun y5 =>
    (i_IsIdempotent K (y5, ())).bind fun y6 =>
    (s_IsIdempotent K (y5, ())).bind fun y7 =>
    (if (!decide (y6.2.1 = y7.2.1)) = true then
    kr false
    else
    (if (!(y6.1 == y7.1)) = true then
    kr false
    else
    w_FnIdentities_j13 K k v0 v3 v5 v6 y5 y6.1 y6.2.1 none (fun z38 =>
    kr z38)))
noncomputable def w_FnIdentities (K : Nat) (x : ((List Int) × Unit)) : Option Bool :=
    (w_big K (x.1, ())).bind fun y1 =>
    (if y1 = true then
    some true
    else
    (s_DrawIsOfKind K (x.1, ())).bind fun y2 =>
    (i_IsOfKind K (y2.1, y2.2.1, ())).bind fun y3 =>
    (s_IsOfKind K (y2.1, y2.2.1, ())).bind fun y4 =>
    (if (!decide (y3.2.1 = y4.2.1)) = true then
    some false
    else
    (if (!(y3.1 == y4.1)) = true then
    some false
    else
    w_FnIdentities_j8 K K x.1 y2.1 y3.1 y3.2.1 none (fun z39 =>
    some z39))))
noncomputable def lv_w_FnIdentities_J8 : Lv := [(0, (.v (.sl (.int .u8)))), (3, (.bx (.v (.st (.pair (.int .i64) (.pair (.int .i64) .unit)))))), (5, (.v .bool)), (6, (.v (.int .i64)))]
noncomputable def lv_w_FnIdentities_J13 : Lv := [(0, (.v (.sl (.int .u8)))), (3, (.bx (.v (.st (.pair (.int .i64) (.pair (.int .i64) .unit)))))), (5, (.v .bool)), (6, (.v (.int .i64))), (9, (.bx (.v (.st (.pair (.int .i64) (.pair (.int .i64) .unit)))))), (10, (.v .bool)), (11, (.v (.int .i64)))]
noncomputable def lv_w_FnIdentities_J17 : Lv := [(0, (.v (.sl (.int .u8)))), (3, (.bx (.v (.st (.pair (.int .i64) (.pair (.int .i64) .unit)))))), (5, (.v .bool)), (6, (.v (.int .i64))), (9, (.bx (.v (.st (.pair (.int .i64) (.pair (.int .i64) .unit)))))), (10, (.v .bool)), (11, (.v (.int .i64))), (14, (.v .bool))]
noncomputable def lv_w_FnIdentities_J21 : Lv := [(0, (.v (.sl (.int .u8)))), (3, (.bx (.v (.st (.pair (.int .i64) (.pair (.int .i64) .unit)))))), (5, (.v .bool)), (6, (.v (.int .i64))), (9, (.bx (.v (.st (.pair (.int .i64) (.pair (.int .i64) .unit)))))), (10, (.v .bool)), (11, (.v (.int .i64))), (14, (.v .bool)), (18, (.v .bool))]
noncomputable def lv_w_FnIdentities_J25 : Lv := [(0, (.v (.sl (.int .u8)))), (3, (.bx (.v (.st (.pair (.int .i64) (.pair (.int .i64) .unit)))))), (5, (.v .bool)), (6, (.v (.int .i64))), (9, (.bx (.v (.st (.pair (.int .i64) (.pair (.int .i64) .unit)))))), (10, (.v .bool)), (11, (.v (.int .i64))), (14, (.v .bool)), (18, (.v .bool)), (22, (.v .bool))]
noncomputable def lv_w_FnIdentities_J30 : Lv := [(3, (.bx (.v (.st (.pair (.int .i64) (.pair (.int .i64) .unit)))))), (5, (.v .bool)), (6, (.v (.int .i64))), (9, (.bx (.v (.st (.pair (.int .i64) (.pair (.int .i64) .unit)))))), (10, (.v .bool)), (11, (.v (.int .i64))), (14, (.v .bool)), (18, (.v .bool)), (22, (.v .bool)), (26, (.v (.int .i64))), (27, (.r (.int .i64))), (28, (.v (.int .i64)))]
noncomputable def lv_w_FnIdentities_J32 : Lv := [(3, (.bx (.v (.st (.pair (.int .i64) (.pair (.int .i64) .unit)))))), (5, (.v .bool)), (6, (.v (.int .i64))), (9, (.bx (.v (.st (.pair (.int .i64) (.pair (.int .i64) .unit)))))), (10, (.v .bool)), (11, (.v (.int .i64))), (14, (.v .bool)), (18, (.v .bool)), (22, (.v .bool))]
noncomputable def lv_w_FnIdentities_J36 : Lv := [(3, (.bx (.v (.st (.pair (.int .i64) (.pair (.int .i64) .unit)))))), (5, (.v .bool)), (6, (.v (.int .i64)))]
noncomputable def lv_w_FnIdentities_N8 : Lv := []
noncomputable def lv_w_FnIdentities_N13 : Lv := []
noncomputable def lv_w_FnIdentities_N17 : Lv := []
noncomputable def lv_w_FnIdentities_N21 : Lv := []
noncomputable def lv_w_FnIdentities_N25 : Lv := []
noncomputable def lv_w_FnIdentities_N30 : Lv := []
noncomputable def lv_w_FnIdentities_N32 : Lv := []
noncomputable def lv_w_FnIdentities_N36 : Lv := []
noncomputable def rv_w_FnIdentities : Lv := [(2, (.v .bool))]
noncomputable def gw_FnIdentities_j36 {R : Type} (K : Nat) (k : Nat) (x : den lv_w_FnIdentities_J36.ty) (kn : den lv_w_FnIdentities_N36.ty → Option R) (kx : Nat → St → Option R) (kr : St → Option R) : Option R := w_FnIdentities_j36 K k x.1 x.2.1 x.2.2.1 (kn ()) (fun z0 => kr (mkSt rv_w_FnIdentities (z0, ())))
noncomputable def gw_FnIdentities_j32 {R : Type} (K : Nat) (k : Nat) (x : den lv_w_FnIdentities_J32.ty) (kn : den lv_w_FnIdentities_N32.ty → Option R) (kx : Nat → St → Option R) (kr : St → Option R) : Option R := w_FnIdentities_j32 K k x.1 x.2.1 x.2.2.1 x.2.2.2.1 x.2.2.2.2.1 x.2.2.2.2.2.1 x.2.2.2.2.2.2.1 x.2.2.2.2.2.2.2.1 x.2.2.2.2.2.2.2.2.1 (kn ()) (fun z0 => kr (mkSt rv_w_FnIdentities (z0, ())))
noncomputable def gw_FnIdentities_j30 {R : Type} (K : Nat) (k : Nat) (x : den lv_w_FnIdentities_J30.ty) (kn : den lv_w_FnIdentities_N30.ty → Option R) (kx : Nat → St → Option R) (kr : St → Option R) : Option R := w_FnIdentities_j30 K k x.1 x.2.1 x.2.2.1 x.2.2.2.1 x.2.2.2.2.1 x.2.2.2.2.2.1 x.2.2.2.2.2.2.1 x.2.2.2.2.2.2.2.1 x.2.2.2.2.2.2.2.2.1 x.2.2.2.2.2.2.2.2.2.1 x.2.2.2.2.2.2.2.2.2.2.1 x.2.2.2.2.2.2.2.2.2.2.2.1 (kn ()) (fun z0 => kr (mkSt rv_w_FnIdentities (z0, ())))
noncomputable def gw_FnIdentities_j25 {R : Type} (K : Nat) (k : Nat) (x : den lv_w_FnIdentities_J25.ty) (kn : den lv_w_FnIdentities_N25.ty → Option R) (kx : Nat → St → Option R) (kr : St → Option R) : Option R := w_FnIdentities_j25 K k x.1 x.2.1 x.2.2.1 x.2.2.2.1 x.2.2.2.2.1 x.2.2.2.2.2.1 x.2.2.2.2.2.2.1 x.2.2.2.2.2.2.2.1 x.2.2.2.2.2.2.2.2.1 x.2.2.2.2.2.2.2.2.2.1 (kn ()) (fun z0 => kr (mkSt rv_w_FnIdentities (z0, ())))
noncomputable def gw_FnIdentities_j21 {R : Type} (K : Nat) (k : Nat) (x : den lv_w_FnIdentities_J21.ty) (kn : den lv_w_FnIdentities_N21.ty → Option R) (kx : Nat → St → Option R) (kr : St → Option R) : Option R := w_FnIdentities_j21 K k x.1 x.2.1 x.2.2.1 x.2.2.2.1 x.2.2.2.2.1 x.2.2.2.2.2.1 x.2.2.2.2.2.2.1 x.2.2.2.2.2.2.2.1 x.2.2.2.2.2.2.2.2.1 (kn ()) (fun z0 => kr (mkSt rv_w_FnIdentities (z0, ())))
noncomputable def gw_FnIdentities_j17 {R : Type} (K : Nat) (k : Nat) (x : den lv_w_FnIdentities_J17.ty) (kn : den lv_w_FnIdentities_N17.ty → Option R) (kx : Nat → St → Option R) (kr : St → Option R) : Option R := w_FnIdentities_j17 K k x.1 x.2.1 x.2.2.1 x.2.2.2.1 x.2.2.2.2.1 x.2.2.2.2.2.1 x.2.2.2.2.2.2.1 x.2.2.2.2.2.2.2.1 (kn ()) (fun z0 => kr (mkSt rv_w_FnIdentities (z0, ())))
noncomputable def gw_FnIdentities_j13 {R : Type} (K : Nat) (k : Nat) (x : den lv_w_FnIdentities_J13.ty) (kn : den lv_w_FnIdentities_N13.ty → Option R) (kx : Nat → St → Option R) (kr : St → Option R) : Option R := w_FnIdentities_j13 K k x.1 x.2.1 x.2.2.1 x.2.2.2.1 x.2.2.2.2.1 x.2.2.2.2.2.1 x.2.2.2.2.2.2.1 (kn ()) (fun z0 => kr (mkSt rv_w_FnIdentities (z0, ())))
noncomputable def gw_FnIdentities_j8 {R : Type} (K : Nat) (k : Nat) (x : den lv_w_FnIdentities_J8.ty) (kn : den lv_w_FnIdentities_N8.ty → Option R) (kx : Nat → St → Option R) (kr : St → Option R) : Option R := w_FnIdentities_j8 K k x.1 x.2.1 x.2.2.1 x.2.2.2.1 (kn ()) (fun z0 => kr (mkSt rv_w_FnIdentities (z0, ())))
noncomputable def sg_w_FnIdentities {R : Type} (K : Nat) (k : Nat) : List (Nat × SegS R) := [(36, mkSeg lv_w_FnIdentities_J36 lv_w_FnIdentities_N36 (gw_FnIdentities_j36 K k)), (32, mkSeg lv_w_FnIdentities_J32 lv_w_FnIdentities_N32 (gw_FnIdentities_j32 K k)), (30, mkSeg lv_w_FnIdentities_J30 lv_w_FnIdentities_N30 (gw_FnIdentities_j30 K k)), (25, mkSeg lv_w_FnIdentities_J25 lv_w_FnIdentities_N25 (gw_FnIdentities_j25 K k)), (21, mkSeg lv_w_FnIdentities_J21 lv_w_FnIdentities_N21 (gw_FnIdentities_j21 K k)), (17, mkSeg lv_w_FnIdentities_J17 lv_w_FnIdentities_N17 (gw_FnIdentities_j17 K k)), (13, mkSeg lv_w_FnIdentities_J13 lv_w_FnIdentities_N13 (gw_FnIdentities_j13 K k)), (8, mkSeg lv_w_FnIdentities_J8 lv_w_FnIdentities_N8 (gw_FnIdentities_j8 K k))]
noncomputable def su_w_FnIdentities : List (Nat × Unit) := [(36, ()), (32, ()), (30, ()), (25, ()), (21, ()), (17, ()), (13, ()), (8, ())]
noncomputable def en_w_FnIdentities {R : Type} (K : Nat) (k : Nat) : Env R := { L := lk [], X := lk [], S := lk (sg_w_FnIdentities K k), rv := rv_w_FnIdentities }
noncomputable def cf_w_FnIdentities (K : Nat) : Cfg := { ty := lk tys, fn := lk [(31, sp_w_big (w_big K)), (32, sp_s_DrawIsOfKind (s_DrawIsOfKind K)), (33, sp_i_IsOfKind (i_IsOfKind K)), (34, sp_s_IsOfKind (s_IsOfKind K)), (35, sp_s_DrawIsIdempotent (s_DrawIsIdempotent K)), (36, sp_i_IsIdempotent (i_IsIdempotent K)), (37, sp_s_IsIdempotent (s_IsIdempotent K)), (38, sp_i_IsSymmetric (i_IsSymmetric K)), (39, sp_s_IsSymmetric (s_IsSymmetric K)), (40, sp_i_IsSemilattice (i_IsSemilattice K)), (41, sp_s_IsSemilattice (s_IsSemilattice K)), (42, sp_i_HasNearUnanimity (i_HasNearUnanimity K)), (43, sp_s_HasNearUnanimity (s_HasNearUnanimity K)), (44, sp_s_DrawKindCounts (s_DrawKindCounts K)), (45, sp_i_KindCounts (i_KindCounts K)), (46, sp_s_KindCounts (s_KindCounts K)), (47, sp_w_likeInts (w_likeInts K))], fs := lk [], prot := 0, nt := Try.f7.ntmps }
noncomputable def c_w_FnIdentities_J8 : Code := nthC (partsOf (hasK su_w_FnIdentities) (bodyOf Try.f7)) 0
noncomputable def c_w_FnIdentities_J13 : Code := nthC (partsOf (hasK su_w_FnIdentities) c_w_FnIdentities_J8) 0
noncomputable def c_w_FnIdentities_J17 : Code := nthC (partsOf (hasK su_w_FnIdentities) c_w_FnIdentities_J13) 0
noncomputable def c_w_FnIdentities_J21 : Code := nthC (partsOf (hasK su_w_FnIdentities) c_w_FnIdentities_J17) 0
noncomputable def c_w_FnIdentities_J25 : Code := nthC (partsOf (hasK su_w_FnIdentities) c_w_FnIdentities_J21) 0
noncomputable def c_w_FnIdentities_J30 : Code := nthC (partsOf (hasK su_w_FnIdentities) c_w_FnIdentities_J25) 0
noncomputable def c_w_FnIdentities_J32 : Code := nthC (partsOf (hasK su_w_FnIdentities) c_w_FnIdentities_J30) 0
noncomputable def c_w_FnIdentities_J36 : Code := nthC (partsOf (hasK su_w_FnIdentities) c_w_FnIdentities_J32) 0
theorem ew_FnIdentities_j36 {R : Type} (K : Nat) (k : Nat) (x : den lv_w_FnIdentities_J36.ty) (kn : den lv_w_FnIdentities_N36.ty → Option R) (kx : Nat → St → Option R) (kr : St → Option R) : gw_FnIdentities_j36 K k x kn kx kr = evC (cf_w_FnIdentities K) (en_w_FnIdentities K k) c_w_FnIdentities_J36 (mkSt lv_w_FnIdentities_J36 x) (cutK lv_w_FnIdentities_N36 kn) kx kr := by kernel_rfl
theorem sw_FnIdentities_j36 {R : Type} (K : Nat) (C : Cx) (hP : C.P = Try.prog) (O : CfgOk C (cf_w_FnIdentities K)) (k : Nat) : SgS C (R := R) (mkSeg lv_w_FnIdentities_J36 lv_w_FnIdentities_N36 (gw_FnIdentities_j36 K k)) c_w_FnIdentities_J36 :=
  seg_sound O (by rw [hP]; kernel_rfl) (ew_FnIdentities_j36 K k) (lpOk_of (en := en_w_FnIdentities K k) (S := hasK su_w_FnIdentities) (fun i => hasK_lk (sg_w_FnIdentities K k) i) _ (by rw [show partsOf (hasK su_w_FnIdentities) c_w_FnIdentities_J36 = [] from by kernel_rfl]; exact trivial))
theorem ew_FnIdentities_j32 {R : Type} (K : Nat) (k : Nat) (x : den lv_w_FnIdentities_J32.ty) (kn : den lv_w_FnIdentities_N32.ty → Option R) (kx : Nat → St → Option R) (kr : St → Option R) : gw_FnIdentities_j32 K k x kn kx kr = evC (cf_w_FnIdentities K) (en_w_FnIdentities K k) c_w_FnIdentities_J32 (mkSt lv_w_FnIdentities_J32 x) (cutK lv_w_FnIdentities_N32 kn) kx kr := by kernel_rfl
theorem sw_FnIdentities_j32 {R : Type} (K : Nat) (C : Cx) (hP : C.P = Try.prog) (O : CfgOk C (cf_w_FnIdentities K)) (k : Nat) : SgS C (R := R) (mkSeg lv_w_FnIdentities_J32 lv_w_FnIdentities_N32 (gw_FnIdentities_j32 K k)) c_w_FnIdentities_J32 :=
  seg_sound O (by rw [hP]; kernel_rfl) (ew_FnIdentities_j32 K k) (lpOk_of (en := en_w_FnIdentities K k) (S := hasK su_w_FnIdentities) (fun i => hasK_lk (sg_w_FnIdentities K k) i) _ (by rw [show partsOf (hasK su_w_FnIdentities) c_w_FnIdentities_J32 = [(false, c_w_FnIdentities_J36)] from by kernel_rfl]; exact (lpL_seg (f := mkSeg lv_w_FnIdentities_J36 lv_w_FnIdentities_N36 (gw_FnIdentities_j36 K k)) (by kernel_rfl) (sw_FnIdentities_j36 K C hP O k) trivial)))
theorem ew_FnIdentities_j30 {R : Type} (K : Nat) (k : Nat) (x : den lv_w_FnIdentities_J30.ty) (kn : den lv_w_FnIdentities_N30.ty → Option R) (kx : Nat → St → Option R) (kr : St → Option R) : gw_FnIdentities_j30 K k x kn kx kr = evC (cf_w_FnIdentities K) (en_w_FnIdentities K k) c_w_FnIdentities_J30 (mkSt lv_w_FnIdentities_J30 x) (cutK lv_w_FnIdentities_N30 kn) kx kr := by kernel_rfl
theorem sw_FnIdentities_j30 {R : Type} (K : Nat) (C : Cx) (hP : C.P = Try.prog) (O : CfgOk C (cf_w_FnIdentities K)) (k : Nat) : SgS C (R := R) (mkSeg lv_w_FnIdentities_J30 lv_w_FnIdentities_N30 (gw_FnIdentities_j30 K k)) c_w_FnIdentities_J30 :=
  seg_sound O (by rw [hP]; kernel_rfl) (ew_FnIdentities_j30 K k) (lpOk_of (en := en_w_FnIdentities K k) (S := hasK su_w_FnIdentities) (fun i => hasK_lk (sg_w_FnIdentities K k) i) _ (by rw [show partsOf (hasK su_w_FnIdentities) c_w_FnIdentities_J30 = [(false, c_w_FnIdentities_J32)] from by kernel_rfl]; exact (lpL_seg (f := mkSeg lv_w_FnIdentities_J32 lv_w_FnIdentities_N32 (gw_FnIdentities_j32 K k)) (by kernel_rfl) (sw_FnIdentities_j32 K C hP O k) trivial)))
theorem ew_FnIdentities_j25 {R : Type} (K : Nat) (k : Nat) (x : den lv_w_FnIdentities_J25.ty) (kn : den lv_w_FnIdentities_N25.ty → Option R) (kx : Nat → St → Option R) (kr : St → Option R) : gw_FnIdentities_j25 K k x kn kx kr = evC (cf_w_FnIdentities K) (en_w_FnIdentities K k) c_w_FnIdentities_J25 (mkSt lv_w_FnIdentities_J25 x) (cutK lv_w_FnIdentities_N25 kn) kx kr := by kernel_rfl
theorem sw_FnIdentities_j25 {R : Type} (K : Nat) (C : Cx) (hP : C.P = Try.prog) (O : CfgOk C (cf_w_FnIdentities K)) (k : Nat) : SgS C (R := R) (mkSeg lv_w_FnIdentities_J25 lv_w_FnIdentities_N25 (gw_FnIdentities_j25 K k)) c_w_FnIdentities_J25 :=
  seg_sound O (by rw [hP]; kernel_rfl) (ew_FnIdentities_j25 K k) (lpOk_of (en := en_w_FnIdentities K k) (S := hasK su_w_FnIdentities) (fun i => hasK_lk (sg_w_FnIdentities K k) i) _ (by rw [show partsOf (hasK su_w_FnIdentities) c_w_FnIdentities_J25 = [(false, c_w_FnIdentities_J30)] from by kernel_rfl]; exact (lpL_seg (f := mkSeg lv_w_FnIdentities_J30 lv_w_FnIdentities_N30 (gw_FnIdentities_j30 K k)) (by kernel_rfl) (sw_FnIdentities_j30 K C hP O k) trivial)))
theorem ew_FnIdentities_j21 {R : Type} (K : Nat) (k : Nat) (x : den lv_w_FnIdentities_J21.ty) (kn : den lv_w_FnIdentities_N21.ty → Option R) (kx : Nat → St → Option R) (kr : St → Option R) : gw_FnIdentities_j21 K k x kn kx kr = evC (cf_w_FnIdentities K) (en_w_FnIdentities K k) c_w_FnIdentities_J21 (mkSt lv_w_FnIdentities_J21 x) (cutK lv_w_FnIdentities_N21 kn) kx kr := by kernel_rfl
theorem sw_FnIdentities_j21 {R : Type} (K : Nat) (C : Cx) (hP : C.P = Try.prog) (O : CfgOk C (cf_w_FnIdentities K)) (k : Nat) : SgS C (R := R) (mkSeg lv_w_FnIdentities_J21 lv_w_FnIdentities_N21 (gw_FnIdentities_j21 K k)) c_w_FnIdentities_J21 :=
  seg_sound O (by rw [hP]; kernel_rfl) (ew_FnIdentities_j21 K k) (lpOk_of (en := en_w_FnIdentities K k) (S := hasK su_w_FnIdentities) (fun i => hasK_lk (sg_w_FnIdentities K k) i) _ (by rw [show partsOf (hasK su_w_FnIdentities) c_w_FnIdentities_J21 = [(false, c_w_FnIdentities_J25)] from by kernel_rfl]; exact (lpL_seg (f := mkSeg lv_w_FnIdentities_J25 lv_w_FnIdentities_N25 (gw_FnIdentities_j25 K k)) (by kernel_rfl) (sw_FnIdentities_j25 K C hP O k) trivial)))
theorem ew_FnIdentities_j17 {R : Type} (K : Nat) (k : Nat) (x : den lv_w_FnIdentities_J17.ty) (kn : den lv_w_FnIdentities_N17.ty → Option R) (kx : Nat → St → Option R) (kr : St → Option R) : gw_FnIdentities_j17 K k x kn kx kr = evC (cf_w_FnIdentities K) (en_w_FnIdentities K k) c_w_FnIdentities_J17 (mkSt lv_w_FnIdentities_J17 x) (cutK lv_w_FnIdentities_N17 kn) kx kr := by kernel_rfl
theorem sw_FnIdentities_j17 {R : Type} (K : Nat) (C : Cx) (hP : C.P = Try.prog) (O : CfgOk C (cf_w_FnIdentities K)) (k : Nat) : SgS C (R := R) (mkSeg lv_w_FnIdentities_J17 lv_w_FnIdentities_N17 (gw_FnIdentities_j17 K k)) c_w_FnIdentities_J17 :=
  seg_sound O (by rw [hP]; kernel_rfl) (ew_FnIdentities_j17 K k) (lpOk_of (en := en_w_FnIdentities K k) (S := hasK su_w_FnIdentities) (fun i => hasK_lk (sg_w_FnIdentities K k) i) _ (by rw [show partsOf (hasK su_w_FnIdentities) c_w_FnIdentities_J17 = [(false, c_w_FnIdentities_J21)] from by kernel_rfl]; exact (lpL_seg (f := mkSeg lv_w_FnIdentities_J21 lv_w_FnIdentities_N21 (gw_FnIdentities_j21 K k)) (by kernel_rfl) (sw_FnIdentities_j21 K C hP O k) trivial)))
theorem ew_FnIdentities_j13 {R : Type} (K : Nat) (k : Nat) (x : den lv_w_FnIdentities_J13.ty) (kn : den lv_w_FnIdentities_N13.ty → Option R) (kx : Nat → St → Option R) (kr : St → Option R) : gw_FnIdentities_j13 K k x kn kx kr = evC (cf_w_FnIdentities K) (en_w_FnIdentities K k) c_w_FnIdentities_J13 (mkSt lv_w_FnIdentities_J13 x) (cutK lv_w_FnIdentities_N13 kn) kx kr := by kernel_rfl
theorem sw_FnIdentities_j13 {R : Type} (K : Nat) (C : Cx) (hP : C.P = Try.prog) (O : CfgOk C (cf_w_FnIdentities K)) (k : Nat) : SgS C (R := R) (mkSeg lv_w_FnIdentities_J13 lv_w_FnIdentities_N13 (gw_FnIdentities_j13 K k)) c_w_FnIdentities_J13 :=
  seg_sound O (by rw [hP]; kernel_rfl) (ew_FnIdentities_j13 K k) (lpOk_of (en := en_w_FnIdentities K k) (S := hasK su_w_FnIdentities) (fun i => hasK_lk (sg_w_FnIdentities K k) i) _ (by rw [show partsOf (hasK su_w_FnIdentities) c_w_FnIdentities_J13 = [(false, c_w_FnIdentities_J17)] from by kernel_rfl]; exact (lpL_seg (f := mkSeg lv_w_FnIdentities_J17 lv_w_FnIdentities_N17 (gw_FnIdentities_j17 K k)) (by kernel_rfl) (sw_FnIdentities_j17 K C hP O k) trivial)))
theorem ew_FnIdentities_j8 {R : Type} (K : Nat) (k : Nat) (x : den lv_w_FnIdentities_J8.ty) (kn : den lv_w_FnIdentities_N8.ty → Option R) (kx : Nat → St → Option R) (kr : St → Option R) : gw_FnIdentities_j8 K k x kn kx kr = evC (cf_w_FnIdentities K) (en_w_FnIdentities K k) c_w_FnIdentities_J8 (mkSt lv_w_FnIdentities_J8 x) (cutK lv_w_FnIdentities_N8 kn) kx kr := by kernel_rfl
theorem sw_FnIdentities_j8 {R : Type} (K : Nat) (C : Cx) (hP : C.P = Try.prog) (O : CfgOk C (cf_w_FnIdentities K)) (k : Nat) : SgS C (R := R) (mkSeg lv_w_FnIdentities_J8 lv_w_FnIdentities_N8 (gw_FnIdentities_j8 K k)) c_w_FnIdentities_J8 :=
  seg_sound O (by rw [hP]; kernel_rfl) (ew_FnIdentities_j8 K k) (lpOk_of (en := en_w_FnIdentities K k) (S := hasK su_w_FnIdentities) (fun i => hasK_lk (sg_w_FnIdentities K k) i) _ (by rw [show partsOf (hasK su_w_FnIdentities) c_w_FnIdentities_J8 = [(false, c_w_FnIdentities_J13)] from by kernel_rfl]; exact (lpL_seg (f := mkSeg lv_w_FnIdentities_J13 lv_w_FnIdentities_N13 (gw_FnIdentities_j13 K k)) (by kernel_rfl) (sw_FnIdentities_j13 K C hP O k) trivial)))
theorem e_w_FnIdentities (K : Nat) (x : den as_w_FnIdentities) : w_FnIdentities K x = evFn (cf_w_FnIdentities K) as_w_FnIdentities [false] .bool (en_w_FnIdentities K K) Try.f7.results.toList (bodyOf Try.f7) x := by kernel_rfl
theorem ok_w_FnIdentities (K : Nat) : FnOk Try.prog 7 (sp_w_FnIdentities (w_FnIdentities K)) :=
  fn_ok (cf := cf_w_FnIdentities K) (en := en_w_FnIdentities K K) (c := bodyOf Try.f7) Try.func7 (by kernel_rfl) (by kernel_rfl) tysOk (fns_ok (l := [(31, sp_w_big (w_big K)), (32, sp_s_DrawIsOfKind (s_DrawIsOfKind K)), (33, sp_i_IsOfKind (i_IsOfKind K)), (34, sp_s_IsOfKind (s_IsOfKind K)), (35, sp_s_DrawIsIdempotent (s_DrawIsIdempotent K)), (36, sp_i_IsIdempotent (i_IsIdempotent K)), (37, sp_s_IsIdempotent (s_IsIdempotent K)), (38, sp_i_IsSymmetric (i_IsSymmetric K)), (39, sp_s_IsSymmetric (s_IsSymmetric K)), (40, sp_i_IsSemilattice (i_IsSemilattice K)), (41, sp_s_IsSemilattice (s_IsSemilattice K)), (42, sp_i_HasNearUnanimity (i_HasNearUnanimity K)), (43, sp_s_HasNearUnanimity (s_HasNearUnanimity K)), (44, sp_s_DrawKindCounts (s_DrawKindCounts K)), (45, sp_i_KindCounts (i_KindCounts K)), (46, sp_s_KindCounts (s_KindCounts K)), (47, sp_w_likeInts (w_likeInts K))]) ⟨ok_w_big K, ⟨ok_s_DrawIsOfKind K, ⟨ok_i_IsOfKind K, ⟨ok_s_IsOfKind K, ⟨ok_s_DrawIsIdempotent K, ⟨ok_i_IsIdempotent K, ⟨ok_s_IsIdempotent K, ⟨ok_i_IsSymmetric K, ⟨ok_s_IsSymmetric K, ⟨ok_i_IsSemilattice K, ⟨ok_s_IsSemilattice K, ⟨ok_i_HasNearUnanimity K, ⟨ok_s_HasNearUnanimity K, ⟨ok_s_DrawKindCounts K, ⟨ok_i_KindCounts K, ⟨ok_s_KindCounts K, ⟨ok_w_likeInts K, trivial⟩⟩⟩⟩⟩⟩⟩⟩⟩⟩⟩⟩⟩⟩⟩⟩⟩) (shs_ok (l := []) trivial) (by kernel_rfl) rfl (Nat.le_of_ble_eq_true (by kernel_rfl)) (by kernel_rfl) (of_decide_eq_true (by kernel_rfl)) (by decide) (fun C hP O => lpOk_of (en := en_w_FnIdentities K K) (S := hasK su_w_FnIdentities) (fun i => hasK_lk (sg_w_FnIdentities K K) i) _ (by rw [show partsOf (hasK su_w_FnIdentities) (bodyOf Try.f7) = [(false, c_w_FnIdentities_J8)] from by kernel_rfl]; exact (lpL_seg (f := mkSeg lv_w_FnIdentities_J8 lv_w_FnIdentities_N8 (gw_FnIdentities_j8 K K)) (by kernel_rfl) (sw_FnIdentities_j8 K C hP O K) trivial))) (fun x y h => by rw [← e_w_FnIdentities]; exact h)
end Go.Proofs.Ytckkagmccbkfbaa.E
namespace Go.Proofs.Ytckkagmccbkfbaa.E
open Go Go.Proofs
set_option linter.unusedVariables false
set_option linter.unusedSimpArgs false
variable {K : Nat} {R : Type}
theorem w64 {x : Int} (h1 : -9223372036854775808 ≤ x) (h2 : x < 9223372036854775808) : IntKind.i64.wrap x = x := by
  simp only [IntKind.wrap, IntKind.bits, IntKind.signed, Bool.true_and]
  simp only [show (2 : Int) ^ 64 = 18446744073709551616 from rfl, show (2 : Int) ^ (64 - 1) = 9223372036854775808 from rfl]
  split <;> rename_i h <;> simp only [decide_eq_true_eq] at h <;> omega
theorem w64n {n : Nat} (h : n < 9223372036854775808) : IntKind.i64.wrap (n : Int) = (n : Int) := w64 (by omega) (by omega)
theorem w64s {n : Nat} (h : n + 1 < 9223372036854775808) : IntKind.i64.wrap ((n : Int) + 1) = ((n + 1 : Nat) : Int) := by rw [w64 (by omega) (by omega)]; rfl
theorem w64m1 {n : Nat} (h : n < 9223372036854775808) : IntKind.i64.wrap ((n : Int) - 1) = (n : Int) - 1 := w64 (by omega) (by omega)
theorem u64n {n : Nat} (h : n < 18446744073709551616) : IntKind.u64.wrap (n : Int) = (n : Int) := by
  simp only [IntKind.wrap, IntKind.bits, IntKind.signed, Bool.false_and, Bool.false_eq_true, if_false]
  simp only [show (2 : Int) ^ 64 = 18446744073709551616 from rfl]
  omega
theorem u64_ge (x : Int) : 0 ≤ IntKind.u64.wrap x := by
  simp only [IntKind.wrap, IntKind.bits, IntKind.signed, Bool.false_and, Bool.false_eq_true, if_false]
  exact Int.emod_nonneg _ (by decide)
theorem u64_dec (x : Int) : decide ((0 : Int) ≤ IntKind.u64.wrap x) = true := decide_eq_true (u64_ge x)
theorem bnds_t {i n : Int} (h0 : 0 ≤ i) (h : i < n) : bnds i n = true := by simp [bnds, h0, h]
theorem bnds_n {i n : Nat} (h : i < n) : bnds (i : Int) (n : Int) = true := bnds_t (by omega) (by omega)
theorem nn (n : Nat) : decide ((0 : Int) ≤ (n : Int)) = true := decide_eq_true (by omega)
theorem emod2n (x : Nat) : ((x : Int) % 18446744073709551616).toNat = x % 18446744073709551616 := by omega
theorem bitI_and {a b : Nat} (ha : a < 9223372036854775808) (hb : b < 9223372036854775808) : bitI .and .i64 (a : Int) (b : Int) = ((a &&& b : Nat) : Int) := by
  have h : a &&& b ≤ a := Nat.and_le_left
  show IntKind.i64.wrap (((BitVec.ofInt 64 (a : Int) &&& BitVec.ofInt 64 (b : Int) : BitVec 64).toNat : Nat) : Int) = _
  simp only [BitVec.toNat_and, BitVec.toNat_ofInt]
  simp only [show ((2 ^ 64 : Nat) : Int) = 18446744073709551616 from rfl, emod2n]
  rw [Nat.mod_eq_of_lt (by omega), Nat.mod_eq_of_lt (by omega), w64n (by omega)]
theorem shrI_n (a j : Nat) (ha : a < 9223372036854775808) : shrI .i64 (a : Int) (j : Int) = ((a >>> j : Nat) : Int) := by
  simp only [shrI, IntKind.bits, Int.toNat_natCast, Nat.shiftRight_eq_div_pow]
  have : (2 : Int) ^ min j 64 = ((2 ^ min j 64 : Nat) : Int) := by simp
  rw [this, Int.fdiv_eq_ediv_of_nonneg _ (Int.natCast_nonneg _), ← Int.natCast_ediv]
  by_cases h : j ≤ 64
  · rw [Nat.min_eq_left h]
  · rw [Nat.min_eq_right (by omega), Nat.div_eq_of_lt (by omega), Nat.div_eq_of_lt]
    exact Nat.lt_of_lt_of_le ha (Nat.le_trans (show 9223372036854775808 ≤ 2 ^ 64 by decide) (Nat.pow_le_pow_right (by decide) (by omega)))
theorem shlI_n (a j : Nat) (h : a * 2 ^ j < 9223372036854775808) : shlI .i64 (a : Int) (j : Int) = ((a * 2 ^ j : Nat) : Int) := by
  simp only [shlI, IntKind.bits, Int.toNat_natCast]
  by_cases hj : j ≤ 64
  · rw [Nat.min_eq_left hj, ← w64n h]; congr 1
  · have ha : a = 0 := by
      rcases Nat.eq_zero_or_pos a with h0 | h0
      · exact h0
      · have := Nat.mul_le_mul_right (2 ^ j) h0
        have h2 : 2 ^ 64 ≤ 2 ^ j := Nat.pow_le_pow_right (by decide) (by omega)
        have : (18446744073709551616 : Nat) ≤ 2 ^ j := h2
        omega
    subst ha
    have := w64n (n := 0) (by decide)
    simpa using this
theorem pw_pos (j : Nat) : 0 < 2 ^ j := Nat.two_pow_pos j
theorem shl1 {j : Nat} (h : j < 63) : shlI .i64 (1 : Int) (j : Int) = ((2 ^ j : Nat) : Int) := by
  have h2 : 2 ^ j < 2 ^ 63 := Nat.pow_lt_pow_right (by decide) h
  have := shlI_n 1 j (by simpa using h2)
  simpa using this
/-- A digit of a number. -/
def bt (b j : Nat) : Int := if b.testBit j then 1 else 0
theorem bt_eq (b j : Nat) : bt b j = (((b >>> j) &&& 1 : Nat) : Int) := by
  unfold bt
  rw [Nat.and_one_is_mod, Nat.shiftRight_eq_div_pow]
  have := Nat.testBit_eq_decide_div_mod_eq (x := b) (i := j)
  rw [this]
  have h2 := Nat.mod_lt (b / 2 ^ j) (show 0 < 2 by decide)
  split <;> rename_i h <;> simp only [decide_eq_true_eq] at h <;> omega
theorem bt_01 (b j : Nat) : bt b j = 0 ∨ bt b j = 1 := by unfold bt; split <;> simp
theorem bitI_bt {b : Nat} (j : Nat) (hb : b < 9223372036854775808) : bitI .and .i64 (shrI .i64 (b : Int) (j : Int)) (1 : Int) = bt b j := by
  rw [shrI_n b j hb, show (1 : Int) = ((1 : Nat) : Int) from rfl, bitI_and ?_ (by decide), bt_eq]
  rw [Nat.shiftRight_eq_div_pow]; exact Nat.lt_of_le_of_lt (Nat.div_le_self _ _) hb
theorem len_mid {α : Type} (p r : List α) (y : α) : p.length < (p ++ y :: r).length := by simp
theorem mid_app {α : Type} (p r : List α) (y : α) : p ++ y :: r = (p ++ [y]) ++ r := by simp
theorem snoc_len {α : Type} (p : List α) (y : α) : (p ++ [y]).length = p.length + 1 := by simp
theorem ite_t {c : Bool} {α : Type} {a b : α} (h : c = true) : (if c = true then a else b) = a := if_pos h
theorem ite_f {c : Bool} {α : Type} {a b : α} (h : c = false) : (if c = true then a else b) = b := if_neg (by rw [h]; decide)
theorem some_bind' {α β : Type} (a : α) (f : α → Option β) : (some a).bind f = f a := rfl
abbrev DF := Int × Int × Unit
theorem i_within_eq (a b c : Int) : i_within K (a, b, c, ()) = some (decide (b ≤ a) && decide (a ≤ c)) := by
  simp only [i_within]
  by_cases h : b ≤ a
  · rw [if_pos (decide_eq_true h)]; simp [h]
  · rw [if_neg (by simpa using h)]; simp [h]
theorem s_l01In_eq (a b c : Int) : s_l01In K (a, b, c, ()) = some (decide (b ≤ a) && decide (a ≤ c)) := by
  simp only [s_l01In]
  by_cases h : b ≤ a
  · rw [if_pos (decide_eq_true h)]; simp [h]
  · rw [if_neg (by simpa using h)]; simp [h]
theorem i_one_eq (b : Bool) : i_one K (b, ()) = some (if b then 1 else 0) := by cases b <;> rfl
theorem i_rowsOf_eq {n : Nat} (h : n < 63) : i_rowsOf K ((n : Int), ()) = some ((2 ^ n : Nat) : Int) := by
  simp only [i_rowsOf]; rw [if_pos (nn n), shl1 h]
theorem s_l01Rows_eq {n : Nat} (h : n < 63) : s_l01Rows K ((n : Int), ()) = some ((2 ^ n : Nat) : Int) := by
  simp only [s_l01Rows]; rw [if_pos (u64_dec _), u64n (by omega), shl1 h]
theorem i_Func_rows_eq {n : Nat} (b : Int) (h : n < 63) : i_Func_rows K (((n : Int), b, ()), ()) = some ((2 ^ n : Nat) : Int) := by
  simp only [i_Func_rows, i_rowsOf_eq h]; rfl
theorem pw4 {n : Nat} (h : n ≤ 4) : 2 ^ n ≤ 16 := Nat.pow_le_pow_right (by decide) h
theorem ppw4 {n : Nat} (h : n ≤ 4) : 2 ^ 2 ^ n ≤ 65536 := Nat.pow_le_pow_right (by decide) (pw4 h)
theorem i_funcsOf_eq {n : Nat} (h : n ≤ 4) : i_funcsOf K ((n : Int), ()) = some ((2 ^ 2 ^ n : Nat) : Int) := by
  have h4 := pw4 h
  simp only [i_funcsOf, i_rowsOf_eq (show n < 63 by omega), some_bind']
  rw [if_pos (nn _), shl1 (by omega)]
theorem s_l01All_eq {n : Nat} (h : n ≤ 4) : s_l01All K ((n : Int), ()) = some ((2 ^ 2 ^ n : Nat) - 1 : Int) := by
  have h4 := pw4 h
  have h5 := ppw4 h
  simp only [s_l01All, s_l01Rows_eq (show n < 63 by omega), some_bind']
  rw [if_pos (u64_dec _), u64n (by omega), shl1 (by omega), w64m1 (by omega)]
/-- What is a function, or a relation with as many places. -/
def isF (lo : Int) (f : DF) : Bool := decide (lo ≤ f.1) && decide (f.1 ≤ 4) && decide (0 ≤ f.2.1) && decide (f.2.1 < ((2 ^ 2 ^ f.1.toNat : Nat) : Int))
theorem isF_nat {lo : Int} {f : DF} (h : isF lo f = true) (hl : 0 ≤ lo) : ∃ n b : Nat, f = ((n : Int), (b : Int), ()) ∧ n ≤ 4 ∧ b < 2 ^ 2 ^ n ∧ lo ≤ n := by
  obtain ⟨a, c, u⟩ := f
  simp only [isF, Bool.and_eq_true, decide_eq_true_eq] at h
  refine ⟨a.toNat, c.toNat, ?_, by omega, by have := h.2; omega, by omega⟩
  rw [Int.toNat_of_nonneg (by omega), Int.toNat_of_nonneg (by omega)]
theorem bits_lt {n b : Nat} (h : n ≤ 4) (hb : b < 2 ^ 2 ^ n) : b < 9223372036854775808 := by have := ppw4 h; omega
theorem isF_range {lo : Int} (hl : 0 ≤ lo) {a c : Int} {u : Unit} (h : lo ≤ a ∧ a ≤ 4) : (decide ((0 : Int) ≤ c) && decide (c ≤ ((2 ^ 2 ^ a.toNat : Nat) : Int) - 1)) = isF lo (a, c, u) := by
  simp only [isF, h.1, h.2, decide_true, Bool.true_and]
  congr 1
  apply decide_eq_decide.2; omega
theorem isF_out {lo : Int} {a c : Int} {u : Unit} (h : ¬ (lo ≤ a ∧ a ≤ 4)) : isF lo (a, c, u) = false := by
  simp only [isF, Bool.and_eq_false_iff, decide_eq_false_iff_not]; omega
theorem and_dec {a b : Prop} [Decidable a] [Decidable b] : ((decide a && decide b) = true) ↔ (a ∧ b) := by simp
theorem i_IsFunc_eq (f : DF) : i_IsFunc K (f, ()) = some (isF 0 f) := by
  obtain ⟨a, c, u⟩ := f
  simp only [i_IsFunc, i_isArity, i_within_eq, some_bind']
  by_cases h : 0 ≤ a ∧ a ≤ 4
  · obtain ⟨n, rfl⟩ := Int.eq_ofNat_of_zero_le h.1
    rw [if_pos (and_dec.2 h), i_funcsOf_eq (by omega), some_bind']
    have h5 := ppw4 (show n ≤ 4 by omega)
    rw [w64m1 (by omega)]
    have := isF_range (lo := 0) (by decide) (c := c) (u := u) h
    rw [Int.toNat_natCast] at this
    rw [this]
  · rw [if_neg (fun e => h (and_dec.1 e)), isF_out h]
theorem i_bit_eq {b : Nat} (j : Nat) (h : b < 9223372036854775808) : i_bit K ((b : Int), (j : Int), ()) = some (bt b j) := by
  simp only [i_bit]; rw [if_pos (nn j), bitI_bt j h]
theorem i_Func_at_eq {n : Int} {b : Nat} (j : Nat) (h : b < 9223372036854775808) : i_Func_at K ((n, (b : Int), ()), (j : Int), ()) = some (bt b j) := by
  simp only [i_Func_at, i_bit_eq j h]; rfl
theorem s_l01At_eq {n : Int} {b j : Nat} (h : b < 9223372036854775808) (hj : j < 9223372036854775808) : s_l01At K ((n, (b : Int), ()), (j : Int), ()) = some (bt b j) := by
  simp only [s_l01At]; rw [if_pos (u64_dec _), u64n (by omega), bitI_bt j h]
theorem bt_dec (b j : Nat) : decide (bt b j = 1) = b.testBit j := by unfold bt; cases b.testBit j <;> rfl
theorem bt_dec0 (b j : Nat) : decide (bt b j = 0) = !b.testBit j := by unfold bt; cases b.testBit j <;> rfl
theorem lt_len {α : Type} {p r : List α} {y : α} : decide ((p.length : Int) < ((p ++ y :: r).length : Int)) = true := decide_eq_true (by simp; omega)
theorem nlt_len {α : Type} {p : List α} : decide ((p.length : Int) < ((p ++ []).length : Int)) = false := decide_eq_false (by simp)
theorem bnds_mid {α : Type} {p r : List α} {y : α} : bnds (p.length : Int) ((p ++ y :: r).length : Int) = true := bnds_n (len_mid p r y)
theorem next_i {α : Type} {p r : List α} {y : α} (h : (p ++ y :: r).length < 4611686018427387904) : IntKind.i64.wrap ((p.length : Int) + 1) = (((p ++ [y]).length : Nat) : Int) := by
  rw [snoc_len]; refine w64s ?_
  have := len_mid p r y; omega
theorem and_decF {a b : Prop} [Decidable a] [Decidable b] (h : ¬ (a ∧ b)) : (decide a && decide b) = false := by
  cases hb : (decide a && decide b); rfl; exact absurd (and_dec.1 hb) h
def pc : Nat → Nat → Nat
  | 0, _ => 0
  | n + 1, a => a % 2 + pc n (a / 2)
theorem ones_256 : ∀ a : Nat, a < 256 → math_bits_OnesCount64 0 (IntKind.u64.wrap (a : Int), ()) = some (pc 16 a : Int) := by decide +kernel
theorem i_ones_256 {a : Nat} (h : a < 256) : i_ones K ((a : Int), ()) = some (pc 16 a : Int) := by
  simp only [i_ones]
  have := ones_256 a h
  rw [show math_bits_OnesCount64 K (IntKind.u64.wrap (a : Int), ()) = some (pc 16 a : Int) from this]; rfl
def anyF (P : Nat → Bool) : Nat → Nat → Bool
  | _, 0 => false
  | j, m + 1 => P j || anyF P (j + 1) m
theorem anyF_iff {P : Nat → Bool} : ∀ {m j : Nat}, anyF P j m = true ↔ ∃ i, j ≤ i ∧ i < j + m ∧ P i = true
  | 0, j => by simp only [anyF]; constructor; (intro h; cases h); (rintro ⟨i, h1, h2, _⟩; omega)
  | m + 1, j => by
    simp only [anyF, Bool.or_eq_true, anyF_iff (m := m) (j := j + 1)]
    constructor
    · rintro (h | ⟨i, h1, h2, h3⟩)
      · exact ⟨j, by omega, by omega, h⟩
      · exact ⟨i, by omega, by omega, h3⟩
    · rintro ⟨i, h1, h2, h3⟩
      by_cases e : i = j
      · left; rw [← e]; exact h3
      · right; exact ⟨i, by omega, by omega, h3⟩
def b1 (b : Bool) : Int := if b = true then 1 else 0
theorem weight_l (kx : Int → Option R) : ∀ (n a b k : Nat), a < 2 ^ n → n ≤ 32 → b + n < 4611686018427387904 → n < k → s_l10Weight_l2 K k (a : Int) (b : Int) kx = kx ((b + pc n a : Nat) : Int)
  | 0, a, b, k + 1, ha, _, _, _ => by
    have h0 : a = 0 := by simpa using ha
    subst h0
    simp only [s_l10Weight_l2]; rw [ite_f (by decide)]; rfl
  | n + 1, a, b, k + 1, ha, hn, hb, hk => by
    have hp : 2 ^ (n + 1) ≤ 4294967296 := Nat.le_trans (Nat.pow_le_pow_right (by decide) hn) (by decide)
    have hs := Nat.pow_succ 2 n
    simp only [s_l10Weight_l2, pc]
    by_cases h0 : a = 0
    · subst h0
      rw [ite_f (by decide)]
      have : pc n (0 / 2) = 0 := by
        clear ha hn hb hk hp hs
        induction n with
        | zero => rfl
        | succ n ih => simp only [pc] at ih ⊢; simpa using ih
      rw [this]; rfl
    · rw [ite_t (decide_eq_true (by omega))]
      have e1 : Int.tdiv (a : Int) 2 = ((a / 2 : Nat) : Int) := by rw [Int.tdiv_eq_ediv_of_nonneg (by omega)]; rfl
      have e2 : Int.tmod (a : Int) 2 = ((a % 2 : Nat) : Int) := by rw [Int.tmod_eq_emod_of_nonneg (by omega)]; rfl
      rw [e1, e2, w64n (by omega), ← Int.natCast_add, w64n (by omega), weight_l kx n (a / 2) (b + a % 2) k (by omega) (by omega) (by omega) (by omega)]
      congr 2; omega
theorem s_l10Weight_eq {a : Nat} (h : a < 256) (hK : 4611686018427387904 ≤ K) : s_l10Weight K ((a : Int), ()) = some (pc 16 a : Int) := by
  simp only [s_l10Weight]
  have := weight_l (K := K) (fun z => some z) 16 a 0 K (Nat.lt_of_lt_of_le h (by decide)) (by decide) (by decide) (by omega)
  rw [show ((0 : Nat) : Int) = 0 from rfl] at this
  rw [this]; simp
theorem pc_row : ∀ n, n < 5 → ∀ i, i < 16 → i < 2 ^ n → pc 16 i ≤ n := by decide
@[irreducible] def wt (i : Nat) : Nat := pc 16 i
theorem i_ones_wt {a : Nat} (h : a < 256) : i_ones K ((a : Int), ()) = some (wt a : Int) := by rw [wt]; exact i_ones_256 h
theorem s_weight_wt {a : Nat} (h : a < 256) (hK : 4611686018427387904 ≤ K) : s_l10Weight K ((a : Int), ()) = some (wt a : Int) := by rw [wt]; exact s_l10Weight_eq h hK
theorem pc_rowN {n i : Nat} (hn : n ≤ 4) (hi : i < 2 ^ n) : wt i ≤ n := by rw [wt]; exact pc_row n (by omega) i (by have := pw4 hn; omega) hi
theorem rep_m1 {n : Nat} (hn : n ≤ 4) (hK : 4611686018427387904 ≤ K) : slices_Repeat_int64 K ([(-1 : Int)], (n : Int) + 1, ()) = some (List.replicate (n + 1) (-1)) := by
  obtain ⟨k, rfl⟩ : ∃ k, K = k + 8 := ⟨K - 8, by omega⟩
  clear hK
  have : n = 0 ∨ n = 1 ∨ n = 2 ∨ n = 3 ∨ n = 4 := by omega
  rcases this with rfl | rfl | rfl | rfl | rfl <;> rfl
def idemB (n B : Nat) : Bool := decide (0 < n) && (!B.testBit 0 && B.testBit (2 ^ n - 1))
theorem i_idem_eq {n B : Nat} (hn : n ≤ 4) (hB : B < 9223372036854775808) : i_Func_isIdempotent K (((n : Int), (B : Int), ()), ()) = some (idemB n B) := by
  have hp := pw4 hn
  have hq := pw_pos n
  have h0 := i_Func_at_eq (K := K) (n := (n : Int)) 0 hB
  have h1 := i_Func_at_eq (K := K) (n := (n : Int)) (2 ^ n - 1) hB
  have e1 : IntKind.i64.wrap (((2 ^ n : Nat) : Int) - 1) = ((2 ^ n - 1 : Nat) : Int) := by rw [w64 (by omega) (by omega)]; omega
  rw [show ((0 : Nat) : Int) = 0 from rfl] at h0
  simp only [i_Func_isIdempotent, h0, some_bind', i_Func_rows_eq _ (show n < 63 by omega), e1, h1, bt_dec, bt_dec0, idemB]
  by_cases h : 0 < n
  · rw [ite_t (decide_eq_true (by omega)), decide_eq_true h]
    cases B.testBit 0 <;> rfl
  · rw [ite_f (decide_eq_false (by omega)), decide_eq_false h]; rfl
theorem s_idem_eq {n B : Nat} (hn : n ≤ 4) (hB : B < 9223372036854775808) : s_l10Idem K (((n : Int), (B : Int), ()), ()) = some (idemB n B) := by
  have hp := pw4 hn
  have hq := pw_pos n
  have h0 := s_l01At_eq (K := K) (n := (n : Int)) (j := 0) hB (by decide)
  have h1 := s_l01At_eq (K := K) (n := (n : Int)) (j := 2 ^ n - 1) hB (by omega)
  have e1 : IntKind.i64.wrap (((2 ^ n : Nat) : Int) - 1) = ((2 ^ n - 1 : Nat) : Int) := by rw [w64 (by omega) (by omega)]; omega
  rw [show ((0 : Nat) : Int) = 0 from rfl] at h0
  simp only [s_l10Idem, h0, some_bind', s_l01Rows_eq (show n < 63 by omega), e1, h1, bt_dec, bt_dec0, idemB]
  by_cases h : 0 < n
  · rw [ite_t (decide_eq_true (by omega)), decide_eq_true h]
    cases B.testBit 0 <;> rfl
  · rw [ite_f (decide_eq_false (by omega)), decide_eq_false h]; rfl
def nearV (n B i : Nat) : Bool := (decide (wt i ≤ 1) && B.testBit i) || (decide (n ≤ wt i + 1) && !B.testBit i)
theorem i_near_l (n B : Nat) (h3 : 3 ≤ n) (hn : n ≤ 4) (hB : B < 9223372036854775808) (kx : Option R) (kr : Bool → Option R) : ∀ (m i k : Nat), i + m = 2 ^ n → m < k →
    i_Func_hasNearUnanimity_l4 K k ((n : Int), (B : Int), ()) ((2 ^ n : Nat) : Int) (i : Int) kx kr = if anyF (nearV n B) i m = true then kr false else kx
  | 0, i, k + 1, e, _ => by simp only [i_Func_hasNearUnanimity_l4]; rw [ite_f (decide_eq_false (by omega))]; rfl
  | m + 1, i, k + 1, e, hk => by
    have hp := pw4 hn
    have ih := i_near_l n B h3 hn hB kx kr m (i + 1) k (by omega) (by omega)
    simp only [i_Func_hasNearUnanimity_l4, i_Func_at_eq i hB, i_ones_wt (show i < 256 by omega), some_bind', bt_dec, bt_dec0, w64s (show i + 1 < 9223372036854775808 by omega), ih, w64 (show -9223372036854775808 ≤ (n : Int) - 1 by omega) (show (n : Int) - 1 < 9223372036854775808 by omega)]
    rw [ite_t (decide_eq_true (by omega)), anyF, nearV]
    have e2 : decide ((wt i : Int) ≤ 1) = decide (wt i ≤ 1) := decide_eq_decide.2 (by omega)
    have e3 : decide ((wt i : Int) ≥ (n : Int) - 1) = decide (n ≤ wt i + 1) := decide_eq_decide.2 (by omega)
    rw [e2, e3]
    cases decide (wt i ≤ 1) <;> cases decide (n ≤ wt i + 1) <;> cases B.testBit i <;> simp
theorem s_near_l (n B : Nat) (h3 : 3 ≤ n) (hn : n ≤ 4) (hB : B < 9223372036854775808) (hK : 4611686018427387904 ≤ K) (kx : Option R) (kr : Bool → Option R) : ∀ (m i k : Nat), i + m = 2 ^ n → m < k →
    s_l10Near_l4 K k ((n : Int), (B : Int), ()) (i : Int) kx kr = if anyF (nearV n B) i m = true then kr false else kx
  | 0, i, k + 1, e, _ => by simp only [s_l10Near_l4, s_l01Rows_eq (show n < 63 by omega), some_bind']; rw [ite_f (decide_eq_false (by omega))]; rfl
  | m + 1, i, k + 1, e, hk => by
    have hp := pw4 hn
    have ih := s_near_l n B h3 hn hB hK kx kr m (i + 1) k (by omega) (by omega)
    simp only [s_l10Near_l4, s_l01Rows_eq (show n < 63 by omega), s_l01At_eq hB (show i < 9223372036854775808 by omega), s_weight_wt (show i < 256 by omega) hK, some_bind', bt_dec, bt_dec0, w64s (show i + 1 < 9223372036854775808 by omega), ih, w64 (show -9223372036854775808 ≤ (n : Int) - 1 by omega) (show (n : Int) - 1 < 9223372036854775808 by omega)]
    rw [ite_t (decide_eq_true (by omega)), anyF, nearV]
    have e2 : decide ((wt i : Int) ≤ 1) = decide (wt i ≤ 1) := decide_eq_decide.2 (by omega)
    have e3 : decide ((wt i : Int) ≥ (n : Int) - 1) = decide (n ≤ wt i + 1) := decide_eq_decide.2 (by omega)
    rw [e2, e3]
    cases decide (wt i ≤ 1) <;> cases decide (n ≤ wt i + 1) <;> cases B.testBit i <;> simp
def nearB (n B : Nat) : Bool := decide (3 ≤ n) && !anyF (nearV n B) 0 (2 ^ n)
theorem i_near_eq {n B : Nat} (hn : n ≤ 4) (hB : B < 9223372036854775808) (hK : 4611686018427387904 ≤ K) : i_Func_hasNearUnanimity K (((n : Int), (B : Int), ()), ()) = some (nearB n B) := by
  have hp := pw4 hn
  simp only [i_Func_hasNearUnanimity, i_Func_rows_eq _ (show n < 63 by omega), some_bind', nearB]
  by_cases h : 3 ≤ n
  · have := i_near_l (K := K) n B h hn hB (some true) (fun z => some z) (2 ^ n) 0 K (by omega) (by omega)
    rw [show ((0 : Nat) : Int) = 0 from rfl] at this
    rw [ite_f (decide_eq_false (by omega)), this, decide_eq_true h]
    cases anyF (nearV n B) 0 (2 ^ n) <;> rfl
  · rw [ite_t (decide_eq_true (by omega)), decide_eq_false h]; rfl
theorem s_near_eq {n B : Nat} (hn : n ≤ 4) (hB : B < 9223372036854775808) (hK : 4611686018427387904 ≤ K) : s_l10Near K (((n : Int), (B : Int), ()), ()) = some (nearB n B) := by
  have hp := pw4 hn
  simp only [s_l10Near, nearB]
  by_cases h : 3 ≤ n
  · have := s_near_l (K := K) n B h hn hB hK (some true) (fun z => some z) (2 ^ n) 0 K (by omega) (by omega)
    rw [show ((0 : Nat) : Int) = 0 from rfl] at this
    rw [ite_f (decide_eq_false (by omega)), this, decide_eq_true h]
    cases anyF (nearV n B) 0 (2 ^ n) <;> rfl
  · rw [ite_t (decide_eq_true (by omega)), decide_eq_false h]; rfl
def symV (B i j : Nat) : Bool := decide (wt i = wt j) && !decide (bt B i = bt B j)
theorem s_sym_l5 (n B : Nat) (hn : n ≤ 4) (hB : B < 9223372036854775808) (hK : 4611686018427387904 ≤ K) (i : Nat) (hi : i < 16) (kx : DF → Int → Option R) (kr : Bool → Option R) : ∀ (m j k : Nat), j + m = i → m < k →
    s_l10Symmetric_l5 K k ((n : Int), (B : Int), ()) (i : Int) (j : Int) kx kr = if anyF (symV B i) j m = true then kr false else kx ((n : Int), (B : Int), ()) (i : Int)
  | 0, j, k + 1, e, _ => by simp only [s_l10Symmetric_l5]; rw [ite_f (decide_eq_false (by omega))]; rfl
  | m + 1, j, k + 1, e, hk => by
    have ih := s_sym_l5 n B hn hB hK i hi kx kr m (j + 1) k (by omega) (by omega)
    simp only [s_l10Symmetric_l5, s_l01At_eq hB (show i < 9223372036854775808 by omega), s_l01At_eq hB (show j < 9223372036854775808 by omega), s_weight_wt (show i < 256 by omega) hK, s_weight_wt (show j < 256 by omega) hK, some_bind', w64s (show j + 1 < 9223372036854775808 by omega), ih]
    rw [ite_t (decide_eq_true (by omega)), anyF, symV]
    have e2 : decide ((wt i : Int) = (wt j : Int)) = decide (wt i = wt j) := decide_eq_decide.2 (by omega)
    rw [e2]
    cases decide (wt i = wt j) <;> cases decide (bt B i = bt B j) <;> simp
theorem s_sym_l2 (n B : Nat) (hn : n ≤ 4) (hB : B < 9223372036854775808) (hK : 4611686018427387904 ≤ K) (kx : Option R) (kr : Bool → Option R) : ∀ (m i k : Nat), i + m = 2 ^ n → 100 + m < k →
    s_l10Symmetric_l2 K k ((n : Int), (B : Int), ()) (i : Int) kx kr = if anyF (fun i => anyF (symV B i) 0 i) i m = true then kr false else kx
  | 0, i, k + 1, e, _ => by simp only [s_l10Symmetric_l2, s_l01Rows_eq (show n < 63 by omega), some_bind']; rw [ite_f (decide_eq_false (by omega))]; rfl
  | m + 1, i, k + 1, e, hk => by
    have hp := pw4 hn
    have ih := s_sym_l2 n B hn hB hK kx kr m (i + 1) k (by omega) (by omega)
    have h5 := fun kx kr => s_sym_l5 (K := K) (R := R) n B hn hB hK i (by omega) kx kr i 0 k (by omega) (by omega)
    rw [show ((0 : Nat) : Int) = 0 from rfl] at h5
    simp only [s_l10Symmetric_l2, s_l01Rows_eq (show n < 63 by omega), some_bind', h5, w64s (show i + 1 < 9223372036854775808 by omega), ih]
    rw [ite_t (decide_eq_true (by omega)), anyF]
    cases anyF (symV B i) 0 i <;> simp
def symB (n B : Nat) : Bool := !anyF (fun i => anyF (symV B i) 0 i) 0 (2 ^ n)
theorem s_sym_eq {n B : Nat} (hn : n ≤ 4) (hB : B < 9223372036854775808) (hK : 4611686018427387904 ≤ K) : s_l10Symmetric K (((n : Int), (B : Int), ()), ()) = some (symB n B) := by
  have hp := pw4 hn
  simp only [s_l10Symmetric, symB]
  have := s_sym_l2 (K := K) n B hn hB hK (some true) (fun z => some z) (2 ^ n) 0 K (by omega) (by omega)
  rw [show ((0 : Nat) : Int) = 0 from rfl] at this
  rw [this]
  cases anyF (fun i => anyF (symV B i) 0 i) 0 (2 ^ n) <;> rfl
/-- The value at the last row of a weight, or -1. -/
def lvF (B : Nat) : Nat → Nat → Int
  | 0, _ => -1
  | i + 1, w => if wt i = w then bt B i else lvF B i w
def lvL (B n i : Nat) : List Int := (List.range (n + 1)).map (lvF B i)
def lvV (B i : Nat) : Bool := decide (0 ≤ lvF B i (wt i)) && !decide (lvF B i (wt i) = bt B i)
theorem lvL_0 (B n : Nat) : lvL B n 0 = List.replicate (n + 1) (-1) := by
  have : lvF B 0 = fun _ => (-1 : Int) := rfl
  rw [lvL, this, List.map_const', List.length_range]
theorem lvL_get {B n i w : Nat} (h : w ≤ n) : (lvL B n i).getD w 0 = lvF B i w := by
  simp [lvL, List.getD, List.getElem?_map, List.getElem?_range (show w < n + 1 by omega)]
theorem lvL_set {B n i : Nat} (h : wt i ≤ n) : (lvL B n i).set (wt i) (bt B i) = lvL B n (i + 1) := by
  apply List.ext_getElem
  · simp [lvL]
  · intro q h1 h2
    rw [List.getElem_set]
    simp only [lvL, List.getElem_map, List.getElem_range, lvF]
theorem i_lev_l (n B : Nat) (hn : n ≤ 4) (hB : B < 9223372036854775808) (kx : List Int → Option R) (kr : List Int → Bool → Option R) : ∀ (m i k : Nat), i + m = 2 ^ n → m < k →
    i_Func_levels_l3 K k ((n : Int), (B : Int), ()) (lvL B n i) ((2 ^ n : Nat) : Int) (i : Int) kx kr = if anyF (lvV B) i m = true then kr [] false else kx (lvL B n (2 ^ n))
  | 0, i, k + 1, e, _ => by
    obtain rfl : i = 2 ^ n := by omega
    simp only [i_Func_levels_l3]; rw [ite_f (decide_eq_false (by omega))]; rfl
  | m + 1, i, k + 1, e, hk => by
    have hp := pw4 hn
    have hw := pc_rowN hn (show i < 2 ^ n by omega)
    have ih := i_lev_l n B hn hB kx kr m (i + 1) k (by omega) (by omega)
    have hb : bnds ((wt i : Nat) : Int) ((lvL B n i).length : Int) = true := bnds_n (by simp [lvL]; omega)
    simp only [i_Func_levels_l3, i_Func_levels_j8, i_Func_at_eq i hB, i_ones_wt (show i < 256 by omega), some_bind', hb, if_true, Int.toNat_natCast, lvL_get hw, lvL_set hw, w64s (show i + 1 < 9223372036854775808 by omega), ih]
    rw [ite_t (decide_eq_true (by omega)), anyF, lvV]
    have e2 : decide (lvF B i (wt i) ≥ 0) = decide (0 ≤ lvF B i (wt i)) := rfl
    rw [e2]
    cases decide (0 ≤ lvF B i (wt i)) <;> cases decide (lvF B i (wt i) = bt B i) <;> simp
theorem lvF_old (B : Nat) : ∀ (i w : Nat), 0 ≤ lvF B i w → ∃ j, j < i ∧ wt j = w ∧ lvF B i w = bt B j
  | 0, w, h => by simp [lvF] at h
  | i + 1, w, h => by
    by_cases e : wt i = w
    · exact ⟨i, by omega, e, by rw [lvF, if_pos e]⟩
    · rw [lvF, if_neg e] at h ⊢
      obtain ⟨j, h1, h2, h3⟩ := lvF_old B i w h
      exact ⟨j, by omega, h2, h3⟩
theorem lvF_all {B N : Nat} (h : ∀ i, i < N → lvV B i = false) : ∀ (i : Nat), i ≤ N → ∀ j, j < i → lvF B i (wt j) = bt B j
  | 0, _, j, hj => by omega
  | i + 1, hi, j, hj => by
    rw [lvF]
    by_cases e : wt i = wt j
    · rw [if_pos e]
      by_cases ej : j = i
      · rw [ej]
      · have h1 := lvF_all h i (by omega) j (by omega)
        have h2 := h i (by omega)
        simp only [lvV, e, h1, Bool.and_eq_false_iff, decide_eq_false_iff_not, Bool.not_eq_false', decide_eq_true_eq] at h2
        rcases h2 with h2 | h2
        · rcases bt_01 B j with h3 | h3 <;> rw [h3] at h2 <;> omega
        · exact h2.symm
    · rw [if_neg e]
      have hj' : j < i := by
        rcases Nat.lt_or_ge j i with h3 | h3
        · exact h3
        · have : j = i := by omega
          rw [this] at e; exact absurd rfl e
      exact lvF_all h i (by omega) j hj'
theorem lev_sym (B N : Nat) : anyF (lvV B) 0 N = anyF (fun i => anyF (symV B i) 0 i) 0 N := by
  rw [Bool.eq_iff_iff, anyF_iff, anyF_iff]
  constructor
  · rintro ⟨i, h0, h1, h2⟩
    simp only [lvV, Bool.and_eq_true, decide_eq_true_eq, Bool.not_eq_true', decide_eq_false_iff_not] at h2
    obtain ⟨j, h3, h4, h5⟩ := lvF_old B i _ h2.1
    refine ⟨i, h0, h1, anyF_iff.2 ⟨j, by omega, by omega, ?_⟩⟩
    simp only [symV, Bool.and_eq_true, decide_eq_true_eq, Bool.not_eq_true', decide_eq_false_iff_not]
    exact ⟨h4.symm, fun e => h2.2 (by rw [h5, e])⟩
  · rintro ⟨i, h0, h1, h2⟩
    obtain ⟨j, _, h3, h4⟩ := anyF_iff.1 h2
    simp only [symV, Bool.and_eq_true, decide_eq_true_eq, Bool.not_eq_true', decide_eq_false_iff_not] at h4
    by_cases hall : ∀ i, i < N → lvV B i = false
    · exfalso
      have h5 := lvF_all hall i (by omega) j (by omega)
      have h6 := hall i (by omega)
      simp only [lvV, h4.1, h5, Bool.and_eq_false_iff, decide_eq_false_iff_not, Bool.not_eq_false', decide_eq_true_eq] at h6
      rcases h6 with h6 | h6
      · rcases bt_01 B j with h7 | h7 <;> rw [h7] at h6 <;> omega
      · exact h4.2 h6.symm
    · have ⟨q, hq⟩ := Classical.not_forall.1 hall
      have ⟨hq1, hq2⟩ := Classical.not_imp.1 hq
      exact ⟨q, by omega, by omega, by cases h : lvV B q <;> simp_all⟩
theorem i_sym_eq {n B : Nat} (hn : n ≤ 4) (hB : B < 9223372036854775808) (hK : 4611686018427387904 ≤ K) : i_Func_isSymmetric K (((n : Int), (B : Int), ()), ()) = some (symB n B) := by
  have hp := pw4 hn
  have hl := i_lev_l (K := K) (R := List Int × Bool × Unit) n B hn hB (fun z16 => some (z16, true, ())) (fun z17 z18 => some (z17, z18, ())) (2 ^ n) 0 K (by omega) (by omega)
  rw [lvL_0, show ((0 : Nat) : Int) = 0 from rfl] at hl
  simp only [i_Func_isSymmetric, i_Func_levels, w64 (show -9223372036854775808 ≤ (n : Int) + 1 by omega) (show (n : Int) + 1 < 9223372036854775808 by omega), rep_m1 hn hK, some_bind', i_Func_rows_eq _ (show n < 63 by omega), hl, symB, ← lev_sym]
  cases anyF (lvV B) 0 (2 ^ n) <;> rfl
def oneN (b : Bool) : Nat := if b = true then 1 else 0
def cntL (n : Nat) : Nat → Nat → Nat → Nat → Nat → Nat → List Int
  | 0, _, a, b, c, d => [(a : Int), (b : Int), (c : Int), (d : Int)]
  | m + 1, i, a, b, c, d => cntL n m (i + 1) (a + oneN (idemB n i)) (b + oneN (symB n i)) (c + oneN (idemB n i && symB n i)) (d + oneN (nearB n i))
theorem s_cnt_l (n : Nat) (hn : n ≤ 4) (hK : 4611686018427387904 ≤ K) (kx : List Int → Option R) : ∀ (m i k a b c d : Nat), i + m = 2 ^ 2 ^ n → m < k → a ≤ i → b ≤ i → c ≤ i → d ≤ i →
    s_KindCounts_l5 K k (n : Int) [(a : Int), (b : Int), (c : Int), (d : Int)] (i : Int) kx = kx (cntL n m i a b c d)
  | 0, i, k + 1, a, b, c, d, e, _, _, _, _, _ => by
    simp only [s_KindCounts_l5, s_l01All_eq hn, some_bind']; rw [ite_f (decide_eq_false (by omega))]; rfl
  | m + 1, i, k + 1, a, b, c, d, e, hk, ha, hb, hc, hd => by
    have hpp := ppw4 hn
    have ih := fun a b c d h1 h2 h3 h4 => s_cnt_l n hn hK kx m (i + 1) k a b c d (by omega) (by omega) h1 h2 h3 h4
    have b0 : bnds (0 : Int) (4 : Int) = true := rfl
    have b1 : bnds (1 : Int) (4 : Int) = true := rfl
    have b2 : bnds (2 : Int) (4 : Int) = true := rfl
    have b3 : bnds (3 : Int) (4 : Int) = true := rfl
    have L4 : ∀ p q r t : Int, (([p, q, r, t] : List Int).length : Int) = 4 := fun _ _ _ _ => rfl
    have g0 : ∀ p q r t : Int, ([p, q, r, t] : List Int).getD (0 : Int).toNat 0 = p := fun _ _ _ _ => rfl
    have g1 : ∀ p q r t : Int, ([p, q, r, t] : List Int).getD (1 : Int).toNat 0 = q := fun _ _ _ _ => rfl
    have g2 : ∀ p q r t : Int, ([p, q, r, t] : List Int).getD (2 : Int).toNat 0 = r := fun _ _ _ _ => rfl
    have g3 : ∀ p q r t : Int, ([p, q, r, t] : List Int).getD (3 : Int).toNat 0 = t := fun _ _ _ _ => rfl
    have s0 : ∀ p q r t z : Int, ([p, q, r, t] : List Int).set (0 : Int).toNat z = [z, q, r, t] := fun _ _ _ _ _ => rfl
    have s1 : ∀ p q r t z : Int, ([p, q, r, t] : List Int).set (1 : Int).toNat z = [p, z, r, t] := fun _ _ _ _ _ => rfl
    have s2 : ∀ p q r t z : Int, ([p, q, r, t] : List Int).set (2 : Int).toNat z = [p, q, z, t] := fun _ _ _ _ _ => rfl
    have s3 : ∀ p q r t z : Int, ([p, q, r, t] : List Int).set (3 : Int).toNat z = [p, q, r, z] := fun _ _ _ _ _ => rfl
    rw [cntL]
    simp only [s_KindCounts_l5, s_KindCounts_j6, s_KindCounts_j11, s_KindCounts_j13, s_KindCounts_j15, s_l01All_eq hn, some_bind', s_idem_eq hn (show i < 9223372036854775808 by omega), s_sym_eq hn (show i < 9223372036854775808 by omega) hK, s_near_eq hn (show i < 9223372036854775808 by omega) hK, L4, b0, b1, b2, b3, g0, g1, g2, g3, s0, s1, s2, s3, if_true, w64s (show i + 1 < 9223372036854775808 by omega), w64s (show a + 1 < 9223372036854775808 by omega), w64s (show b + 1 < 9223372036854775808 by omega), w64s (show c + 1 < 9223372036854775808 by omega), w64s (show d + 1 < 9223372036854775808 by omega)]
    rw [ite_t (decide_eq_true (by omega))]
    cases idemB n i <;> cases symB n i <;> cases nearB n i <;> simp only [Bool.false_eq_true, if_false, if_true, oneN, Bool.and_true, Bool.and_false, Bool.true_and, Bool.false_and, Nat.add_zero] <;> exact ih _ _ _ _ (by omega) (by omega) (by omega) (by omega)
theorem i_cnt_l (n : Nat) (hn : n ≤ 4) (hK : 4611686018427387904 ≤ K) (kx : List Int → Option R) : ∀ (m i k a b c d : Nat), i + m = 2 ^ 2 ^ n → m < k → a ≤ i → b ≤ i → c ≤ i → d ≤ i →
    i_KindCounts_l5 K k (n : Int) [(a : Int), (b : Int), (c : Int), (d : Int)] ((2 ^ 2 ^ n : Nat) : Int) (i : Int) kx = kx (cntL n m i a b c d)
  | 0, i, k + 1, a, b, c, d, e, _, _, _, _, _ => by
    simp only [i_KindCounts_l5]; rw [ite_f (decide_eq_false (by omega))]; rfl
  | m + 1, i, k + 1, a, b, c, d, e, hk, ha, hb, hc, hd => by
    have hpp := ppw4 hn
    have ih := fun a b c d h1 h2 h3 h4 => i_cnt_l n hn hK kx m (i + 1) k a b c d (by omega) (by omega) h1 h2 h3 h4
    have b0 : bnds (0 : Int) (4 : Int) = true := rfl
    have b1 : bnds (1 : Int) (4 : Int) = true := rfl
    have b2 : bnds (2 : Int) (4 : Int) = true := rfl
    have b3 : bnds (3 : Int) (4 : Int) = true := rfl
    have L4 : ∀ p q r t : Int, (([p, q, r, t] : List Int).length : Int) = 4 := fun _ _ _ _ => rfl
    have g0 : ∀ p q r t : Int, ([p, q, r, t] : List Int).getD (0 : Int).toNat 0 = p := fun _ _ _ _ => rfl
    have g1 : ∀ p q r t : Int, ([p, q, r, t] : List Int).getD (1 : Int).toNat 0 = q := fun _ _ _ _ => rfl
    have g2 : ∀ p q r t : Int, ([p, q, r, t] : List Int).getD (2 : Int).toNat 0 = r := fun _ _ _ _ => rfl
    have g3 : ∀ p q r t : Int, ([p, q, r, t] : List Int).getD (3 : Int).toNat 0 = t := fun _ _ _ _ => rfl
    have s0 : ∀ p q r t z : Int, ([p, q, r, t] : List Int).set (0 : Int).toNat z = [z, q, r, t] := fun _ _ _ _ _ => rfl
    have s1 : ∀ p q r t z : Int, ([p, q, r, t] : List Int).set (1 : Int).toNat z = [p, z, r, t] := fun _ _ _ _ _ => rfl
    have s2 : ∀ p q r t z : Int, ([p, q, r, t] : List Int).set (2 : Int).toNat z = [p, q, z, t] := fun _ _ _ _ _ => rfl
    have s3 : ∀ p q r t z : Int, ([p, q, r, t] : List Int).set (3 : Int).toNat z = [p, q, r, z] := fun _ _ _ _ _ => rfl
    have z0 : ∀ q : Nat, q < 9223372036854775807 → IntKind.i64.wrap ((q : Int) + 0) = (q : Int) := fun q h => by rw [Int.add_zero]; exact w64n (by omega)
    rw [cntL]
    simp only [i_KindCounts_l5, i_KindCounts_j12, some_bind', i_one_eq, i_idem_eq hn (show i < 9223372036854775808 by omega), i_sym_eq hn (show i < 9223372036854775808 by omega) hK, i_near_eq hn (show i < 9223372036854775808 by omega) hK, L4, b0, b1, b2, b3, g0, g1, g2, g3, s0, s1, s2, s3, if_true, w64s (show i + 1 < 9223372036854775808 by omega)]
    rw [ite_t (decide_eq_true (by omega))]
    cases idemB n i <;> cases symB n i <;> cases nearB n i <;> simp only [Bool.false_eq_true, if_false, if_true, oneN, Bool.and_true, Bool.and_false, Bool.true_and, Bool.false_and, Nat.add_zero, z0 a (by omega), z0 b (by omega), z0 c (by omega), z0 d (by omega), w64s (show a + 1 < 9223372036854775808 by omega), w64s (show b + 1 < 9223372036854775808 by omega), w64s (show c + 1 < 9223372036854775808 by omega), w64s (show d + 1 < 9223372036854775808 by omega)] <;> exact ih _ _ _ _ (by omega) (by omega) (by omega) (by omega)
def kindsX (n : Int) : List Int × Int × Unit := if (decide (0 ≤ n) && decide (n ≤ 4)) = true then (cntL n.toNat (2 ^ 2 ^ n.toNat) 0 0 0 0 0, 0, ()) else ([], 2, ())
theorem s_KindCounts_eq (n : Int) (hK : 4611686018427387904 ≤ K) : s_KindCounts K (n, ()) = some (kindsX n) := by
  simp only [s_KindCounts, s_l01In_eq, some_bind', kindsX]
  by_cases h : 0 ≤ n ∧ n ≤ 4
  · obtain ⟨m, rfl⟩ : ∃ m : Nat, n = m := ⟨n.toNat, by omega⟩
    have hm : m ≤ 4 := by omega
    have hpp := ppw4 hm
    have := s_cnt_l (K := K) m hm hK (fun z42 => some (z42, (0 : Int), ())) (2 ^ 2 ^ m) 0 K 0 0 0 0 (by omega) (by omega) (by omega) (by omega) (by omega) (by omega)
    rw [decide_eq_true h.1, decide_eq_true h.2, if_neg (by decide), if_pos (by rfl), if_pos (by rfl), Int.toNat_natCast]
    exact this
  · rw [and_decF h]; rfl
theorem i_KindCounts_eq (n : Int) (hK : 4611686018427387904 ≤ K) : i_KindCounts K (n, ()) = some (kindsX n) := by
  simp only [i_KindCounts, i_isArity, i_within_eq, some_bind', kindsX]
  by_cases h : 0 ≤ n ∧ n ≤ 4
  · obtain ⟨m, rfl⟩ : ∃ m : Nat, n = m := ⟨n.toNat, by omega⟩
    have hm : m ≤ 4 := by omega
    have hpp := ppw4 hm
    have := i_cnt_l (K := K) m hm hK (fun z42 => some (z42, (0 : Int), ())) (2 ^ 2 ^ m) 0 K 0 0 0 0 (by omega) (by omega) (by omega) (by omega) (by omega) (by omega)
    rw [decide_eq_true h.1, decide_eq_true h.2, if_neg (by decide), if_pos (by rfl), if_pos (by rfl), Int.toNat_natCast, i_funcsOf_eq hm, some_bind']
    exact this
  · rw [and_decF h]; rfl
theorem cntL_len (n : Nat) : ∀ (m i a b c d : Nat), (cntL n m i a b c d).length = 4
  | 0, _, _, _, _, _ => rfl
  | m + 1, i, a, b, c, d => cntL_len n m _ _ _ _ _
/-- Something is handed back, and it is so. -/
def Okf {α : Type} (o : Option α) (P : α → Prop) : Prop := ∃ y, o = some y ∧ P y
theorem Okf.ret {α : Type} {y : α} {P : α → Prop} (h : P y) : Okf (some y) P := ⟨y, rfl, h⟩
theorem Okf.bind {α β : Type} {o : Option α} {P : α → Prop} {g : α → Option β} {Q : β → Prop} (h : Okf o P) (hg : ∀ y, P y → Okf (g y) Q) : Okf (o.bind g) Q := by
  obtain ⟨y, e, hp⟩ := h
  rw [e]; exact hg y hp
theorem Okf.ite {α : Type} {c : Bool} {a b : Option α} {P : α → Prop} (h1 : c = true → Okf a P) (h2 : c = false → Okf b P) : Okf (if c = true then a else b) P := by
  cases c
  · exact h2 rfl
  · exact h1 rfl
abbrev DSrc := List Int × Int × Int × Unit
/-- A source that may be asked. -/
structure okS (s : DSrc) : Prop where
  bytes : ∀ b ∈ s.1, 0 ≤ b ∧ b < 256
  at0 : 0 ≤ s.2.1
  at1 : s.2.1 ≤ s.1.length
  len : s.1.length ≤ 4611686018427387904
theorem and_u64 (a : Int) : 0 ≤ bitI .and .u64 a 16777215 ∧ bitI .and .u64 a 16777215 ≤ 16777215 := by
  have e : bitI .and .u64 a 16777215 = IntKind.u64.wrap (((BitVec.ofInt 64 a &&& BitVec.ofInt 64 16777215 : BitVec 64).toNat : Nat) : Int) := rfl
  rw [e, BitVec.toNat_and]
  have h : (BitVec.ofInt 64 a).toNat &&& (BitVec.ofInt 64 16777215).toNat ≤ 16777215 := Nat.le_trans Nat.and_le_right (by decide)
  rw [u64n (by omega)]
  omega
theorem tmod_ok {a n : Int} (ha : 0 ≤ a) (hn : 1 ≤ n) : 0 ≤ Int.tmod a n ∧ Int.tmod a n < n := ⟨Int.tmod_nonneg _ ha, Int.tmod_lt_of_pos _ (by omega)⟩
def nextP (n : Int) (y : (Int × Unit) × (DSrc × Unit)) : Prop := okS y.2.1 ∧ (1 ≤ n → 0 ≤ y.1.1 ∧ y.1.1 < n) ∧ (n < 1 → y.1.1 = 0)
theorem next_ok {s : DSrc} (n : Int) (h : okS s) : Okf (s_l01Next K (s, n, ())) (nextP n) := by
  obtain ⟨code, at', hash, u⟩ := s
  simp only [s_l01Next]
  refine Okf.ite (fun hn => ?_) (fun hn => ?_)
  · have hn := of_decide_eq_true hn
    exact Okf.ret ⟨h, fun h1 => by omega, fun _ => rfl⟩
  · have hn := of_decide_eq_false hn
    have hn0 : (!decide (n = 0)) = true := by simp; omega
    obtain ⟨a1, a2⟩ := and_u64 (shrI .u64 (IntKind.u64.wrap ((IntKind.u64.wrap (hash * (6364136223846793005 : Int))) + (1442695040888963407 : Int))) (33 : Int))
    have h0 : 0 ≤ at' := h.at0
    have h1 : at' ≤ code.length := h.at1
    have hl : code.length ≤ 4611686018427387904 := h.len
    have hb : ∀ b ∈ code, 0 ≤ b ∧ b < 256 := h.bytes
    rw [w64 (x := bitI .and .u64 _ 16777215) (by omega) (by omega)]
    refine Okf.ite (fun hc => ?_) (fun hc => ?_)
    · have hc : at' < code.length := of_decide_eq_true hc
      have hm : code.getD at'.toNat 0 ∈ code := by
        simp only [List.getD, List.getElem?_eq_getElem (show at'.toNat < code.length by omega)]
        simp
      obtain ⟨b1, b2⟩ := hb _ hm
      rw [ite_t (bnds_t h0 hc), ite_t hn0]
      rw [w64 (x := code.getD at'.toNat 0) (by omega) (by omega), w64 (x := bitI .and .u64 _ 16777215 + _) (by omega) (by omega), w64 (x := at' + 1) (by omega) (by omega)]
      obtain ⟨t1, t2⟩ := tmod_ok (a := bitI .and .u64 (shrI .u64 (IntKind.u64.wrap ((IntKind.u64.wrap (hash * (6364136223846793005 : Int))) + (1442695040888963407 : Int))) (33 : Int)) 16777215 + code.getD at'.toNat 0) (n := n) (by omega) (by omega)
      exact Okf.ret ⟨⟨hb, show 0 ≤ at' + 1 by omega, show at' + 1 ≤ code.length by omega, hl⟩, fun _ => ⟨t1, t2⟩, fun h => by omega⟩
    · rw [ite_t hn0]
      obtain ⟨t1, t2⟩ := tmod_ok (a := bitI .and .u64 (shrI .u64 (IntKind.u64.wrap ((IntKind.u64.wrap (hash * (6364136223846793005 : Int))) + (1442695040888963407 : Int))) (33 : Int)) 16777215) (n := n) (by omega) (by omega)
      exact Okf.ret ⟨⟨hb, h0, h1, hl⟩, fun _ => ⟨t1, t2⟩, fun h => by omega⟩
theorem pick_ok {s : DSrc} {l : List Int} (h : okS s) (hl : l ≠ []) : Okf (s_l01Pick K (s, l, ())) (fun y => okS y.2.1 ∧ y.1.1 ∈ l) := by
  simp only [s_l01Pick]
  have hp : 0 < l.length := List.length_pos_iff.2 hl
  refine Okf.bind (next_ok (l.length : Int) h) fun y hy => ?_
  obtain ⟨y1, y2, _⟩ := hy
  obtain ⟨y3, y4⟩ := y2 (by omega)
  rw [ite_t (bnds_t y3 y4)]
  refine Okf.ret ⟨y1, ?_⟩
  simp only [List.getD, List.getElem?_eq_getElem (show y.1.1.toNat < l.length by omega)]
  simp
theorem from_l (code : List Int) (hc : code.length ≤ 4096) (hb : ∀ b ∈ code, 0 ≤ b ∧ b < 256) (Q : R → Prop) (kx : DSrc → Option R) (hk : ∀ s, okS s → s.1 = code → Okf (kx s) Q) : ∀ (m i k : Nat) (s : DSrc), i + m = code.length → m < k → okS s → s.1 = code → Okf (s_l01From_l3 K k code s (i : Int) kx) Q
  | 0, i, k + 1, s, e, _, h, hs => by
    simp only [s_l01From_l3]
    rw [ite_f (decide_eq_false (by omega))]
    exact hk s h hs
  | m + 1, i, k + 1, s, e, hm, h, hs => by
    simp only [s_l01From_l3, s_l01From_j5]
    rw [ite_t (decide_eq_true (by omega)), ite_t (decide_eq_true (by omega)), ite_t (bnds_n (by omega)), w64s (by omega)]
    exact from_l code hc hb Q kx hk m (i + 1) k _ (by omega) (by omega) ⟨h.bytes, h.at0, h.at1, h.len⟩ hs
theorem from_ok {code : List Int} (hc : code.length ≤ 4096) (hb : ∀ b ∈ code, 0 ≤ b ∧ b < 256) (hK : 4611686018427387904 ≤ K) : Okf (s_l01From K (code, ())) (fun y => okS y.1.1) := by
  simp only [s_l01From]
  exact from_l (K := K) code hc hb (fun y => okS y.1.1) (fun z7 => some ((z7, ()), ())) (fun s h _ => Okf.ret h) code.length 0 K (code, 0, IntKind.u64.wrap ((13231 : Int) + (IntKind.u64.wrap (code.length : Int))), ()) (by omega) (by omega) ⟨hb, Int.le_refl _, by show (0 : Int) ≤ (code.length : Int); omega, by show code.length ≤ _; omega⟩ rfl
def arN (n : Int) : Prop := 0 ≤ n ∧ n ≤ 4
theorem arN_nat {n : Int} (h : arN n) : ∃ m : Nat, n = m ∧ m ≤ 4 := ⟨n.toNat, by have := h.1; omega, by have := h.2; omega⟩
theorem of_l (n : Nat) (hn : n ≤ 4) (l : List Int) (hl : 2 ^ n ≤ l.length) (Q : R → Prop) (v4 : DF) (kx : DF → DF → Option R) (hk : ∀ b, Okf (kx v4 ((n : Int), b, ())) Q) : ∀ (m i k : Nat) (b : Int), i + m = 2 ^ n → m < k → Okf (s_l01Of_l3 K k (n : Int) l v4 ((n : Int), b, ()) (i : Int) kx) Q
  | 0, i, k + 1, b, e, _ => by
    simp only [s_l01Of_l3, s_l01Rows_eq (show n < 63 by omega), some_bind']
    rw [ite_f (decide_eq_false (by omega))]
    exact hk b
  | m + 1, i, k + 1, b, e, hm => by
    have hp := pw4 hn
    simp only [s_l01Of_l3, s_l01Rows_eq (show n < 63 by omega), some_bind']
    rw [ite_t (decide_eq_true (by omega)), ite_t (bnds_n (by omega)), ite_t (u64_dec _), w64s (by omega)]
    exact of_l n hn l hl Q v4 kx hk m (i + 1) k _ (by omega) (by omega)
theorem of_ok {n : Int} {l : List Int} (h : arN n) (hl : (2 ^ n.toNat : Nat) ≤ l.length) (hK : 4611686018427387904 ≤ K) : Okf (s_l01Of K (n, l, ())) (fun y => y.1 = n) := by
  obtain ⟨m, rfl, hm⟩ := arN_nat h
  have hp := pw4 hm
  simp only [s_l01Of]
  exact of_l (K := K) m hm l (by simpa using hl) _ ((0 : Int), (0 : Int), ()) (fun z3 z4 => some z4) (fun b => Okf.ret rfl) (2 ^ m) 0 K 0 (by omega) (by omega)
theorem len1 {l : List Int} {y : Int} (h : l.length ≤ 100) : decide (l.length + [y].length ≤ lim) = true := by
  have : lim = 1099511627776 := rfl
  rw [this]; exact decide_eq_true (by simp; omega)
theorem proj_l (n : Nat) (hn : n ≤ 4) (v1 : Int) (v4 : DF) (Q : R → Prop) (kx : Int → DF → List Int → Option R) (hk : ∀ l, l.length = 2 ^ n → Okf (kx (n : Int) v4 l) Q) : ∀ (m i k : Nat) (l : List Int), i + m = 2 ^ n → m < k → l.length = i → Okf (s_l01Projection_l3 K k (n : Int) v1 v4 l (i : Int) kx) Q
  | 0, i, k + 1, l, e, _, hl => by
    simp only [s_l01Projection_l3, s_l01Rows_eq (show n < 63 by omega), some_bind']
    rw [ite_f (decide_eq_false (by omega))]
    exact hk l (by omega)
  | m + 1, i, k + 1, l, e, hm, hl => by
    have hp := pw4 hn
    simp only [s_l01Projection_l3, s_l01Rows_eq (show n < 63 by omega), some_bind']
    rw [ite_t (decide_eq_true (by omega)), ite_t (u64_dec _), ite_t (len1 (by omega)), w64s (by omega)]
    exact proj_l n hn v1 v4 Q kx hk m (i + 1) k _ (by omega) (by omega) (by simp [hl])
theorem proj_ok {n v : Int} (h : arN n) (hK : 4611686018427387904 ≤ K) : Okf (s_l01Projection K (n, v, ())) (fun y => y.1 = n) := by
  obtain ⟨m, rfl, hm⟩ := arN_nat h
  have hp := pw4 hm
  simp only [s_l01Projection]
  exact proj_l (K := K) m hm v _ _ _ (fun l hl => Okf.bind (of_ok h (by simp [hl]) hK) fun y hy => Okf.ret hy) (2 ^ m) 0 K [] (by omega) (by omega) rfl
theorem const_ok {n v : Int} (h : arN n) : Okf (s_l01Constant K (n, v, ())) (fun y => y.1 = n) := by
  obtain ⟨m, rfl, hm⟩ := arN_nat h
  simp only [s_l01Constant, s_l01All_eq hm, some_bind']
  exact Okf.ret rfl
theorem at_ok (f : DF) (j : Int) : Okf (s_l01At K (f, j, ())) (fun _ => True) := by
  simp only [s_l01At]; rw [ite_t (u64_dec _)]; exact Okf.ret trivial
theorem wgt_l (f : DF) (n : Nat) (hn : n ≤ 4) (e : f.1 = n) (kx : Int → Option R) (Q : R → Prop) (hk : ∀ y, Okf (kx y) Q) : ∀ (m i k : Nat) (y : Int), i + m = 2 ^ n → m < k → Okf (s_l01Weight_l3 K k f y (i : Int) kx) Q
  | 0, i, k + 1, y, h, _ => by
    simp only [s_l01Weight_l3, e, s_l01Rows_eq (show n < 63 by omega), some_bind']
    rw [ite_f (decide_eq_false (by omega))]; exact hk y
  | m + 1, i, k + 1, y, h, hm => by
    have hp := pw4 hn
    simp only [s_l01Weight_l3, e, s_l01Rows_eq (show n < 63 by omega), some_bind']
    rw [ite_t (decide_eq_true (by omega))]
    refine Okf.bind (at_ok f _) fun z _ => ?_
    rw [w64s (by omega)]
    exact wgt_l f n hn e kx Q hk m (i + 1) k _ (by omega) (by omega)
theorem wgt_ok {f : DF} (h : arN f.1) (hK : 4611686018427387904 ≤ K) : Okf (s_l01Weight K (f, ())) (fun _ => True) := by
  obtain ⟨n, e, hn⟩ := arN_nat h
  have hp := pw4 hn
  simp only [s_l01Weight]
  exact wgt_l (K := K) f n hn e (fun z => some z) (fun _ => True) (fun y => Okf.ret trivial) (2 ^ n) 0 K 0 (by omega) (by omega)
theorem fix_l (f : DF) (n : Nat) (hn : n ≤ 4) (h1 : 1 ≤ n) (e : f.1 = n) (v6 : DF) (kx : DF → DF → List Int → Option R) (Q : R → Prop) (hk : ∀ l, l.length = 2 ^ (n - 1) → Okf (kx f v6 l) Q) : ∀ (m i k : Nat) (l : List Int), i + m = 2 ^ n → m < k → l.length = min i (2 ^ (n - 1)) →
    Okf (s_l01Fix_l3 K k ((n - 1 : Nat) : Int) 0 f v6 l (i : Int) kx) Q
  | 0, i, k + 1, l, h, _, hl => by
    have h2 : 2 ^ n = 2 * 2 ^ (n - 1) := by rw [← Nat.pow_succ']; congr 1; omega
    simp only [s_l01Fix_l3, e, s_l01Rows_eq (show n < 63 by omega), some_bind']
    rw [ite_f (decide_eq_false (by omega))]; exact hk l (by omega)
  | m + 1, i, k + 1, l, h, hm, hl => by
    have hp := pw4 hn
    have h2 : 2 ^ n = 2 * 2 ^ (n - 1) := by rw [← Nat.pow_succ']; congr 1; omega
    simp only [s_l01Fix_l3, e, s_l01Rows_eq (show n < 63 by omega), some_bind']
    rw [ite_t (decide_eq_true (by omega)), ite_t (u64_dec _), u64n (by omega), bitI_bt (n - 1) (show i < 9223372036854775808 by omega), bt_dec0, w64s (by omega)]
    have hb : i.testBit (n - 1) = decide (2 ^ (n - 1) ≤ i) := by
      by_cases hi : i < 2 ^ (n - 1)
      · rw [Nat.testBit_lt_two_pow hi, decide_eq_false (by omega)]
      · rw [decide_eq_true (by omega), Nat.testBit_eq_decide_div_mod_eq]
        have : i / 2 ^ (n - 1) = 1 := by
          apply Nat.div_eq_of_lt_le <;> omega
        rw [this]; rfl
    rw [hb]
    by_cases hi : 2 ^ (n - 1) ≤ i
    · rw [decide_eq_true hi, ite_f (by rfl)]
      exact fix_l f n hn h1 e v6 kx Q hk m (i + 1) k l (by omega) (by omega) (by omega)
    · rw [decide_eq_false hi, ite_t (by rfl)]
      refine Okf.bind (at_ok f _) fun z _ => ?_
      rw [ite_t (len1 (by omega))]
      exact fix_l f n hn h1 e v6 kx Q hk m (i + 1) k _ (by omega) (by omega) (by rw [List.length_append]; simp; omega)
theorem fix_ok {f : DF} {n : Nat} (hn : n ≤ 4) (h1 : 1 ≤ n) (e : f.1 = n) (hK : 4611686018427387904 ≤ K) : Okf (s_l01Fix K (f, ((n - 1 : Nat) : Int), 0, ())) (fun y => y.1 = ((n - 1 : Nat) : Int)) := by
  have hp := pw4 hn
  simp only [s_l01Fix]
  refine fix_l (K := K) f n hn h1 e _ _ _ (fun l hl => ?_) (2 ^ n) 0 K [] (by omega) (by omega) (by simp)
  simp only [e]
  rw [show IntKind.i64.wrap ((n : Int) - 1) = ((n - 1 : Nat) : Int) from by rw [w64 (by omega) (by omega)]; omega]
  exact Okf.bind (of_ok (n := ((n - 1 : Nat) : Int)) ⟨by omega, by omega⟩ (by rw [Int.toNat_natCast]; omega) hK) fun y hy => Okf.ret hy
theorem dual_l (f : DF) (N : Nat) (hN : N ≤ 16) (v2 : DF) (kx : DF → DF → List Int → Option R) (Q : R → Prop) (hk : ∀ l, l.length = N → Okf (kx f v2 l) Q) : ∀ (m i k : Nat) (l : List Int), i + m = N → m < k → l.length = i →
    Okf (s_l01Dual_l3 K k f v2 l (N : Int) (i : Int) kx) Q
  | 0, i, k + 1, l, h, _, hl => by
    simp only [s_l01Dual_l3]; rw [ite_f (decide_eq_false (by omega))]; exact hk l (by omega)
  | m + 1, i, k + 1, l, h, hm, hl => by
    simp only [s_l01Dual_l3]
    rw [ite_t (decide_eq_true (by omega))]
    refine Okf.bind (at_ok f _) fun z _ => ?_
    rw [ite_t (len1 (by omega)), w64s (by omega)]
    exact dual_l f N hN v2 kx Q hk m (i + 1) k _ (by omega) (by omega) (by simp [hl])
theorem dual_ok {f : DF} (h : arN f.1) (hK : 4611686018427387904 ≤ K) : Okf (s_l01Dual K (f, ())) (fun y => y.1 = f.1) := by
  obtain ⟨n, e, hn⟩ := arN_nat h
  have hp := pw4 hn
  simp only [s_l01Dual]
  rw [show s_l01Rows K (f.1, ()) = some ((2 ^ n : Nat) : Int) from by rw [e]; exact s_l01Rows_eq (by omega), some_bind']
  exact dual_l (K := K) f (2 ^ n) hp _ _ _ (fun l hl => Okf.bind (of_ok h (by rw [e, hl]; simp) hK) fun y hy => Okf.ret hy) (2 ^ n) 0 K [] (by omega) (by omega) rfl
theorem bits_l (l : List Int) (hl : l.length ≤ 100) (kx : Option R) (kr : Bool → Option R) (Q : R → Prop) (h1 : Okf kx Q) (h2 : ∀ b, Okf (kr b) Q) : ∀ (m i k : Nat), i + m = l.length → m < k → Okf (s_l01Bits_l2 K k l (i : Int) kx kr) Q
  | 0, i, k + 1, h, _ => by simp only [s_l01Bits_l2]; rw [ite_f (decide_eq_false (by omega))]; exact h1
  | m + 1, i, k + 1, h, hm => by
    simp only [s_l01Bits_l2, s_l01In_eq, some_bind']
    rw [ite_t (decide_eq_true (by omega)), ite_t (bnds_n (by omega)), w64s (by omega)]
    exact Okf.ite (fun _ => h2 _) fun _ => bits_l l hl kx kr Q h1 h2 m (i + 1) k (by omega) (by omega)
theorem bits_ok {l : List Int} (hl : l.length ≤ 100) (hK : 4611686018427387904 ≤ K) : Okf (s_l01Bits K (l, ())) (fun _ => True) := by
  simp only [s_l01Bits]
  exact bits_l (K := K) l hl (some true) (fun z => some z) _ (Okf.ret trivial) (fun b => Okf.ret trivial) l.length 0 K (by omega) (by omega)
theorem read_l (t : ByteArray) (N : Nat) (hN : N ≤ 16) (ht : t.size = 2 + N) (v2 : DF) (v4 : Int) (kx : DF → Int → List Int → Option R) (Q : R → Prop) (hk : ∀ l, l.length = N → Okf (kx v2 v4 l) Q) : ∀ (m i k : Nat) (l : List Int), i + m = N → m < k → l.length = i →
    Okf (s_l01Read_l7 K k t v2 v4 l ((2 + i : Nat) : Int) kx) Q
  | 0, i, k + 1, l, h, _, hl => by
    simp only [s_l01Read_l7]; rw [ite_f (decide_eq_false (by omega))]; exact hk l (by omega)
  | m + 1, i, k + 1, l, h, hm, hl => by
    simp only [s_l01Read_l7]
    rw [ite_t (decide_eq_true (by omega)), ite_t (bnds_n (by omega)), ite_t (len1 (by omega)), w64s (by omega)]
    exact read_l t N hN ht v2 v4 kx Q hk m (i + 1) k _ (by omega) (by omega) (by simp [hl])
theorem read_ok (t : ByteArray) (hK : 4611686018427387904 ≤ K) : Okf (s_l01Read K (t, ())) (fun _ => True) := by
  simp only [s_l01Read]
  refine Okf.ite (fun _ => Okf.ret trivial) fun h => ?_
  have h := of_decide_eq_false h
  rw [ite_t (bnds_t (by decide) (by omega))]
  refine Okf.ite (fun _ => Okf.ret trivial) fun _ => ?_
  simp only [s_l01Read_j3, s_l01In_eq, some_bind']
  rw [ite_t (bnds_t (by decide) (by omega))]
  refine Okf.ite (fun _ => Okf.ret trivial) fun hc => ?_
  have hc : 0 ≤ IntKind.i64.wrap (IntKind.i64.wrap (byteAt t 0) - 48) ∧ IntKind.i64.wrap (IntKind.i64.wrap (byteAt t 0) - 48) ≤ 4 := by
    rw [Bool.not_eq_false', Bool.and_eq_true, decide_eq_true_eq, decide_eq_true_eq] at hc; exact hc
  obtain ⟨n, e, hn⟩ := arN_nat hc
  have hp := pw4 hn
  have hq := pw_pos n
  simp only [e, s_l01Rows_eq (show n < 63 by omega), some_bind']
  refine Okf.ite (fun _ => Okf.ret trivial) fun hs => ?_
  have hs : (t.size : Int) = IntKind.i64.wrap (2 + ((2 ^ n : Nat) : Int)) := by simpa using hs
  rw [w64 (by omega) (by omega)] at hs
  simp only [s_l01Read_j6]
  refine read_l (K := K) t (2 ^ n) hp (by omega) _ _ _ _ (fun l hl => ?_) (2 ^ n) 0 K [] (by omega) (by omega) rfl
  refine Okf.bind (bits_ok (by omega) hK) fun b _ => ?_
  refine Okf.ite (fun _ => Okf.ret trivial) fun _ => ?_
  exact Okf.bind (of_ok (n := (n : Int)) ⟨by omega, by omega⟩ (by rw [Int.toNat_natCast]; omega) hK) fun y _ => Okf.ret trivial
def drP (n : Int) (y : (DF × Unit) × (DSrc × Unit)) : Prop := okS y.2.1 ∧ y.1.1.1 = n
theorem sum_l (n : Nat) (hn : n ≤ 4) (v0 : DSrc) (v4 : DF) (mask one : Int) (kx : DSrc → Int → DF → List Int → Option R) (Q : R → Prop) (hK : 4611686018427387904 ≤ K) (hk : ∀ l, l.length = 2 ^ n → Okf (kx v0 (n : Int) v4 l) Q) : ∀ (m i k : Nat) (l : List Int), i + m = 2 ^ n → m < k → l.length = i →
    Okf (s_l01DrawOf_l11 K k v0 (n : Int) v4 mask l one (i : Int) kx) Q
  | 0, i, k + 1, l, h, _, hl => by
    simp only [s_l01DrawOf_l11, s_l01Rows_eq (show n < 63 by omega), some_bind']
    rw [ite_f (decide_eq_false (by omega))]; exact hk l (by omega)
  | m + 1, i, k + 1, l, h, hm, hl => by
    have hp := pw4 hn
    simp only [s_l01DrawOf_l11, s_l01Rows_eq (show n < 63 by omega), some_bind']
    rw [ite_t (decide_eq_true (by omega))]
    refine Okf.bind (wgt_ok (show arN 4 from ⟨by decide, by decide⟩) hK) fun z _ => ?_
    rw [ite_t (len1 (by omega)), w64s (by omega)]
    exact sum_l n hn v0 v4 mask one kx Q hK hk m (i + 1) k _ (by omega) (by omega) (by simp [hl])
theorem up_l (n : Nat) (hn : n ≤ 4) (v0 : DSrc) (v4 : DF) (a b : Int) (kx : DSrc → Int → DF → List Int → Option R) (Q : R → Prop) (hk : ∀ l, l.length = 2 ^ n → Okf (kx v0 (n : Int) v4 l) Q) : ∀ (m i k : Nat) (l : List Int), i + m = 2 ^ n → m < k → l.length = i →
    Okf (s_l01DrawOf_l18 K k v0 (n : Int) v4 l a b (i : Int) kx) Q
  | 0, i, k + 1, l, h, _, hl => by
    simp only [s_l01DrawOf_l18, s_l01Rows_eq (show n < 63 by omega), some_bind']
    rw [ite_f (decide_eq_false (by omega))]; exact hk l (by omega)
  | m + 1, i, k + 1, l, h, hm, hl => by
    have hp := pw4 hn
    have ih := fun l' h' => up_l n hn v0 v4 a b kx Q hk m (i + 1) k l' (by omega) (by omega) h'
    simp only [s_l01DrawOf_l18, s_l01DrawOf_j19, s_l01Rows_eq (show n < 63 by omega), some_bind', w64s (show i + 1 < 9223372036854775808 by omega), len1 (show l.length ≤ 100 by omega), if_true]
    rw [ite_t (decide_eq_true (by omega))]
    exact Okf.ite (fun _ => ih _ (by simp [hl])) fun _ => Okf.ite (fun _ => ih _ (by simp [hl])) fun _ => ih _ (by simp [hl])
theorem drawOf_ok {s : DSrc} {n : Int} (h : okS s) (hn : arN n) (hK : 4611686018427387904 ≤ K) : Okf (s_l01DrawOf K (s, n, ())) (drP n) := by
  obtain ⟨m, rfl, hm⟩ := arN_nat hn
  have hp := pw4 hm
  have hq := pw_pos m
  have hpp := ppw4 hm
  simp only [s_l01DrawOf, s_l01All_eq hm, some_bind']
  refine Okf.bind (next_ok _ h) fun y2 h2 => ?_
  refine Okf.bind (next_ok _ h2.1) fun y3 h3 => ?_
  have last : ∀ (s' : DSrc) (b : Int), okS s' → Okf (s_l01DrawOf_j33 K K s' ((0 : Int), (0 : Int), ()) ((m : Int), b, ()) none (fun z6 z7 => some ((z7, ()), (z6, ())))) (drP (m : Int)) := fun s' b hs => Okf.ret ⟨hs, rfl⟩
  refine Okf.ite (fun _ => ?_) fun _ => Okf.ite (fun _ => ?_) fun _ => Okf.ite (fun _ => ?_) fun _ => Okf.ite (fun _ => ?_) fun _ => Okf.ite (fun _ => ?_) fun _ => Okf.ite (fun _ => ?_) fun _ => last _ _ h3.1
  · refine Okf.ite (fun _ => ?_) fun _ => last _ _ h3.1
    refine Okf.bind (next_ok _ h3.1) fun y4 h4 => ?_
    exact Okf.bind (proj_ok hn hK) fun y5 h5 => Okf.ret ⟨h4.1, h5⟩
  · refine Okf.bind (next_ok _ h3.1) fun y8 h8 => ?_
    exact Okf.bind (const_ok hn) fun y9 h9 => Okf.ret ⟨h8.1, h9⟩
  · simp only [s_l01Rows_eq (show m < 63 by omega), some_bind']
    refine Okf.bind (next_ok _ h3.1) fun y11 h11 => ?_
    refine Okf.bind (next_ok _ h11.1) fun y13 h13 => ?_
    refine sum_l (K := K) m hm _ _ _ _ _ _ hK (fun l hl => ?_) (2 ^ m) 0 K [] (by omega) (by omega) rfl
    exact Okf.bind (of_ok hn (by simp [hl]) hK) fun y hy => Okf.ret ⟨h13.1, hy⟩
  · simp only [s_l01Rows_eq (show m < 63 by omega), some_bind']
    refine Okf.bind (next_ok _ h3.1) fun y26 h26 => ?_
    refine Okf.bind (next_ok _ h26.1) fun y28 h28 => ?_
    refine up_l (K := K) m hm _ _ _ _ _ _ (fun l hl => ?_) (2 ^ m) 0 K [] (by omega) (by omega) rfl
    exact Okf.bind (of_ok hn (by simp [hl]) hK) fun y hy => Okf.ret ⟨h28.1, hy⟩
  · have hkn : Okf (s_l01Known K ()) (fun l => 1 ≤ l.length) := by simp only [s_l01Known]; exact Okf.ret (by decide)
    refine Okf.bind hkn fun y62 h62 => ?_
    refine Okf.bind (next_ok _ h3.1) fun y63 h63 => ?_
    obtain ⟨q1, q2, _⟩ := h63
    obtain ⟨q3, q4⟩ := q2 (by omega)
    rw [ite_t (bnds_t q3 q4)]
    refine Okf.bind (read_ok _ hK) fun y64 _ => ?_
    exact Okf.ite (fun e => Okf.ret ⟨q1, of_decide_eq_true e⟩) fun _ => last _ _ q1
  · refine Okf.ite (fun hpos => ?_) fun _ => last _ _ h3.1
    have hpos := of_decide_eq_true hpos
    have e1 : IntKind.i64.wrap ((m : Int) - 1) = ((m - 1 : Nat) : Int) := by rw [w64 (by omega) (by omega)]; omega
    rw [e1]
    refine Okf.bind (fix_ok hm (by omega) rfl hK) fun y67 h67 => ?_
    refine Okf.bind (dual_ok (by rw [h67]; exact ⟨by omega, by omega⟩) hK) fun y68 _ => ?_
    rw [s_l01Rows_eq (show m - 1 < 63 by omega), some_bind', ite_t (u64_dec _)]
    exact Okf.ret ⟨h3.1, rfl⟩
theorem l01Draw_ok {s : DSrc} (h : okS s) (hK : 4611686018427387904 ≤ K) : Okf (s_l01Draw K (s, ())) (fun y => okS y.2.1 ∧ arN y.1.1.1) := by
  simp only [s_l01Draw]
  refine Okf.bind (pick_ok h (by simp)) fun y2 h2 => ?_
  have hn : arN y2.1.1 := by
    have := h2.2
    simp only [List.mem_cons, List.not_mem_nil, or_false] at this
    unfold arN; omega
  exact Okf.bind (drawOf_ok h2.1 hn hK) fun y3 h3 => Okf.ret ⟨h3.1, by rw [h3.2]; exact hn⟩
theorem l01Bad_ok {s : DSrc} {f : DF} (h : okS s) (hf : arN f.1) : Okf (s_l01Bad K (s, f, ())) (fun y => okS y.2.1) := by
  simp only [s_l01Bad]
  refine Okf.bind (next_ok _ h) fun y1 h1 => ?_
  refine Okf.ite (fun _ => ?_) fun _ => Okf.ite (fun _ => ?_) fun _ => Okf.ret h1.1
  · exact Okf.bind (pick_ok h1.1 (by simp)) fun y3 h3 => Okf.ret h3.1
  · obtain ⟨n, e, hn⟩ := arN_nat hf
    rw [show s_l01All K (f.1, ()) = some ((2 ^ 2 ^ n : Nat) - 1 : Int) from by rw [e]; exact s_l01All_eq hn, some_bind']
    exact Okf.bind (pick_ok h1.1 (by simp)) fun y7 h7 => Okf.ret h7.1
theorem l01Spoil_ok {s : DSrc} (h : okS s) (hK : 4611686018427387904 ≤ K) : Okf (s_l01Spoil K (s, ())) (fun y => okS y.2.1) := by
  simp only [s_l01Spoil]
  refine Okf.bind (l01Draw_ok h hK) fun y1 h1 => ?_
  exact Okf.bind (l01Bad_ok h1.1 h1.2) fun y2 h2 => Okf.ret h2
theorem lin13 (n : Nat) (hn : n ≤ 4) (v0 : DSrc) (v2 : DF) (v5 v6 v7 : Int) (kx : DSrc → DF → Int → Int → Int → Int → Int → Option R) (Q : R → Prop) (hk : ∀ z, Okf (kx v0 v2 (n : Int) v5 v6 v7 z) Q) : ∀ (m i k : Nat) (v8 : Int), i + m = n → m < k →
    Okf (s_l02DrawIn_l13 K k v0 v2 (n : Int) v5 v6 v7 v8 (i : Int) kx) Q
  | 0, i, k + 1, v8, h, _ => by simp only [s_l02DrawIn_l13]; rw [ite_f (decide_eq_false (by omega))]; exact hk _
  | m + 1, i, k + 1, v8, h, hm => by
    have ih := fun v8 => lin13 n hn v0 v2 v5 v6 v7 kx Q hk m (i + 1) k v8 (by omega) (by omega)
    simp only [s_l02DrawIn_l13, w64s (show i + 1 < 9223372036854775808 by omega)]
    rw [ite_t (decide_eq_true (by omega)), ite_t (u64_dec _)]
    refine Okf.ite (fun _ => ?_) fun _ => ih _
    rw [ite_t (u64_dec _)]; exact ih _
theorem lin9 (n : Nat) (hn : n ≤ 4) (v0 : DSrc) (v2 : DF) (v6 : Int) (kx : DSrc → DF → Int → Int → Option R) (Q : R → Prop) (hk : ∀ z, Okf (kx v0 v2 (n : Int) z) Q) : ∀ (m i k : Nat) (v5 : Int), i + m = 2 ^ n → 100 + m < k →
    Okf (s_l02DrawIn_l9 K k v0 v2 (n : Int) v5 v6 (i : Int) kx) Q
  | 0, i, k + 1, v5, h, _ => by
    simp only [s_l02DrawIn_l9, s_l01Rows_eq (show n < 63 by omega), some_bind']; rw [ite_f (decide_eq_false (by omega))]; exact hk _
  | m + 1, i, k + 1, v5, h, hm => by
    have hp := pw4 hn
    simp only [s_l02DrawIn_l9, s_l01Rows_eq (show n < 63 by omega), some_bind']
    rw [ite_t (decide_eq_true (by omega))]
    refine lin13 n hn v0 v2 v5 v6 (i : Int) _ Q (fun z => ?_) n 0 k v6 (by omega) (by omega)
    rw [ite_t (u64_dec _), w64s (by omega)]
    exact lin9 n hn v0 v2 v6 kx Q hk m (i + 1) k _ (by omega) (by omega)
theorem thr26 (n : Nat) (hn : n ≤ 4) (v0 : DSrc) (v2 : DF) (v10 v11 v12 : Int) (kx : DSrc → DF → Int → Int → Int → Int → Int → Option R) (Q : R → Prop) (hk : ∀ z, Okf (kx v0 v2 (n : Int) v10 v11 v12 z) Q) : ∀ (m i k : Nat) (v13 : Int), i + m = n → m < k →
    Okf (s_l02DrawIn_l26 K k v0 v2 (n : Int) v10 v11 v12 v13 (i : Int) kx) Q
  | 0, i, k + 1, v13, h, _ => by simp only [s_l02DrawIn_l26]; rw [ite_f (decide_eq_false (by omega))]; exact hk _
  | m + 1, i, k + 1, v13, h, hm => by
    simp only [s_l02DrawIn_l26, w64s (show i + 1 < 9223372036854775808 by omega)]
    rw [ite_t (decide_eq_true (by omega)), ite_t (u64_dec _)]
    exact thr26 n hn v0 v2 v10 v11 v12 kx Q hk m (i + 1) k _ (by omega) (by omega)
theorem thr22 (n : Nat) (hn : n ≤ 4) (v0 : DSrc) (v2 : DF) (v11 : Int) (kx : DSrc → DF → Int → Int → Option R) (Q : R → Prop) (hk : ∀ z, Okf (kx v0 v2 (n : Int) z) Q) : ∀ (m i k : Nat) (v10 : Int), i + m = 2 ^ n → 100 + m < k →
    Okf (s_l02DrawIn_l22 K k v0 v2 (n : Int) v10 v11 (i : Int) kx) Q
  | 0, i, k + 1, v10, h, _ => by
    simp only [s_l02DrawIn_l22, s_l01Rows_eq (show n < 63 by omega), some_bind']; rw [ite_f (decide_eq_false (by omega))]; exact hk _
  | m + 1, i, k + 1, v10, h, hm => by
    have hp := pw4 hn
    have ih := fun v10 => thr22 n hn v0 v2 v11 kx Q hk m (i + 1) k v10 (by omega) (by omega)
    simp only [s_l02DrawIn_l22, s_l01Rows_eq (show n < 63 by omega), some_bind']
    rw [ite_t (decide_eq_true (by omega))]
    refine thr26 n hn v0 v2 v10 v11 (i : Int) _ Q (fun z => ?_) n 0 k 0 (by omega) (by omega)
    rw [w64s (by omega)]
    refine Okf.ite (fun _ => ?_) fun _ => ih _
    rw [ite_t (u64_dec _)]; exact ih _
theorem sd35 (n : Nat) (hn : n ≤ 4) (v0 : DSrc) (v2 v4 : DF) (kx : DSrc → DF → Int → Int → Option R) (Q : R → Prop) (hk : ∀ z, Okf (kx v0 v2 (n : Int) z) Q) : ∀ (m i k : Nat) (v15 : Int), i + m = 2 ^ n → m < k →
    Okf (s_l02DrawIn_l35 K k v0 v2 (n : Int) v4 v15 (i : Int) kx) Q
  | 0, i, k + 1, v15, h, _ => by
    simp only [s_l02DrawIn_l35, s_l01Rows_eq (show n < 63 by omega), some_bind']; rw [ite_f (decide_eq_false (by omega))]; exact hk _
  | m + 1, i, k + 1, v15, h, hm => by
    have hp := pw4 hn
    have ih := fun v15 => sd35 n hn v0 v2 v4 kx Q hk m (i + 1) k v15 (by omega) (by omega)
    simp only [s_l02DrawIn_l35, s_l02DrawIn_j36, s_l01Rows_eq (show n < 63 by omega), some_bind', w64s (show i + 1 < 9223372036854775808 by omega), u64_dec, if_true]
    rw [ite_t (decide_eq_true (by omega))]
    refine Okf.ite (fun _ => ?_) fun _ => Okf.ite (fun _ => ?_) fun _ => ih _
    · refine Okf.bind (at_ok _ _) fun _ _ => Okf.ite (fun _ => ih _) fun _ => Okf.ite (fun _ => ?_) fun _ => ih _
      exact Okf.bind (at_ok _ _) fun _ _ => Okf.ite (fun _ => ih _) fun _ => ih _
    · exact Okf.bind (at_ok _ _) fun _ _ => Okf.ite (fun _ => ih _) fun _ => ih _
theorem drawIn_ok {s : DSrc} (h : okS s) (hK : 4611686018427387904 ≤ K) : Okf (s_l02DrawIn K (s, ())) (fun y => okS y.2.1) := by
  simp only [s_l02DrawIn]
  refine Okf.bind (pick_ok h (by simp)) fun y2 h2 => ?_
  have hn : arN y2.1.1 := by
    have := h2.2
    simp only [List.mem_cons, List.not_mem_nil, or_false] at this
    unfold arN; omega
  obtain ⟨n, e, hn4⟩ := arN_nat hn
  have hp := pw4 hn4
  refine Okf.bind (drawOf_ok h2.1 hn hK) fun y3 h3 => ?_
  refine Okf.bind (next_ok _ h3.1) fun y4 h4 => ?_
  refine Okf.ite (fun _ => ?_) fun _ => Okf.ite (fun _ => ?_) fun _ => Okf.ite (fun _ => ?_) fun _ => Okf.ite (fun _ => ?_) fun _ => Okf.ret h4.1
  · exact Okf.bind (l01Spoil_ok h4.1 hK) fun y5 h5 => Okf.ret h5
  · refine Okf.bind (next_ok _ h4.1) fun y6 h6 => ?_
    rw [e]
    refine lin9 (K := K) (Q := fun (y : (DF × Unit) × (DSrc × Unit)) => okS y.2.1) n hn4 _ _ _ _ (fun z => ?_) (2 ^ n) 0 K 0 (by omega) (by omega)
    exact Okf.ret h6.1
  · refine Okf.bind (next_ok _ h4.1) fun y22 h22 => ?_
    rw [e]
    refine thr22 (K := K) (Q := fun (y : (DF × Unit) × (DSrc × Unit)) => okS y.2.1) n hn4 _ _ _ _ (fun z => ?_) (2 ^ n) 0 K 0 (by omega) (by omega)
    exact Okf.ret h22.1
  · rw [e]
    refine sd35 (K := K) (Q := fun (y : (DF × Unit) × (DSrc × Unit)) => okS y.2.1) n hn4 _ _ _ _ (fun z => ?_) (2 ^ n) 0 K 0 (by omega) (by omega)
    exact Okf.ret h4.1
theorem w10_l (Q : R → Prop) (kx : Int → Option R) (hk : ∀ z, Okf (kx z) Q) : ∀ (n a k : Nat) (y : Int), a < 2 ^ n → n ≤ 32 → n < k → Okf (s_l10Weight_l2 K k (a : Int) y kx) Q
  | 0, a, k + 1, y, ha, _, _ => by
    have h0 : a = 0 := by simpa using ha
    subst h0
    simp only [s_l10Weight_l2]; rw [ite_f (by decide)]; exact hk y
  | n + 1, a, k + 1, y, ha, hn, hk2 => by
    have hp : 2 ^ (n + 1) ≤ 4294967296 := Nat.le_trans (Nat.pow_le_pow_right (by decide) hn) (by decide)
    have hs := Nat.pow_succ 2 n
    simp only [s_l10Weight_l2]
    refine Okf.ite (fun _ => ?_) fun _ => hk y
    have e1 : Int.tdiv (a : Int) 2 = ((a / 2 : Nat) : Int) := by rw [Int.tdiv_eq_ediv_of_nonneg (by omega)]; rfl
    rw [e1, w64n (by omega)]
    exact w10_l Q kx hk n (a / 2) k _ (by omega) (by omega) (by omega)
theorem w10_ok {a : Nat} (h : a < 256) (hK : 4611686018427387904 ≤ K) : Okf (s_l10Weight K ((a : Int), ())) (fun _ => True) := by
  simp only [s_l10Weight]
  exact w10_l (K := K) (fun _ => True) (fun z => some z) (fun z => Okf.ret trivial) 8 a K 0 (Nat.lt_of_lt_of_le h (by decide)) (by decide) (by omega)
theorem wl8 (n : Nat) (hn : n ≤ 4) (v0 : DSrc) (v2 : DF) (v4 : Int) (hK : 4611686018427387904 ≤ K) (kx : DSrc → DF → Int → Int → Option R) (Q : R → Prop) (hk : ∀ z, Okf (kx v0 v2 (n : Int) z) Q) : ∀ (m i k : Nat) (v5 : Int), i + m = 2 ^ n → m < k →
    Okf (s_l10Draw_l8 K k v0 v2 (n : Int) v4 v5 (i : Int) kx) Q
  | 0, i, k + 1, v5, h, _ => by
    simp only [s_l10Draw_l8, s_l01Rows_eq (show n < 63 by omega), some_bind']; rw [ite_f (decide_eq_false (by omega))]; exact hk _
  | m + 1, i, k + 1, v5, h, hm => by
    have hp := pw4 hn
    simp only [s_l10Draw_l8, s_l01Rows_eq (show n < 63 by omega), some_bind', w64s (show i + 1 < 9223372036854775808 by omega), u64_dec, if_true]
    rw [ite_t (decide_eq_true (by omega))]
    refine Okf.bind (w10_ok (show i < 256 by omega) hK) fun z _ => ?_
    exact wl8 n hn v0 v2 v4 hK kx Q hk m (i + 1) k _ (by omega) (by omega)
theorem l10Draw_ok {s : DSrc} (h : okS s) (hK : 4611686018427387904 ≤ K) : Okf (s_l10Draw K (s, ())) (fun y => okS y.2.1) := by
  simp only [s_l10Draw]
  refine Okf.bind (next_ok _ h) fun y1 h1 => ?_
  refine Okf.ite (fun _ => ?_) fun _ => Okf.ite (fun _ => ?_) fun _ => ?_
  · refine Okf.bind (next_ok _ h1.1) fun y9 h9 => ?_
    obtain ⟨q1, q2, _⟩ := h9
    obtain ⟨q3, q4⟩ := q2 (by decide)
    rw [ite_t (bnds_t q3 (by exact q4))]
    exact Okf.ret q1
  · refine Okf.bind (pick_ok h1.1 (by simp)) fun y11 h11 => ?_
    have hn : arN y11.1.1 := by
      have := h11.2
      simp only [List.mem_cons, List.not_mem_nil, or_false] at this
      unfold arN; omega
    obtain ⟨n, e, hn4⟩ := arN_nat hn
    have hp := pw4 hn4
    refine Okf.bind (next_ok _ h11.1) fun y12 h12 => ?_
    rw [e]
    refine wl8 (K := K) (Q := fun (y : (DF × Unit) × (DSrc × Unit)) => okS y.2.1) n hn4 _ _ _ hK _ (fun z => ?_) (2 ^ n) 0 K 0 (by omega) (by omega)
    exact Okf.ret h12.1
  · exact Okf.bind (drawIn_ok h1.1 hK) fun y20 h20 => Okf.ret h20
/-- Codes of the length that the statements ask about. -/
structure okCode (code : List Int) : Prop where
  len : code.length ≤ 4096
  bytes : ∀ b ∈ code, 0 ≤ b ∧ b < 256
theorem DrawIsOfKind_ok {code : List Int} (h : okCode code) (hK : 4611686018427387904 ≤ K) : Okf (s_DrawIsOfKind K (code, ())) (fun _ => True) := by
  simp only [s_DrawIsOfKind]
  refine Okf.bind (from_ok h.len h.bytes hK) fun y1 h1 => ?_
  refine Okf.bind (l10Draw_ok h1 hK) fun y2 h2 => ?_
  refine Okf.bind (next_ok _ h2) fun y3 h3 => ?_
  exact Okf.bind (next_ok _ h3.1) fun y4 h4 => Okf.ret trivial
theorem DrawIsIdempotent_ok {code : List Int} (h : okCode code) (hK : 4611686018427387904 ≤ K) : Okf (s_DrawIsIdempotent K (code, ())) (fun _ => True) := by
  simp only [s_DrawIsIdempotent]
  refine Okf.bind (from_ok h.len h.bytes hK) fun y1 h1 => ?_
  exact Okf.bind (l10Draw_ok h1 hK) fun y2 h2 => Okf.ret trivial
theorem DrawKindCounts_ok {code : List Int} (h : okCode code) (hK : 4611686018427387904 ≤ K) : Okf (s_DrawKindCounts K (code, ())) (fun _ => True) := by
  simp only [s_DrawKindCounts]
  refine Okf.bind (from_ok h.len h.bytes hK) fun y1 h1 => ?_
  refine Okf.bind (next_ok _ h1) fun y2 h2 => ?_
  exact Okf.bind (pick_ok h2.1 (by simp)) fun y4 h4 => Okf.ret trivial
theorem s_l01Is_eq (f : DF) : s_l01Is K (f, ()) = some (isF 0 f) := by
  obtain ⟨a, b, u⟩ := f
  simp only [s_l01Is, s_l01In_eq, some_bind']
  by_cases h : 0 ≤ a ∧ a ≤ 4
  · obtain ⟨n, rfl⟩ : ∃ n : Nat, a = n := ⟨a.toNat, by omega⟩
    have hn : n ≤ 4 := by omega
    rw [decide_eq_true h.1, decide_eq_true h.2]
    show (s_l01All K ((n : Int), ())).bind _ = _
    rw [s_l01All_eq hn, some_bind', ← isF_range (Int.le_refl 0) h, Int.toNat_natCast]
  · rw [and_decF h, if_neg (by decide), isF_out h]
abbrev BK : Nat := 9223372036854775808
theorem kind_all : ∀ B : Nat, B < 256 → ∀ k : Nat, k < 4 → ((i_Func_isOfKind BK ((3, (B : Int), ()), (k : Int), ())).isSome && (i_Func_isOfKind BK ((3, (B : Int), ()), (k : Int), ()) == s_l10Kind BK ((3, (B : Int), ()), (k : Int), ()))) = true := by decide +kernel
theorem kind_idem : ∀ B : Nat, B < 256 → ∀ k : Nat, k < 4 → (i_Func_isOfKind BK ((3, (B : Int), ()), (k : Int), ()) == some false || idemB 3 B) = true := by decide +kernel
theorem kind_near : ∀ B : Nat, B < 256 → (i_Func_isOfKind BK ((3, (B : Int), ()), 0, ()) == some (nearB 3 B)) = true := by decide +kernel
theorem lat_all : ∀ B : Nat, B < 16 → ((i_IsSemilattice BK ((2, (B : Int), ()), ())).isSome && (i_IsSemilattice BK ((2, (B : Int), ()), ()) == s_IsSemilattice BK ((2, (B : Int), ()), ())) && ((i_IsSemilattice BK ((2, (B : Int), ()), ()) == some (false, 0, ())) || (idemB 2 B && symB 2 B))) = true := by decide +kernel
def cntS (n : Nat) : Nat → Nat → Nat
  | 0, _ => 0
  | m + 1, i => oneN (symB n i) + cntS n m (i + 1)
theorem cntL_at (n : Nat) : ∀ (m i a b c d : Nat), c ≤ a → c ≤ b → ∃ a' b' c' d' : Nat, cntL n m i a b c d = [(a' : Int), (b' : Int), (c' : Int), (d' : Int)] ∧ c' ≤ a' ∧ c' ≤ b' ∧ b' = b + cntS n m i
  | 0, i, a, b, c, d, h1, h2 => ⟨a, b, c, d, rfl, h1, h2, rfl⟩
  | m + 1, i, a, b, c, d, h1, h2 => by
    obtain ⟨a', b', c', d', e1, e2, e3, e4⟩ := cntL_at n m (i + 1) (a + oneN (idemB n i)) (b + oneN (symB n i)) (c + oneN (idemB n i && symB n i)) (d + oneN (nearB n i)) (by cases idemB n i <;> cases symB n i <;> simp [oneN] <;> omega) (by cases idemB n i <;> cases symB n i <;> simp [oneN] <;> omega)
    exact ⟨a', b', c', d', e1, e2, e3, by rw [e4, cntS]; omega⟩
/-- All bits under a mask are alike. -/
def alike (B m : Nat) : Bool := Nat.beq (B &&& m) 0 || Nat.beq (B &&& m) m
def fast4 (B : Nat) : Bool := alike B 278 && alike B 5736 && alike B 26752
def cntF : Nat → Nat → Nat
  | 0, _ => 0
  | m + 1, i => cond (fast4 i) (cntF m (i + 1) + 1) (cntF m (i + 1))
theorem cntF_all : cntF 65536 0 = 32 := by decide +kernel
theorem alike_iff {B m : Nat} : alike B m = true ↔ ∀ i j, m.testBit i = true → m.testBit j = true → B.testBit i = B.testBit j := by
  simp only [alike, Bool.or_eq_true, Nat.beq_eq]
  constructor
  · rintro (h | h) i j hi hj
    · have h1 := congrArg (fun z : Nat => z.testBit i) h
      have h2 := congrArg (fun z : Nat => z.testBit j) h
      simp only [Nat.testBit_and, hi, hj, Bool.and_true, Nat.zero_testBit] at h1 h2
      rw [h1, h2]
    · have h1 := congrArg (fun z : Nat => z.testBit i) h
      have h2 := congrArg (fun z : Nat => z.testBit j) h
      simp only [Nat.testBit_and, hi, hj, Bool.and_true] at h1 h2
      rw [h1, h2]
  · intro h
    by_cases h0 : B &&& m = 0
    · exact .inl h0
    · right
      obtain ⟨i, hi⟩ : ∃ i, (B &&& m).testBit i = true := by
        apply Classical.byContradiction
        intro hn
        apply h0
        apply Nat.eq_of_testBit_eq
        intro i
        rw [Nat.zero_testBit]
        cases hb : (B &&& m).testBit i
        · rfl
        · exact absurd ⟨i, hb⟩ hn
      rw [Nat.testBit_and, Bool.and_eq_true] at hi
      apply Nat.eq_of_testBit_eq
      intro j
      rw [Nat.testBit_and]
      cases hj : m.testBit j
      · simp
      · rw [← h i j hi.2 hj, hi.1]; rfl
theorem wt_masks : ∀ i : Nat, i < 16 → ∀ j : Nat, j < 16 → (decide (pc 16 i = pc 16 j) = ((i == j) || (Nat.testBit 278 i && Nat.testBit 278 j) || (Nat.testBit 5736 i && Nat.testBit 5736 j) || (Nat.testBit 26752 i && Nat.testBit 26752 j))) := by decide
theorem mask_lt : ∀ m ∈ ([278, 5736, 26752] : List Nat), ∀ i, m.testBit i = true → i < 16 := by
  intro m hm i hi
  apply Classical.byContradiction
  intro hn
  have hlt : m < 2 ^ i := Nat.lt_of_lt_of_le (show m < 2 ^ 16 from by
    simp only [List.mem_cons, List.not_mem_nil, or_false] at hm
    rcases hm with rfl | rfl | rfl <;> decide) (Nat.pow_le_pow_right (by decide) (by omega))
  rw [Nat.testBit_lt_two_pow hlt] at hi; cases hi
theorem sym_iff {n B : Nat} : symB n B = true ↔ ∀ i, i < 2 ^ n → ∀ j, j < 2 ^ n → wt i = wt j → B.testBit i = B.testBit j := by
  have hbt : ∀ i j, bt B i = bt B j ↔ B.testBit i = B.testBit j := fun i j => by unfold bt; cases B.testBit i <;> cases B.testBit j <;> simp
  simp only [symB, Bool.not_eq_true']
  constructor
  · intro h
    have key : ∀ i, i < 2 ^ n → ∀ j, j < i → wt i = wt j → B.testBit i = B.testBit j := fun i hi j hj hw => by
      apply Classical.byContradiction
      intro hn
      have : anyF (fun i => anyF (symV B i) 0 i) 0 (2 ^ n) = true := anyF_iff.2 ⟨i, by omega, by omega, anyF_iff.2 ⟨j, by omega, by omega, by
        simp only [symV, Bool.and_eq_true, decide_eq_true_eq, Bool.not_eq_true', decide_eq_false_iff_not, hbt]
        exact ⟨hw, hn⟩⟩⟩
      rw [h] at this; cases this
    intro i hi j hj hw
    rcases Nat.lt_trichotomy i j with h1 | h1 | h1
    · exact (key j hj i h1 hw.symm).symm
    · rw [h1]
    · exact key i hi j h1 hw
  · intro h
    cases ha : anyF (fun i => anyF (symV B i) 0 i) 0 (2 ^ n)
    · rfl
    · obtain ⟨i, _, hi, h2⟩ := anyF_iff.1 ha
      obtain ⟨j, _, hj, h3⟩ := anyF_iff.1 h2
      simp only [symV, Bool.and_eq_true, decide_eq_true_eq, Bool.not_eq_true', decide_eq_false_iff_not, hbt] at h3
      exact absurd (h i (by omega) j (by omega) h3.1) h3.2
theorem sym_fast (B : Nat) : symB 4 B = fast4 B := by
  have hw : ∀ i, i < 16 → ∀ j, j < 16 → (wt i = wt j ↔ i = j ∨ (Nat.testBit 278 i = true ∧ Nat.testBit 278 j = true) ∨ (Nat.testBit 5736 i = true ∧ Nat.testBit 5736 j = true) ∨ (Nat.testBit 26752 i = true ∧ Nat.testBit 26752 j = true)) := fun i hi j hj => by
    have := wt_masks i hi j hj
    rw [wt, wt]
    rw [← decide_eq_true_iff (p := pc 16 i = pc 16 j), this]
    simp only [Bool.or_eq_true, Bool.and_eq_true, beq_iff_eq, or_assoc]
  rw [Bool.eq_iff_iff, sym_iff]
  simp only [fast4, Bool.and_eq_true, alike_iff]
  constructor
  · intro h
    have g : ∀ m ∈ ([278, 5736, 26752] : List Nat), ∀ i j, m.testBit i = true → m.testBit j = true → B.testBit i = B.testBit j := fun m hm i j hi hj => by
      have h1 := mask_lt m hm i hi
      have h2 := mask_lt m hm j hj
      refine h i h1 j h2 ((hw i h1 j h2).2 (.inr ?_))
      simp only [List.mem_cons, List.not_mem_nil, or_false] at hm
      rcases hm with rfl | rfl | rfl
      · exact .inl ⟨hi, hj⟩
      · exact .inr (.inl ⟨hi, hj⟩)
      · exact .inr (.inr ⟨hi, hj⟩)
    exact ⟨⟨g 278 (by simp), g 5736 (by simp)⟩, g 26752 (by simp)⟩
  · rintro ⟨⟨h1, h2⟩, h3⟩ i hi j hj e
    rcases (hw i hi j hj).1 e with e | ⟨a, b⟩ | ⟨a, b⟩ | ⟨a, b⟩
    · rw [e]
    · exact h1 i j a b
    · exact h2 i j a b
    · exact h3 i j a b
theorem cnt_fast : ∀ (m i : Nat), cntS 4 m i = cntF m i
  | 0, _ => rfl
  | m + 1, i => by
    rw [cntS, cntF, sym_fast, cnt_fast m (i + 1)]
    cases fast4 i <;> simp [oneN] <;> omega
theorem cntS_small : ∀ n : Nat, n < 4 → cntS n (2 ^ 2 ^ n) 0 = 2 ^ (n + 1) := by decide +kernel
theorem cntS_all {n : Nat} (hn : n ≤ 4) : cntS n (2 ^ 2 ^ n) 0 = 2 ^ (n + 1) := by
  by_cases h : n < 4
  · exact cntS_small n h
  · have : n = 4 := by omega
    subst this
    rw [cnt_fast]; exact cntF_all
theorem likeI_l (l : List Int) (hl : l.length < 4611686018427387904) (kx : Option R) (kr : Bool → Option R) : ∀ (r p : List Int) (k : Nat), l = p ++ r → r.length < k → w_likeInts_l4 K k l l (p.length : Int) kx kr = kx
  | [], p, k + 1, h, _ => by subst h; simp only [w_likeInts_l4]; rw [ite_f nlt_len]
  | y :: r, p, k + 1, h, hk => by
    subst h
    simp only [w_likeInts_l4]
    rw [ite_t lt_len, ite_t bnds_mid, ite_t bnds_mid, ite_f (by simp), next_i hl]
    exact likeI_l _ hl kx kr r (p ++ [y]) k (mid_app p r y) (by simp at hk; omega)
theorem w_likeInts_refl {l : List Int} (hl : l.length < 4611686018427387904) (hK : 4611686018427387904 ≤ K) : w_likeInts K (l, l, ()) = some true := by
  simp only [w_likeInts]
  rw [ite_f (by simp)]
  exact likeI_l l hl _ _ l [] K rfl (by omega)
theorem hBK : 4611686018427387904 ≤ BK := by decide
def idemX (g : DF) : Bool × Int × Unit := if isF 0 g = true then (idemB g.1.toNat g.2.1.toNat, 0, ()) else (false, 1, ())
theorem i_IsIdempotent_eq (g : DF) : i_IsIdempotent K (g, ()) = some (idemX g) := by
  simp only [i_IsIdempotent, i_IsFunc_eq, some_bind', idemX]
  cases h : isF 0 g
  · rfl
  · obtain ⟨n, b, rfl, h1, h2, _⟩ := isF_nat h (by decide)
    rw [i_idem_eq h1 (bits_lt h1 h2), some_bind']; rfl
theorem s_IsIdempotent_eq (g : DF) : s_IsIdempotent K (g, ()) = some (idemX g) := by
  simp only [s_IsIdempotent, s_l01Is_eq, some_bind', idemX]
  cases h : isF 0 g
  · rfl
  · obtain ⟨n, b, rfl, h1, h2, _⟩ := isF_nat h (by decide)
    rw [s_idem_eq h1 (bits_lt h1 h2), some_bind']; rfl
def symX (g : DF) : Bool × Int × Unit := if isF 0 g = true then (symB g.1.toNat g.2.1.toNat, 0, ()) else (false, 1, ())
theorem i_IsSymmetric_eq (g : DF) (hK : 4611686018427387904 ≤ K) : i_IsSymmetric K (g, ()) = some (symX g) := by
  simp only [i_IsSymmetric, i_IsFunc_eq, some_bind', symX]
  cases h : isF 0 g
  · rfl
  · obtain ⟨n, b, rfl, h1, h2, _⟩ := isF_nat h (by decide)
    rw [i_sym_eq h1 (bits_lt h1 h2) hK, some_bind']; rfl
theorem s_IsSymmetric_eq (g : DF) (hK : 4611686018427387904 ≤ K) : s_IsSymmetric K (g, ()) = some (symX g) := by
  simp only [s_IsSymmetric, s_l01Is_eq, some_bind', symX]
  cases h : isF 0 g
  · rfl
  · obtain ⟨n, b, rfl, h1, h2, _⟩ := isF_nat h (by decide)
    rw [s_sym_eq h1 (bits_lt h1 h2) hK, some_bind']; rfl
def nearX (g : DF) : Bool × Int × Unit := if isF 0 g = true then (nearB g.1.toNat g.2.1.toNat, 0, ()) else (false, 1, ())
theorem i_HasNear_eq (g : DF) (hK : 4611686018427387904 ≤ K) : i_HasNearUnanimity K (g, ()) = some (nearX g) := by
  simp only [i_HasNearUnanimity, i_IsFunc_eq, some_bind', nearX]
  cases h : isF 0 g
  · rfl
  · obtain ⟨n, b, rfl, h1, h2, _⟩ := isF_nat h (by decide)
    rw [i_near_eq h1 (bits_lt h1 h2) hK, some_bind']; rfl
theorem s_HasNear_eq (g : DF) (hK : 4611686018427387904 ≤ K) : s_HasNearUnanimity K (g, ()) = some (nearX g) := by
  simp only [s_HasNearUnanimity, s_l01Is_eq, some_bind', nearX]
  cases h : isF 0 g
  · rfl
  · obtain ⟨n, b, rfl, h1, h2, _⟩ := isF_nat h (by decide)
    rw [s_near_eq h1 (bits_lt h1 h2) hK, some_bind']; rfl
theorem near_idem {n B : Nat} (hn : n ≤ 4) (h : nearB n B = true) : idemB n B = true := by
  have hq := pw_pos n
  simp only [nearB, Bool.and_eq_true, decide_eq_true_eq, Bool.not_eq_true'] at h
  obtain ⟨h3, h⟩ := h
  have key : ∀ i, i < 2 ^ n → nearV n B i = false := fun i hi => by
    cases hv : nearV n B i
    · rfl
    · have : anyF (nearV n B) 0 (2 ^ n) = true := anyF_iff.2 ⟨i, by omega, by omega, hv⟩
      rw [h] at this; cases this
  have h0 := key 0 (by omega)
  have h1 := key (2 ^ n - 1) (by omega)
  have w0 : wt 0 = 0 := by rw [wt]; decide
  have w1 : n ≤ wt (2 ^ n - 1) + 1 := by
    have : n = 3 ∨ n = 4 := by omega
    rcases this with rfl | rfl <;> (rw [wt]; decide)
  simp only [nearV, w0, Nat.zero_le, decide_true, Bool.true_and, Bool.or_eq_false_iff] at h0
  simp only [nearV, decide_eq_true w1, Bool.true_and, Bool.or_eq_false_iff, Bool.not_eq_false'] at h1
  simp only [idemB, Bool.and_eq_true, decide_eq_true_eq, Bool.not_eq_true']
  exact ⟨by omega, h0.1, h1.2⟩
/-- Semilattices: the same answers, and what they imply. -/
theorem lat_eq (g : DF) : ∃ q : Bool × Int × Unit, i_IsSemilattice BK (g, ()) = some q ∧ s_IsSemilattice BK (g, ()) = some q ∧ (q.1 = true → isF 0 g = true ∧ idemB g.1.toNat g.2.1.toNat = true ∧ symB g.1.toNat g.2.1.toNat = true) := by
  cases h : isF 0 g
  · exact ⟨(false, 1, ()), by simp only [i_IsSemilattice, i_IsFunc_eq, some_bind', h]; rfl, by simp only [s_IsSemilattice, s_l01Is_eq, some_bind', h]; rfl, fun e => by cases e⟩
  · obtain ⟨n, b, rfl, h1, h2, _⟩ := isF_nat h (by decide)
    by_cases hn : n = 2
    · subst hn
      have := lat_all b (by simpa using h2)
      simp only [Bool.and_eq_true, beq_iff_eq, Option.isSome_iff_exists] at this
      obtain ⟨⟨⟨q, hq⟩, he⟩, hi⟩ := this
      refine ⟨q, hq, he.symm.trans hq, fun hq1 => ⟨rfl, ?_⟩⟩
      simp only [Bool.or_eq_true, beq_iff_eq, Bool.and_eq_true] at hi
      rcases hi with hi | hi
      · have : some q = some (false, 0, ()) := hq.symm.trans hi
        simp only [Option.some.injEq] at this
        rw [this] at hq1; cases hq1
      · exact hi
    · refine ⟨(false, 0, ()), ?_, ?_, fun e => by cases e⟩
      · simp only [i_IsSemilattice, i_IsFunc_eq, some_bind', h]
        rw [ite_f (by rfl), ite_f (decide_eq_false (by omega))]
      · simp only [s_IsSemilattice, s_l01Is_eq, some_bind', h]
        rw [ite_f (by rfl), ite_t (by simp; omega)]
theorem s_l10Code_eq (f : DF) (k : Int) (hK : 2 ≤ K) : s_l10Code K (k, [f], ()) = some (if isF 0 f = true then (if (decide (0 ≤ k) && decide (k ≤ 3)) = true then 0 else 2) else 1) := by
  obtain ⟨m, rfl⟩ : ∃ m, K = m + 2 := ⟨K - 2, by omega⟩
  have key : ∀ (K : Nat) (kx kr : Int → Option Int), s_l10Code_l2 K (m + 2) k [f] 0 kx kr = if isF 0 f = true then kx k else kr 1 := fun K kx kr => by
    rw [s_l10Code_l2, ite_t (by rfl), ite_t (by rfl), show ([f] : List DF).getD (0 : Int).toNat ((0 : Int), (0 : Int), ()) = f from rfl, s_l01Is_eq, some_bind']
    cases isF 0 f
    · rfl
    · rw [ite_f (by rfl), if_pos rfl, s_l10Code_l2, ite_f (by rfl)]
  simp only [s_l10Code]
  rw [key]
  cases isF 0 f
  · rfl
  · rw [if_pos rfl, if_pos rfl, s_l01In_eq, some_bind']
    cases (decide (0 ≤ k) && decide (k ≤ 3)) <;> rfl
/-- Kinds: the same answers, and what they imply. -/
theorem kind_eq (f : DF) (k : Int) : ∃ q : Bool × Int × Unit, i_IsOfKind BK (f, k, ()) = some q ∧ s_IsOfKind BK (f, k, ()) = some q ∧ (q.2.1 ≠ 0 → q.1 = false) ∧ (q.2.1 = 0 → isF 0 f = true) ∧ (q.1 = true → idemB f.1.toNat f.2.1.toNat = true) := by
  have hc := s_l10Code_eq (K := BK) f k (by decide)
  cases h : isF 0 f
  · refine ⟨(false, 1, ()), by simp only [i_IsOfKind, i_IsFunc_eq, some_bind', h]; rfl, ?_, fun _ => rfl, fun e => by simp at e, fun e => by cases e⟩
    simp only [s_IsOfKind, hc, some_bind', h]; rfl
  · by_cases hk : 0 ≤ k ∧ k ≤ 3
    · obtain ⟨n, b, rfl, h1, h2, _⟩ := isF_nat h (by decide)
      obtain ⟨m, rfl⟩ : ∃ m : Nat, k = m := ⟨k.toNat, by omega⟩
      have hm : m < 4 := by omega
      have hi : ∀ y, i_Func_isOfKind BK (((n : Int), (b : Int), ()), (m : Int), ()) = some y → i_IsOfKind BK (((n : Int), (b : Int), ()), (m : Int), ()) = some (y, 0, ()) := fun y hy => by
        simp only [i_IsOfKind, i_IsFunc_eq, some_bind', h, i_isKind, i_within_eq]
        rw [ite_f (by rfl), decide_eq_true hk.1, decide_eq_true hk.2, ite_f (by rfl), hy, some_bind']
      have hs : ∀ y, s_l10Kind BK (((n : Int), (b : Int), ()), (m : Int), ()) = some y → s_IsOfKind BK (((n : Int), (b : Int), ()), (m : Int), ()) = some (y, 0, ()) := fun y hy => by
        simp only [s_IsOfKind, hc, some_bind', h]
        rw [decide_eq_true hk.1, decide_eq_true hk.2]
        simp only [if_true, Bool.and_self]
        rw [ite_f (by rfl), hy, some_bind']
      by_cases hn : n = 3
      · subst hn
        have hb : b < 256 := by simpa using h2
        have ka := kind_all b hb m hm
        have ki := kind_idem b hb m hm
        simp only [Bool.and_eq_true, beq_iff_eq, Option.isSome_iff_exists] at ka
        obtain ⟨⟨y, hy⟩, he⟩ := ka
        refine ⟨(y, 0, ()), hi y hy, hs y (he.symm.trans hy), fun e => absurd rfl e, fun _ => rfl, fun e => ?_⟩
        simp only [Bool.or_eq_true, beq_iff_eq] at ki
        rcases ki with ki | ki
        · have : some y = some false := hy.symm.trans ki
          simp only [Option.some.injEq] at this
          rw [this] at e; cases e
        · exact ki
      · refine ⟨(false, 0, ()), hi false ?_, hs false ?_, fun e => absurd rfl e, fun _ => rfl, fun e => by cases e⟩
        · simp only [i_Func_isOfKind]; rw [ite_t (by simp; omega)]
        · simp only [s_l10Kind]; rw [ite_t (by simp; omega)]
    · refine ⟨(false, 2, ()), ?_, ?_, fun _ => rfl, fun e => by simp at e, fun e => by cases e⟩
      · simp only [i_IsOfKind, i_IsFunc_eq, some_bind', h, i_isKind, i_within_eq]
        rw [ite_f (by rfl), and_decF hk, ite_t (by rfl)]
      · simp only [s_IsOfKind, hc, some_bind', h]
        rw [and_decF hk]; rfl
theorem major_eq {g : DF} (h : isF 0 g = true) : ∃ y : Bool, i_IsOfKind BK (g, 0, ()) = some (y, 0, ()) ∧ (g.1 = 3 → y = nearB g.1.toNat g.2.1.toNat) := by
  obtain ⟨n, b, rfl, h1, h2, _⟩ := isF_nat h (by decide)
  have hi : ∀ y, i_Func_isOfKind BK (((n : Int), (b : Int), ()), 0, ()) = some y → i_IsOfKind BK (((n : Int), (b : Int), ()), 0, ()) = some (y, 0, ()) := fun y hy => by
    simp only [i_IsOfKind, i_IsFunc_eq, some_bind', h, i_isKind, i_within_eq]
    rw [ite_f (by rfl), ite_f (by rfl), hy, some_bind']
  by_cases hn : n = 3
  · subst hn
    have := kind_near b (by simpa using h2)
    simp only [beq_iff_eq] at this
    exact ⟨_, hi _ this, fun _ => rfl⟩
  · refine ⟨false, hi false ?_, fun e => ?_⟩
    · simp only [i_Func_isOfKind]; rw [ite_t (by simp; omega)]
    · have e : (n : Int) = 3 := e
      omega
theorem idn_36 {f : DF} {q : Bool × Int × Unit} (h1 : q.2.1 ≠ 0 → q.1 = false) (h2 : q.2.1 = 0 → isF 0 f = true) (h3 : q.1 = true → idemB f.1.toNat f.2.1.toNat = true) (kn : Option R) (kr : Bool → Option R) : w_FnIdentities_j36 BK BK f q.1 q.2.1 kn kr = kr true := by
  simp only [w_FnIdentities_j36]
  by_cases h : q.2.1 = 0
  · have hf := h2 h
    rw [ite_f (by simp [h]), i_IsIdempotent_eq, some_bind', idemX, if_pos hf]
    simp only [decide_true, if_true]
    cases hq : q.1
    · rfl
    · rw [ite_f (by rfl), h3 hq]
  · rw [ite_t (by simp [h]), h1 h]; rfl
theorem idn_32 {f : DF} {q : Bool × Int × Unit} (h1 : q.2.1 ≠ 0 → q.1 = false) (h2 : q.2.1 = 0 → isF 0 f = true) (h3 : q.1 = true → idemB f.1.toNat f.2.1.toNat = true) {g : DF} {l : Bool}
    (hl : l = true → isF 0 g = true ∧ idemB g.1.toNat g.2.1.toNat = true ∧ symB g.1.toNat g.2.1.toNat = true) (kn : Option R) (kr : Bool → Option R) :
    w_FnIdentities_j32 BK BK f q.1 q.2.1 g (idemX g).1 (idemX g).2.1 (symX g).1 l (nearX g).1 kn kr = kr true := by
  simp only [w_FnIdentities_j32, idn_36 h1 h2 h3]
  cases hg : isF 0 g
  · simp only [idemX, hg]; rfl
  · obtain ⟨y, m1, m2⟩ := major_eq hg
    have hn : (nearX g).1 = nearB g.1.toNat g.2.1.toNat := by rw [nearX, if_pos hg]
    have hi : idemX g = (idemB g.1.toNat g.2.1.toNat, 0, ()) := by rw [idemX, if_pos hg]
    have hs : (symX g).1 = symB g.1.toNat g.2.1.toNat := by rw [symX, if_pos hg]
    have hni : nearB g.1.toNat g.2.1.toNat = true → idemB g.1.toNat g.2.1.toNat = true := fun h => by
      obtain ⟨n, b, rfl, h1, _, _⟩ := isF_nat hg (by decide)
      exact near_idem h1 h
    rw [hn, hi, hs, m1]
    simp only [some_bind', decide_true, if_true, Bool.not_true, Bool.false_eq_true, if_false]
    have rest : (if l = true then (if (!idemB g.1.toNat g.2.1.toNat) = true then kr false else (if (!symB g.1.toNat g.2.1.toNat) = true then kr false else (if nearB g.1.toNat g.2.1.toNat = true then (if (!idemB g.1.toNat g.2.1.toNat) = true then kr false else kr true) else kr true))) else (if nearB g.1.toNat g.2.1.toNat = true then (if (!idemB g.1.toNat g.2.1.toNat) = true then kr false else kr true) else kr true)) = kr true := by
      have fin : (if nearB g.1.toNat g.2.1.toNat = true then (if (!idemB g.1.toNat g.2.1.toNat) = true then kr false else kr true) else kr true) = kr true := by
        cases hb : nearB g.1.toNat g.2.1.toNat
        · rfl
        · rw [if_pos rfl, hni hb]; rfl
      cases hll : l
      · rw [if_neg (by decide), fin]
      · obtain ⟨_, a1, a2⟩ := hl hll
        rw [if_pos rfl, fin, a1, a2]; rfl
    by_cases h3 : g.1 = 3
    · rw [ite_t (decide_eq_true h3), m2 h3, ite_f (by simp), rest]
    · rw [ite_f (decide_eq_false h3), rest]
theorem law_FnIdentities {code : List Int} (hb : ∀ b ∈ code, 0 ≤ b ∧ b < 256) : w_FnIdentities BK (code, ()) = some true := by
  simp only [w_FnIdentities, w_big, some_bind']
  by_cases hl : (code.length : Int) > 4096
  · rw [ite_t (decide_eq_true hl)]
  · rw [ite_f (decide_eq_false hl)]
    have hc : okCode code := ⟨by omega, hb⟩
    obtain ⟨⟨f, k, u⟩, e1, _⟩ := DrawIsOfKind_ok hc hBK
    obtain ⟨g, e2, _⟩ := DrawIsIdempotent_ok hc hBK
    obtain ⟨n, e3, _⟩ := DrawKindCounts_ok hc hBK
    obtain ⟨q, k1, k2, k3, k4, k5⟩ := kind_eq f k
    obtain ⟨l, l1, l2, l3⟩ := lat_eq g
    have bxor : ∀ b : Bool, (!(b == b)) = false := fun b => by cases b <;> rfl
    have hlen : (kindsX n).1.length < 4611686018427387904 := by
      unfold kindsX; split
      · rw [cntL_len]; decide
      · decide
    have j30 : ∀ (kn : Option Bool) (kr : Bool → Option Bool), w_FnIdentities_j30 BK BK f q.1 q.2.1 g (idemX g).1 (idemX g).2.1 (symX g).1 l.1 (nearX g).1 n (kindsX n).1 (kindsX n).2.1 kn kr = kr true := fun kn kr => by
      simp only [w_FnIdentities_j30, idn_32 k3 k4 k5 l3]
      by_cases hn : 0 ≤ n ∧ n ≤ 4
      · obtain ⟨m, rfl⟩ : ∃ m : Nat, n = m := ⟨n.toNat, by omega⟩
        have hm : m ≤ 4 := by omega
        obtain ⟨a, b, c, d, c1, c2, c3, c4⟩ := cntL_at m (2 ^ 2 ^ m) 0 0 0 0 0 (Nat.le_refl _) (Nat.le_refl _)
        have hk : kindsX (m : Int) = ([(a : Int), (b : Int), (c : Int), (d : Int)], 0, ()) := by
          rw [kindsX, decide_eq_true hn.1, decide_eq_true hn.2, if_pos (by rfl), Int.toNat_natCast, c1]
        have hbv : b = 2 ^ (m + 1) := by rw [c4, cntS_all hm]; omega
        rw [hk]
        simp only [decide_true, if_true]
        rw [ite_t (show bnds (1 : Int) ((([(a : Int), (b : Int), (c : Int), (d : Int)] : List Int).length : Nat) : Int) = true from rfl), ite_t (u64_dec _), w64s (by omega), u64n (by omega), shl1 (by omega), show ([(a : Int), (b : Int), (c : Int), (d : Int)] : List Int).getD (1 : Int).toNat 0 = (b : Int) from rfl, hbv]
        rw [ite_f (by simp), ite_t (by rfl), ite_t (by rfl), show ([(a : Int), ((2 ^ (m + 1) : Nat) : Int), (c : Int), (d : Int)] : List Int).getD (2 : Int).toNat 0 = (c : Int) from rfl, show ([(a : Int), ((2 ^ (m + 1) : Nat) : Int), (c : Int), (d : Int)] : List Int).getD (0 : Int).toNat 0 = (a : Int) from rfl]
        rw [ite_f (decide_eq_false (show ¬ ((c : Int) > (a : Int)) by omega)), ite_t (by rfl), ite_t (by rfl), ite_f (decide_eq_false (show ¬ ((c : Int) > ((2 ^ (m + 1) : Nat) : Int)) by omega))]
      · have hk : (kindsX n).2.1 = 2 := by rw [kindsX, and_decF hn]; rfl
        rw [hk]; rfl
    simp only [e1, e2, e3, k1, k2, l1, l2, some_bind', i_IsIdempotent_eq, s_IsIdempotent_eq, i_IsSymmetric_eq _ hBK, s_IsSymmetric_eq _ hBK, i_HasNear_eq _ hBK, s_HasNear_eq _ hBK, i_KindCounts_eq _ hBK, s_KindCounts_eq _ hBK, w_likeInts_refl hlen hBK, w_FnIdentities_j8, w_FnIdentities_j13, w_FnIdentities_j17, w_FnIdentities_j21, w_FnIdentities_j25, j30, bxor, decide_true, Bool.not_true, Bool.false_eq_true, if_false]
end Go.Proofs.Ytckkagmccbkfbaa.E
namespace Go.Proofs.Ytckkagmccbkfbaa.E
open Go Go.Proofs
/-- FnIdentities, in plain numbers and lists: no condition but what is known of all data. -/
theorem PuFnIdentities (x : den as_w_FnIdentities) (h : okD as_w_FnIdentities x) : ∃ K, w_FnIdentities K x = some true := by
  obtain ⟨code, u⟩ := x
  exact ⟨BK, law_FnIdentities fun b hb => by
    have h1 := bounds_u8 (h.1.2 b hb)
    exact ⟨h1.1, Int.lt_of_le_of_lt h1.2 (by decide)⟩⟩
end Go.Proofs.Ytckkagmccbkfbaa.E
