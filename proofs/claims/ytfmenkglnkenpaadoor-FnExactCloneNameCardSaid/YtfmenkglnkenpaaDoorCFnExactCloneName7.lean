/-
  What the Go functions that FnExactCloneName reaches hand back, each as a plain function with a proof that the call does so, and plain lemmas on them. Conditions: those of each theorem.
-/
import Derived.Test.YtfmenkglnkenpaaDoorCFnExactCloneName6
namespace Go.Proofs.YtfmenkglnkenpaaDoor.E
open Go Go.Proofs Go.Proofs.YtfmenkglnkenpaaDoor
set_option maxRecDepth 100000
set_option linter.unusedVariables false
noncomputable def as_s_l02Code : Ty := (.pair (.sl tq0) .unit)
noncomputable def sp_s_l02Code (F : ((List dq0) × Unit) → Option Int) : FnSpec := ⟨as_s_l02Code, [false], (.int .i64), F⟩
noncomputable def s_l02Code_l2 {R : Type} (K : Nat) : Nat → (List dq0) → Int → ((List dq0) → Option R) → (Int → Option R) → Option R
  | 0, _, _, _, _ => none
  | k + 1, v0, v3, kx0, kr =>
    (if (decide (v3 < (v0.length : Int))) = true then
    (if (bnds v3 (v0.length : Int)) = true then
    (s_l01Is K ((v0.getD v3.toNat ((0 : Int), (0 : Int), ())), ())).bind fun y1 =>
    (if (!y1) = true then
    kr (1 : Int)
    else
    s_l02Code_l2 K k v0 (IntKind.i64.wrap (v3 + (1 : Int))) kx0 kr)
    else
    none)
    else
    kx0 v0)
noncomputable def s_l02Code (K : Nat) (x : ((List dq0) × Unit)) : Option Int :=
    s_l02Code_l2 K K x.1 (0 : Int) (fun z2 =>
    (if (decide ((z2.length : Int) > (8 : Int))) = true then
    some (2 : Int)
    else
    some (0 : Int))) (fun z3 =>
    some z3)
noncomputable def X0_s_l02Code : Lv := [(0, (.v (.sl tq0)))]
noncomputable def rv_s_l02Code : Lv := [(2, (.v (.int .i64)))]
noncomputable def D_s_l02Code (K : Nat) : List (PD (den (.int .i64))) := [.L 2 [(0, (.v (.sl tq0))), (3, (.v (.int .i64)))] [] (fun k x kx kr => s_l02Code_l2 K k x.1 x.2.1 (fun z0 => kx 0 (mkSt X0_s_l02Code (z0, ()))) (fun z0 => kr (mkSt rv_s_l02Code (z0, ()))))]
theorem ok_s_l02Code (K : Nat) : FnOk Tryd.prog 14 (sp_s_l02Code (s_l02Code K)) :=
  fn_okD tysOk [C_s_l01Is K] 0 (D_s_l02Code K) [(0, X0_s_l02Code)] rv_s_l02Code K Tryd.func14 (by kernel_rfl) ⟨⟨fun _ _ _ _ => by kernel_rfl, fun _ _ _ => rfl⟩, trivial⟩ (fun _ => by kernel_rfl)
noncomputable def C_s_l02Code (K : Nat) : CB Tryd.prog := .f _ _ (ok_s_l02Code K)
noncomputable def as_s_CloneName : Ty := (.pair (.sl tq0) .unit)
noncomputable def sp_s_CloneName (F : ((List dq0) × Unit) → Option (ByteArray × Int × Unit)) : FnSpec := ⟨as_s_CloneName, [false], (.tup (.pair .str (.pair (.int .i64) .unit))), F⟩
noncomputable def s_CloneName (K : Nat) (x : ((List dq0) × Unit)) : Option (ByteArray × Int × Unit) :=
    (s_l02Code K (x.1, ())).bind fun y1 =>
    (if (!decide (y1 = (0 : Int))) = true then
    some ((⟨#[]⟩ : ByteArray), y1, ())
    else
    (s_l08Name K (x.1, ())).bind fun y2 =>
    some (y2, (0 : Int), ()))
noncomputable def rv_s_CloneName : Lv := [(2, (.v .str)), (3, (.v (.int .i64)))]
theorem ok_s_CloneName (K : Nat) : FnOk Tryd.prog 6 (sp_s_CloneName (s_CloneName K)) :=
  fn_okD tysOk [C_s_l02Code K, C_s_l08Name K] 0 [] [] rv_s_CloneName K Tryd.func6 (by kernel_rfl) trivial (fun _ => by kernel_rfl)
noncomputable def C_s_CloneName (K : Nat) : CB Tryd.prog := .f _ _ (ok_s_CloneName K)
noncomputable def as_w_toFunc : Ty := (.pair tq0 .unit)
noncomputable def sp_w_toFunc (F : (dq0 × Unit) → Option dq0) : FnSpec := ⟨as_w_toFunc, [false], tq0, F⟩
noncomputable def w_toFunc (K : Nat) (x : (dq0 × Unit)) : Option dq0 :=
    some ((x.1.1, ((0 : Int), (0 : Int), ()).2.1, ()).1, x.1.2.1, ())
noncomputable def rv_w_toFunc : Lv := [(2, (.bx (.v tq0)))]
theorem ok_w_toFunc (K : Nat) : FnOk Tryd.prog 16 (sp_w_toFunc (w_toFunc K)) :=
  fn_okD tysOk [] 0 [] [] rv_w_toFunc K Tryd.func16 (by kernel_rfl) trivial (fun _ => by kernel_rfl)
noncomputable def C_w_toFunc (K : Nat) : CB Tryd.prog := .f _ _ (ok_w_toFunc K)
noncomputable def as_w_toFuncS : Ty := (.pair (.sl tq0) .unit)
noncomputable def sp_w_toFuncS (F : ((List dq0) × Unit) → Option (List dq0)) : FnSpec := ⟨as_w_toFuncS, [false], (.sl tq0), F⟩
noncomputable def w_toFuncS_l3 {R : Type} (K : Nat) : Nat → (List dq0) → (List dq0) → Int → ((List dq0) → Option R) → Option R
  | 0, _, _, _, _ => none
  | k + 1, v0, v3, v4, kx0 =>
    (if (decide (v4 < (v0.length : Int))) = true then
    (if (bnds v4 (v0.length : Int)) = true then
    (w_toFunc K ((v0.getD v4.toNat ((0 : Int), (0 : Int), ())), ())).bind fun y2 =>
    (if (bnds v4 (v3.length : Int)) = true then
    let l3 := (v3.set v4.toNat y2)
    w_toFuncS_l3 K k v0 l3 (IntKind.i64.wrap (v4 + (1 : Int))) kx0
    else
    none)
    else
    none)
    else
    kx0 v3)
noncomputable def w_toFuncS (K : Nat) (x : ((List dq0) × Unit)) : Option (List dq0) :=
    (if (decide (0 ≤ (x.1.length : Int)) && decide ((x.1.length : Int) ≤ (lim : Int)) && decide ((x.1.length : Int) = (x.1.length : Int))) = true then
    let l1 := (List.replicate (x.1.length : Int).toNat ((0 : Int), (0 : Int), ()))
    w_toFuncS_l3 K K x.1 l1 (0 : Int) (fun z4 =>
    some z4)
    else
    none)
noncomputable def X0_w_toFuncS : Lv := [(3, (.r tq0))]
noncomputable def rv_w_toFuncS : Lv := [(2, (.r tq0))]
noncomputable def D_w_toFuncS (K : Nat) : List (PD (den (.sl tq0))) := [.L 3 [(0, (.v (.sl tq0))), (3, (.r tq0)), (4, (.v (.int .i64)))] [] (fun k x kx kr => w_toFuncS_l3 K k x.1 x.2.1 x.2.2.1 (fun z0 => kx 0 (mkSt X0_w_toFuncS (z0, ()))))]
theorem ok_w_toFuncS (K : Nat) : FnOk Tryd.prog 7 (sp_w_toFuncS (w_toFuncS K)) :=
  fn_okD tysOk [C_w_toFunc K] 0 (D_w_toFuncS K) [(0, X0_w_toFuncS)] rv_w_toFuncS K Tryd.func7 (by kernel_rfl) ⟨⟨fun _ _ _ _ => by kernel_rfl, fun _ _ _ => rfl⟩, trivial⟩ (fun _ => by kernel_rfl)
noncomputable def C_w_toFuncS (K : Nat) : CB Tryd.prog := .f _ _ (ok_w_toFuncS K)
noncomputable def as_i_areFuncs_c1 : Ty := (.pair tq0 .unit)
noncomputable def sp_i_areFuncs_c1 (F : (dq0 × Unit) → Option Bool) : FnSpec := ⟨as_i_areFuncs_c1, [false], .bool, F⟩
noncomputable def i_areFuncs_c1 (K : Nat) (x : (dq0 × Unit)) : Option Bool :=
    (i_IsFunc K (x.1, ())).bind fun y1 =>
    some (!y1)
noncomputable def rv_i_areFuncs_c1 : Lv := [(2, (.v .bool))]
theorem ok_i_areFuncs_c1 (K : Nat) : FnOk Tryd.prog 61 (sp_i_areFuncs_c1 (i_areFuncs_c1 K)) :=
  fn_okD tysOk [C_i_IsFunc K] 0 [] [] rv_i_areFuncs_c1 K Tryd.func61 (by kernel_rfl) trivial (fun _ => by kernel_rfl)
noncomputable def C_i_areFuncs_c1 (K : Nat) : CB Tryd.prog := .f _ _ (ok_i_areFuncs_c1 K)
noncomputable def as_i_areFuncs : Ty := (.pair (.sl tq0) .unit)
noncomputable def sp_i_areFuncs (F : ((List dq0) × Unit) → Option Bool) : FnSpec := ⟨as_i_areFuncs, [false], .bool, F⟩
noncomputable def i_areFuncs (K : Nat) (x : ((List dq0) × Unit)) : Option Bool :=
    (slices_ContainsFunc_impl_Func K (x.1, (fun y2 => i_areFuncs_c1 K (y2.1, ())), ())).bind fun y1 =>
    some (!y1)
noncomputable def rv_i_areFuncs : Lv := [(2, (.v .bool))]
theorem ok_i_areFuncs (K : Nat) : FnOk Tryd.prog 31 (sp_i_areFuncs (i_areFuncs K)) :=
  fn_okD tysOk [C_slices_ContainsFunc_impl_Func K, C_i_areFuncs_c1 K] 0 [] [] rv_i_areFuncs K Tryd.func31 (by kernel_rfl) trivial (fun _ => by kernel_rfl)
noncomputable def C_i_areFuncs (K : Nat) : CB Tryd.prog := .f _ _ (ok_i_areFuncs K)
noncomputable def as_i_listCode : Ty := (.pair (.sl tq0) .unit)
noncomputable def sp_i_listCode (F : ((List dq0) × Unit) → Option Int) : FnSpec := ⟨as_i_listCode, [false], (.int .i64), F⟩
noncomputable def i_listCode (K : Nat) (x : ((List dq0) × Unit)) : Option Int :=
    (i_areFuncs K (x.1, ())).bind fun y1 =>
    (if (!y1) = true then
    some (1 : Int)
    else
    (if (decide ((x.1.length : Int) > (8 : Int))) = true then
    some (2 : Int)
    else
    some (0 : Int)))
noncomputable def rv_i_listCode : Lv := [(2, (.v (.int .i64)))]
theorem ok_i_listCode (K : Nat) : FnOk Tryd.prog 17 (sp_i_listCode (i_listCode K)) :=
  fn_okD tysOk [C_i_areFuncs K] 0 [] [] rv_i_listCode K Tryd.func17 (by kernel_rfl) trivial (fun _ => by kernel_rfl)
noncomputable def C_i_listCode (K : Nat) : CB Tryd.prog := .f _ _ (ok_i_listCode K)
noncomputable def as_i_CloneName : Ty := (.pair (.sl tq0) .unit)
noncomputable def sp_i_CloneName (F : ((List dq0) × Unit) → Option (ByteArray × Int × Unit)) : FnSpec := ⟨as_i_CloneName, [false], (.tup (.pair .str (.pair (.int .i64) .unit))), F⟩
noncomputable def i_CloneName (K : Nat) (x : ((List dq0) × Unit)) : Option (ByteArray × Int × Unit) :=
    (i_listCode K (x.1, ())).bind fun y1 =>
    (if (!decide (y1 = (0 : Int))) = true then
    some ((⟨#[]⟩ : ByteArray), y1, ())
    else
    (i_cloneName K (x.1, ())).bind fun y2 =>
    some (y2, (0 : Int), ()))
noncomputable def rv_i_CloneName : Lv := [(2, (.v .str)), (3, (.v (.int .i64)))]
theorem ok_i_CloneName (K : Nat) : FnOk Tryd.prog 8 (sp_i_CloneName (i_CloneName K)) :=
  fn_okD tysOk [C_i_listCode K, C_i_cloneName K] 0 [] [] rv_i_CloneName K Tryd.func8 (by kernel_rfl) trivial (fun _ => by kernel_rfl)
noncomputable def C_i_CloneName (K : Nat) : CB Tryd.prog := .f _ _ (ok_i_CloneName K)
noncomputable def as_w_eqFunc : Ty := (.pair tq0 (.pair tq0 .unit))
noncomputable def sp_w_eqFunc (F : (dq0 × dq0 × Unit) → Option Bool) : FnSpec := ⟨as_w_eqFunc, [false, false], .bool, F⟩
noncomputable def w_eqFunc (K : Nat) (x : (dq0 × dq0 × Unit)) : Option Bool :=
    (if (!decide (x.1.1 = x.2.1.1)) = true then
    some false
    else
    (if (!decide (x.1.2.1 = x.2.1.2.1)) = true then
    some false
    else
    some true))
noncomputable def rv_w_eqFunc : Lv := [(4, (.v .bool))]
theorem ok_w_eqFunc (K : Nat) : FnOk Tryd.prog 19 (sp_w_eqFunc (w_eqFunc K)) :=
  fn_okD tysOk [] 0 [] [] rv_w_eqFunc K Tryd.func19 (by kernel_rfl) trivial (fun _ => by kernel_rfl)
noncomputable def C_w_eqFunc (K : Nat) : CB Tryd.prog := .f _ _ (ok_w_eqFunc K)
noncomputable def as_w_eqFuncS : Ty := (.pair (.sl tq0) (.pair (.sl tq0) .unit))
noncomputable def sp_w_eqFuncS (F : ((List dq0) × (List dq0) × Unit) → Option Bool) : FnSpec := ⟨as_w_eqFuncS, [false, false], .bool, F⟩
noncomputable def w_eqFuncS_l4 {R : Type} (K : Nat) : Nat → (List dq0) → (List dq0) → Int → (Option R) → (Bool → Option R) → Option R
  | 0, _, _, _, _, _ => none
  | k + 1, v0, v1, v5, kx0, kr =>
    (if (decide (v5 < (v0.length : Int))) = true then
    (if (bnds v5 (v0.length : Int)) = true then
    (if (bnds v5 (v1.length : Int)) = true then
    (w_eqFunc K ((v0.getD v5.toNat ((0 : Int), (0 : Int), ())), (v1.getD v5.toNat ((0 : Int), (0 : Int), ())), ())).bind fun y1 =>
    (if (!y1) = true then
    kr false
    else
    w_eqFuncS_l4 K k v0 v1 (IntKind.i64.wrap (v5 + (1 : Int))) kx0 kr)
    else
    none)
    else
    none)
    else
    kx0)
noncomputable def w_eqFuncS (K : Nat) (x : ((List dq0) × (List dq0) × Unit)) : Option Bool :=
    (if (!decide ((x.1.length : Int) = (x.2.1.length : Int))) = true then
    some false
    else
    w_eqFuncS_l4 K K x.1 x.2.1 (0 : Int) (some true) (fun z2 =>
    some z2))
noncomputable def X0_w_eqFuncS : Lv := []
noncomputable def rv_w_eqFuncS : Lv := [(4, (.v .bool))]
noncomputable def D_w_eqFuncS (K : Nat) : List (PD (den .bool)) := [.L 4 [(0, (.v (.sl tq0))), (1, (.v (.sl tq0))), (5, (.v (.int .i64)))] [] (fun k x kx kr => w_eqFuncS_l4 K k x.1 x.2.1 x.2.2.1 (kx 0 (mkSt X0_w_eqFuncS ())) (fun z0 => kr (mkSt rv_w_eqFuncS (z0, ()))))]
theorem ok_w_eqFuncS (K : Nat) : FnOk Tryd.prog 9 (sp_w_eqFuncS (w_eqFuncS K)) :=
  fn_okD tysOk [C_w_eqFunc K] 0 (D_w_eqFuncS K) [(0, X0_w_eqFuncS)] rv_w_eqFuncS K Tryd.func9 (by kernel_rfl) ⟨⟨fun _ _ _ _ => by kernel_rfl, fun _ _ _ => rfl⟩, trivial⟩ (fun _ => by kernel_rfl)
noncomputable def C_w_eqFuncS (K : Nat) : CB Tryd.prog := .f _ _ (ok_w_eqFuncS K)
noncomputable def as_w_FnExactCloneName : Ty := (.pair (.sl tq0) .unit)
noncomputable def sp_w_FnExactCloneName (F : ((List dq0) × Unit) → Option Bool) : FnSpec := ⟨as_w_FnExactCloneName, [false], .bool, F⟩
noncomputable def w_FnExactCloneName_j10 {R : Type} (K : Nat) (k : Nat) (v0 : (List dq0)) (v6 : (List dq0)) (kn : Option R) (kr : (Bool → Option R)) : Option R :=
    (w_toFuncS K (v0, ())).bind fun y6 =>
    (w_eqFuncS K (v6, y6, ())).bind fun y7 =>
    (if (!y7) = true then
    kr false
    else
    kr true)
noncomputable def w_FnExactCloneName (K : Nat) (x : ((List dq0) × Unit)) : Option Bool :=
    (w_szFuncS K (x.1, (1048576 : Int), ())).bind fun y1 =>
    (if (decide (y1 < (0 : Int))) = true then
    some true
    else
    (w_toFuncS K (x.1, ())).bind fun y2 =>
    (s_CloneName K (y2, ())).bind fun y3 =>
    (w_toFuncS K (x.1, ())).bind fun y4 =>
    (i_CloneName K (y4, ())).bind fun y5 =>
    (if (cmpS .neq y5.1 y3.1) = true then
    some false
    else
    (if (!decide (y5.2.1 = y3.2.1)) = true then
    some false
    else
    w_FnExactCloneName_j10 K K x.1 y4 none (fun z8 =>
    some z8))))
noncomputable def rv_w_FnExactCloneName : Lv := [(2, (.v .bool))]
noncomputable def D_w_FnExactCloneName (K : Nat) : List (PD (den .bool)) := [.J 10 [(0, (.v (.sl tq0))), (6, (.r tq0))] [] 0 (fun k x kn kx kr => w_FnExactCloneName_j10 K k x.1 x.2.1 (kn ()) (fun z0 => kr (mkSt rv_w_FnExactCloneName (z0, ()))))]
theorem ok_w_FnExactCloneName (K : Nat) : FnOk Tryd.prog 3 (sp_w_FnExactCloneName (w_FnExactCloneName K)) :=
  fn_okD tysOk [C_w_szFuncS K, C_s_CloneName K, C_w_toFuncS K, C_i_CloneName K, C_w_eqFuncS K] 0 (D_w_FnExactCloneName K) [] rv_w_FnExactCloneName K Tryd.func3 (by kernel_rfl) ⟨fun _ _ _ _ _ => by kernel_rfl, trivial⟩ (fun _ => by kernel_rfl)
noncomputable def C_w_FnExactCloneName (K : Nat) : CB Tryd.prog := .f _ _ (ok_w_FnExactCloneName K)
end Go.Proofs.YtfmenkglnkenpaaDoor.E
namespace Go.Proofs.YtfmenkglnkenpaaDoor.E
open Go Go.Proofs
set_option linter.unusedVariables false
set_option linter.unusedSimpArgs false
variable {K : Nat} {R : Type}
/-! names of lists: the spec's way is the program's -/
section
variable {l p r : List DF} {n b : Nat} {v3 i : Int} {z w k : Nat} {u o a : Bool}
theorem name_j9 (e : l = p ++ ((n : Int), (b : Int), ()) :: r) (hn : n ≤ 4) (hb : b < 2 ^ 2 ^ n) (hK : 100 ≤ K) (kn : List DF → Int → Bool → Bool → Bool → Int → Int → Int → Option R) :
    s_l08Name_j9 K k l v3 u o a (z : Int) (w : Int) (p.length : Int) kn = kn l v3 u o a ((min z (degN n b 0) : Nat) : Int) ((min w (degN n b 1) : Nat) : Int) (p.length : Int) := by
  subst e
  have := b4 hn hb
  have h0 := s_l08Degree_eq (K := K) (c := 0) hn (by omega : b < 9223372036854775808) hK
  have h1 := s_l08Degree_eq (K := K) (c := 1) hn (by omega : b < 9223372036854775808) hK
  simp only [s_l08Name_j9]
  rw [ite_t bnds_mid, getD_midI, show ((0 : Int)) = ((0 : Nat) : Int) from rfl, h0, some_bind', ite_t bnds_mid, show ((1 : Int)) = ((1 : Nat) : Int) from rfl, h1, some_bind', minL_nat, minL_nat]
theorem name_j8 (e : l = p ++ ((n : Int), (b : Int), ()) :: r) (hn : n ≤ 4) (hb : b < 2 ^ 2 ^ n) (hK : 100 ≤ K) (kn : List DF → Int → Bool → Bool → Bool → Int → Int → Int → Option R) :
    s_l08Name_j8 K k l v3 u o a (z : Int) (w : Int) (p.length : Int) kn = kn l v3 u o (a && joinB true n b) ((min z (degN n b 0) : Nat) : Int) ((min w (degN n b 1) : Nat) : Int) (p.length : Int) := by
  simp only [s_l08Name_j8]
  cases a
  · rw [ite_f rfl, name_j9 e hn hb hK]; rfl
  · rw [ite_t rfl, ite_t (by rw [e]; exact bnds_mid), show l.getD ((p.length : Nat) : Int).toNat ((0 : Int), (0 : Int), ()) = ((n : Int), (b : Int), ()) by rw [e]; exact getD_midI p r _ _, s_l08Joined_eq true hn hb hK, some_bind', name_j9 e hn hb hK]; rfl
theorem name_j7 (e : l = p ++ ((n : Int), (b : Int), ()) :: r) (hn : n ≤ 4) (hb : b < 2 ^ 2 ^ n) (hK : 100 ≤ K) (kn : List DF → Int → Bool → Bool → Bool → Int → Int → Int → Option R) :
    s_l08Name_j7 K k l v3 u o a (z : Int) (w : Int) (p.length : Int) kn = kn l v3 u (o && joinB false n b) (a && joinB true n b) ((min z (degN n b 0) : Nat) : Int) ((min w (degN n b 1) : Nat) : Int) (p.length : Int) := by
  simp only [s_l08Name_j7]
  cases o
  · rw [ite_f rfl, name_j8 e hn hb hK]; rfl
  · rw [ite_t rfl, ite_t (by rw [e]; exact bnds_mid), show l.getD ((p.length : Nat) : Int).toNat ((0 : Int), (0 : Int), ()) = ((n : Int), (b : Int), ()) by rw [e]; exact getD_midI p r _ _, s_l08Joined_eq false hn hb hK, some_bind', name_j8 e hn hb hK]; rfl
end
theorem name_l4 {l : List DF} (h : okL l) (hK : 100 ≤ K) (v3 : Int) (kx0 : Int → Bool → Bool → Bool → Int → Int → Option R) (k : Nat) (hk : 100 ≤ k) :
    s_l08Name_l4 K k l v3 true true true 9 9 0 kx0 = kx0 v3 (l.all pU) (l.all (pJ false)) (l.all (pJ true)) ((leastN 0 l : Nat) : Int) ((leastN 1 l : Nat) : Int) := by
  have h2 := h.2
  refine (lpLF (l := l) (L := fun k (s : Bool × Bool × Bool × Nat × Nat) i => s_l08Name_l4 K k l v3 s.1 s.2.1 s.2.2.1 (s.2.2.2.1 : Int) (s.2.2.2.2 : Int) i kx0)
    (f := fun s y => (s.1 && pU y, s.2.1 && pJ false y, s.2.2.1 && pJ true y, min s.2.2.2.1 (pD 0 y), min s.2.2.2.2 (pD 1 y))) (B := 0)
    (kx := fun s => kx0 v3 s.1 s.2.1 s.2.2.1 (s.2.2.2.1 : Int) (s.2.2.2.2 : Int)) (fun k s => ?_) (fun k p y r s e _ => ?_) l [] k (true, true, true, 9, 9) rfl (by omega)).trans ?_
  · simp only [s_l08Name_l4]; rw [ite_f (decide_eq_false (by omega))]
  · obtain ⟨n, b, rfl, hn, hb⟩ := h.nat (mem_mid e)
    obtain ⟨u, o, a, z, w⟩ := s
    have hw : IntKind.i64.wrap ((p.length : Int) + 1) = (((p ++ [((n : Int), (b : Int), ())]).length : Nat) : Int) := by rw [snoc_len]; exact w64s (by rw [e] at h2; simp at h2; omega)
    simp only [s_l08Name_l4, s_l08Name_j5]
    rw [ite_t (by rw [e]; exact lt_len)]
    cases u
    · rw [ite_f rfl, name_j7 e hn hb hK, hw]; rfl
    · have := b4 hn hb
      rw [ite_t rfl, ite_t (by rw [e]; exact bnds_mid), show l.getD ((p.length : Nat) : Int).toNat ((0 : Int), (0 : Int), ()) = ((n : Int), (b : Int), ()) by rw [e]; exact getD_midI p r _ _, s_l01Essential_eq hn (by omega) (by omega), some_bind', name_j7 e hn hb hK, hw]
      have e1 : decide (((essL n b).length : Int) ≤ 1) = (true && pU ((n : Int), (b : Int), ())) := by
        rw [Bool.true_and, pU, Bool.eq_iff_iff, decide_eq_true_eq, decide_eq_true_eq]
        show ((essL n b).length : Int) ≤ 1 ↔ (essL n b).length ≤ 1
        omega
      rw [e1]; rfl
  · have : ∀ (l : List DF) (s : Bool × Bool × Bool × Nat × Nat), l.foldl (fun s y => (s.1 && pU y, s.2.1 && pJ false y, s.2.2.1 && pJ true y, min s.2.2.2.1 (pD 0 y), min s.2.2.2.2 (pD 1 y))) s
        = (s.1 && l.all pU, s.2.1 && l.all (pJ false), s.2.2.1 && l.all (pJ true), l.foldl (fun a f => min a (pD 0 f)) s.2.2.2.1, l.foldl (fun a f => min a (pD 1 f)) s.2.2.2.2) := by
      intro l
      induction l with
      | nil => intro s; simp
      | cons y r ih => intro s; rw [List.foldl_cons, ih]; simp [Bool.and_assoc]
    rw [this]; rfl
def four (z o : Bool) (a b c d : ByteArray) : ByteArray := if (z && o) = true then a else if z = true then b else if o = true then c else d
def kindN (kept mono : Bool) (a b c d : ByteArray) : ByteArray := if (kept && mono) = true then a else if mono = true then b else if kept = true then c else d
def degB (s : ByteArray) (d : Nat) : ByteArray := if d = 9 then s else (s ++ ⟨#[94]⟩) ++ ⟨#[(48 + d).toUInt8]⟩
/-- The name, out of what the list is. -/
def nameB (z o d m a u v e : Bool) (p q : Nat) : ByteArray :=
  if (u && m) = true then four z o ⟨#[73, 50]⟩ ⟨#[73, 48]⟩ ⟨#[73, 49]⟩ ⟨#[73]⟩
  else if u = true then (if d = true then ⟨#[78, 50]⟩ else ⟨#[78]⟩)
  else if v = true then four z o ⟨#[86, 50]⟩ ⟨#[86, 48]⟩ ⟨#[86, 49]⟩ ⟨#[86]⟩
  else if e = true then four z o ⟨#[69, 50]⟩ ⟨#[69, 48]⟩ ⟨#[69, 49]⟩ ⟨#[69]⟩
  else if (a && z && o) = true then ⟨#[76, 50]⟩
  else if (a && d) = true then ⟨#[76, 51]⟩
  else if a = true then four z o ⟨#[76, 50]⟩ ⟨#[76, 48]⟩ ⟨#[76, 49]⟩ ⟨#[76]⟩
  else if d = true then (if m = true then ⟨#[68, 50]⟩ else if z = true then ⟨#[68, 49]⟩ else ⟨#[68]⟩)
  else if 2 ≤ p then degB (kindN z m ⟨#[83, 48, 48]⟩ ⟨#[83, 48, 49]⟩ ⟨#[83, 48, 50]⟩ ⟨#[83, 48]⟩) p
  else if 2 ≤ q then degB (kindN o m ⟨#[83, 49, 48]⟩ ⟨#[83, 49, 49]⟩ ⟨#[83, 49, 50]⟩ ⟨#[83, 49]⟩) q
  else if m = true then four z o ⟨#[77, 50]⟩ ⟨#[77, 48]⟩ ⟨#[77, 49]⟩ ⟨#[77]⟩
  else four z o ⟨#[82, 50]⟩ ⟨#[82, 48]⟩ ⟨#[82, 49]⟩ ⟨#[66, 70]⟩
def nameV (l : List DF) : ByteArray := nameB (l.all (pC 0)) (l.all (pC 1)) (l.all (pC 2)) (l.all (pC 3)) (l.all (pC 4)) (l.all pU) (l.all (pJ false)) (l.all (pJ true)) (leastN 0 l) (leastN 1 l)
theorem leastN_le (c : Nat) (l : List DF) : leastN c l ≤ 9 := by
  have : ∀ (l : List DF) (a : Nat), l.foldl (fun a f => min a (pD c f)) a ≤ a := by
    intro l
    induction l with
    | nil => intro a; exact Nat.le_refl _
    | cons y r ih => intro a; exact Nat.le_trans (ih _) (Nat.min_le_left _ _)
  exact this l 9
theorem four_eq (c0 c1 c2 c3 c4 : Bool) (a b c d : ByteArray) : s_l08Four K (mask c0 c1 c2 c3 c4, a, b, c, d, ()) = some (four c0 c1 a b c d) := by
  simp only [s_l08Four, four]
  have h3 : bitI .and .i64 (mask c0 c1 c2 c3 c4) 3 = ((c0.toNat + 2 * c1.toNat : Nat) : Int) := by revert c0 c1 c2 c3 c4; decide
  rw [h3]
  cases c0 <;> cases c1 <;> rfl
theorem mask3 (c0 c1 c2 c3 c4 : Bool) : decide (bitI .and .i64 (mask c0 c1 c2 c3 c4) 3 = 3) = (c0 && c1) := by revert c0 c1 c2 c3 c4; decide
theorem mask_1 (c0 c1 c2 c3 c4 : Bool) : (!decide (bitI .and .i64 (mask c0 c1 c2 c3 c4) 1 = 0)) = c0 := by revert c0 c1 c2 c3 c4; decide
theorem mask_2 (c0 c1 c2 c3 c4 : Bool) : (!decide (bitI .and .i64 (mask c0 c1 c2 c3 c4) 2 = 0)) = c1 := by revert c0 c1 c2 c3 c4; decide
theorem mask_4 (c0 c1 c2 c3 c4 : Bool) : (!decide (bitI .and .i64 (mask c0 c1 c2 c3 c4) 4 = 0)) = c2 := by revert c0 c1 c2 c3 c4; decide
theorem mask_8 (c0 c1 c2 c3 c4 : Bool) : (!decide (bitI .and .i64 (mask c0 c1 c2 c3 c4) 8 = 0)) = c3 := by revert c0 c1 c2 c3 c4; decide
theorem mask_16 (c0 c1 c2 c3 c4 : Bool) : (!decide (bitI .and .i64 (mask c0 c1 c2 c3 c4) 16 = 0)) = c4 := by revert c0 c1 c2 c3 c4; decide
theorem kind_eq (a b : Bool) (c d e f : ByteArray) : s_l08Kind K (a, b, c, d, e, f, ()) = some (kindN a b c d e f) := by
  simp only [s_l08Kind, s_l08Kind_j3, gN_eq, kindN]
  cases a <;> cases b <;> rfl
theorem dec_eq {p : Nat} (h : p < 10) : s_l01Dec K (K + 1) ((p : Int), ()) = some (⟨#[(48 + p).toUInt8]⟩ : ByteArray) := by
  match p, h with
  | 0, _ => rfl | 1, _ => rfl | 2, _ => rfl | 3, _ => rfl | 4, _ => rfl | 5, _ => rfl | 6, _ => rfl | 7, _ => rfl | 8, _ => rfl | 9, _ => rfl
theorem fmt_eq {p : Nat} (h : p < 10) : strconv_FormatInt K ((p : Int), (10 : Int), ()) = some (⟨#[(48 + p).toUInt8]⟩ : ByteArray) := by
  match p, h with
  | 0, _ => rfl | 1, _ => rfl | 2, _ => rfl | 3, _ => rfl | 4, _ => rfl | 5, _ => rfl | 6, _ => rfl | 7, _ => rfl | 8, _ => rfl | 9, _ => rfl
theorem size_app (a b : ByteArray) : (a ++ b).size = a.size + b.size := ByteArray.size_append
theorem degrees_eq {s : ByteArray} (hs : s.size ≤ 10) {p : Nat} (h : p ≤ 9) (hK : 1 ≤ K) : s_l08Degrees K (s, (p : Int), ()) = some (degB s p) := by
  obtain ⟨k, rfl⟩ : ∃ k, K = k + 1 := ⟨K - 1, by omega⟩
  have h9 : (9 : Int) = ((9 : Nat) : Int) := rfl
  simp only [s_l08Degrees, degB]
  by_cases e : p = 9
  · rw [ite_t (decide_eq_true (by omega)), if_pos e]
  · rw [ite_f (decide_eq_false (by omega)), if_neg e, ite_t (decide_eq_true (by show s.size + 1 ≤ _; omega))]
    have hd : s_l01Dec (k + 1) (k + 1) ((p : Int), ()) = some (⟨#[(48 + p).toUInt8]⟩ : ByteArray) := by
      match p, h with
      | 0, _ => rfl | 1, _ => rfl | 2, _ => rfl | 3, _ => rfl | 4, _ => rfl | 5, _ => rfl | 6, _ => rfl | 7, _ => rfl | 8, _ => rfl | 9, _ => rfl
    rw [hd, some_bind', ite_t (decide_eq_true (by rw [size_app]; show s.size + 1 + 1 ≤ _; omega))]
theorem kindN_size (a b : Bool) (c d e f : ByteArray) (h : c.size ≤ 10 ∧ d.size ≤ 10 ∧ e.size ≤ 10 ∧ f.size ≤ 10) : (kindN a b c d e f).size ≤ 10 := by
  unfold kindN; cases a <;> cases b <;> simp [h]
theorem s_l08Name_eq {l : List DF} (h : okL l) (hK : 300 ≤ K) : s_l08Name K (l, ()) = some (nameV l) := by
  simp only [s_l08Name]
  rw [whole_eq h, some_bind', classes_eq h (by omega), some_bind', name_l4 h (by omega) _ _ K (by omega)]
  have hp := leastN_le 0 l
  have hq := leastN_le 1 l
  unfold nameV
  generalize l.all (pC 0) = c0; generalize l.all (pC 1) = c1; generalize l.all (pC 2) = c2; generalize l.all (pC 3) = c3; generalize l.all (pC 4) = c4
  generalize l.all pU = u; generalize l.all (pJ false) = v; generalize l.all (pJ true) = e; generalize leastN 0 l = p at *; generalize leastN 1 l = q at *
  have hp2 : decide ((p : Int) ≥ 2) = decide (2 ≤ p) := by rw [Bool.eq_iff_iff]; simp; omega
  have hq2 : decide ((q : Int) ≥ 2) = decide (2 ≤ q) := by rw [Bool.eq_iff_iff]; simp; omega
  have hk1 : ∀ x y : Bool, (kindN x y ⟨#[83, 48, 48]⟩ ⟨#[83, 48, 49]⟩ ⟨#[83, 48, 50]⟩ ⟨#[83, 48]⟩).size ≤ 10 := fun x y => kindN_size _ _ _ _ _ _ (by decide)
  have hk2 : ∀ x y : Bool, (kindN x y ⟨#[83, 49, 48]⟩ ⟨#[83, 49, 49]⟩ ⟨#[83, 49, 50]⟩ ⟨#[83, 49]⟩).size ≤ 10 := fun x y => kindN_size _ _ _ _ _ _ (by decide)
  have hdp := fun x y => degrees_eq (K := K) (hk1 x y) hp (by omega)
  have hdq := fun x y => degrees_eq (K := K) (hk2 x y) hq (by omega)
  simp only [s_l08Name_j14, s_l08Name_j16, s_l08Name_j24, s_l08Name_j26, s_l08Name_j30, s_l08Name_j32, s_l08Name_j40, gN_eq, mask_1, mask_2, mask_4, mask_8, mask_16, mask3, four_eq, kind_eq, some_bind', hdp, hdq, hp2, hq2, decide_eq_true_eq, nameB]
  cases u <;> cases c3 <;> cases c2 <;> cases v <;> cases e <;> cases c4 <;> cases c0 <;> cases c1 <;> simp [four] <;> (by_cases h1 : 2 ≤ p <;> by_cases h2 : 2 ≤ q <;> simp [h1, h2])
theorem byC_eq (x : UInt8) (z o : Bool) : i_byConstants K ((⟨#[x]⟩ : ByteArray), z, o, ()) = some (four z o ⟨#[x, 50]⟩ ⟨#[x, 48]⟩ ⟨#[x, 49]⟩ ⟨#[x]⟩) := by
  simp only [i_byConstants, i_byConstants_j3, gN_eq, four]
  cases z <;> cases o <;> rfl
theorem choose_eq (c : Bool) (a b : ByteArray) : i_choose K (c, a, b, ()) = some (if c = true then a else b) := by
  simp only [i_choose]; cases c <;> rfl
theorem app_bytes (a b : Array UInt8) : (⟨a⟩ : ByteArray) ++ ⟨b⟩ = ⟨a ++ b⟩ := by
  apply ByteArray.ext; simp
theorem sep_eq (x : UInt8) (z m : Bool) {p : Nat} (hp : p ≤ 9) : i_separatedName K ((⟨#[83, x]⟩ : ByteArray), z, m, (p : Int), ()) = some (degB (kindN z m ⟨#[83, x, 48]⟩ ⟨#[83, x, 49]⟩ ⟨#[83, x, 50]⟩ ⟨#[83, x]⟩) p) := by
  simp only [i_separatedName, choose_eq, some_bind', degB]
  by_cases e : p = 9
  · rw [ite_f (decide_eq_false (by omega)), if_pos e]
    cases z <;> cases m <;> rfl
  · rw [ite_t (decide_eq_true (by omega)), if_neg e, fmt_eq (by omega), some_bind']
    cases z <;> cases m <;> rfl
theorem clone_l3 {l : List DF} (h : okL l) (hK : 4611686018427387904 ≤ K) (kx0 : List DF → List Bool → Option R) (k : Nat) (hk : 10 ≤ k) :
    i_cloneName_l3 K k l (List.replicate 5 false) 0 kx0 = kx0 l [l.all (pC 0), l.all (pC 1), l.all (pC 2), l.all (pC 3), l.all (pC 4)] := by
  obtain ⟨k, rfl⟩ : ∃ m, k = m + 6 := ⟨k - 6, by omega⟩
  have step : ∀ (k c : Nat) (a : List Bool), c < 5 → i_cloneName_l3 K (k + 1) l a (c : Int) kx0 = i_cloneName_l3 K k l (a.set c (l.all (pC c))) ((c + 1 : Nat) : Int) kx0 := by
    intro k c a hc
    simp only [i_cloneName_l3]
    rw [ite_t (decide_eq_true (by omega)), i_allIn_eq h hK hc, some_bind', ite_t (bnds_t (by omega) (by omega)), w64s (by omega)]; rfl
  show i_cloneName_l3 K (k + 6) l _ ((0 : Nat) : Int) kx0 = _
  rw [step _ 0 _ (by omega), step _ 1 _ (by omega), step _ 2 _ (by omega), step _ 3 _ (by omega), step _ 4 _ (by omega)]
  simp only [i_cloneName_l3]; rw [ite_f (decide_eq_false (by omega))]; rfl
theorem i_cloneName_eq {l : List DF} (h : okL l) (hK : 4611686018427387904 ≤ K) : i_cloneName K (l, ()) = some (nameV l) := by
  have hp := leastN_le 0 l
  have hq := leastN_le 1 l
  have l0 := i_least_eq (K := K) h (by omega) (c := 0) (by omega)
  have l1 := i_least_eq (K := K) h (by omega) (c := 1) (by omega)
  simp only [i_cloneName]
  rw [clone_l3 h hK _ K (by omega)]
  have s0 := fun z m => sep_eq (K := K) 48 z m hp
  have s1 := fun z m => sep_eq (K := K) 49 z m hq
  have l0 : i_least K (l, 0, ()) = some ((leastN 0 l : Nat) : Int) := l0
  have l1 : i_least K (l, 1, ()) = some ((leastN 1 l : Nat) : Int) := l1
  have hp2 : decide (((leastN 0 l : Nat) : Int) ≥ 2) = decide (2 ≤ leastN 0 l) := by rw [Bool.eq_iff_iff]; simp; omega
  have hq2 : decide (((leastN 1 l : Nat) : Int) ≥ 2) = decide (2 ≤ leastN 1 l) := by rw [Bool.eq_iff_iff]; simp; omega
  have g0 : ∀ a b c d e : Bool, [a, b, c, d, e].getD (0 : Int).toNat false = a := fun _ _ _ _ _ => rfl
  have g1 : ∀ a b c d e : Bool, [a, b, c, d, e].getD (1 : Int).toNat false = b := fun _ _ _ _ _ => rfl
  have g2 : ∀ a b c d e : Bool, [a, b, c, d, e].getD (2 : Int).toNat false = c := fun _ _ _ _ _ => rfl
  have g3 : ∀ a b c d e : Bool, [a, b, c, d, e].getD (3 : Int).toNat false = d := fun _ _ _ _ _ => rfl
  have g4 : ∀ a b c d e : Bool, [a, b, c, d, e].getD (4 : Int).toNat false = e := fun _ _ _ _ _ => rfl
  rw [ite_t (by decide), ite_t (by decide), ite_t (by decide), ite_t (by decide), ite_t (by decide)]
  simp only [g0, g1, g2, g3, g4, i_unary_eq h hK, some_bind', i_cloneName_j10, i_cloneName_j18, i_cloneName_j20, i_cloneName_j30, gN_eq, i_disj_eq h hK, i_conj_eq h hK, byC_eq, choose_eq, l0, l1, s0, s1, hp2, hq2, nameV, nameB]
  generalize l.all (pC 0) = c0; generalize l.all (pC 1) = c1; generalize l.all (pC 2) = c2; generalize l.all (pC 3) = c3; generalize l.all (pC 4) = c4
  generalize l.all pU = u; generalize l.all (pJ false) = v; generalize l.all (pJ true) = e; generalize leastN 0 l = p at *; generalize leastN 1 l = q at *
  cases u <;> cases c3 <;> cases c2 <;> cases v <;> cases e <;> cases c4 <;> cases c0 <;> cases c1 <;> simp [four] <;> (by_cases h1 : 2 ≤ p <;> by_cases h2 : 2 ≤ q <;> simp [h1, h2])
end Go.Proofs.YtfmenkglnkenpaaDoor.E
namespace Go.Proofs.YtfmenkglnkenpaaDoor.E
open Go Go.Proofs
set_option linter.unusedVariables false
set_option linter.unusedSimpArgs false
variable {K : Nat} {R : Type}
/-! codes of lists; the law CloneName -/
def codeV (l : List DF) : Int := if l.all (isF 0) = true then (if 8 < l.length then 2 else 0) else 1
theorem i_areFuncs_eq {l : List DF} (hl : l.length < 4611686018427387904) (hK : 4611686018427387904 ≤ K) : i_areFuncs K (l, ()) = some (l.all (isF 0)) := by
  simp only [i_areFuncs]
  rw [slices_ContainsFunc_impl_Func_eq _ (fun x => !isF 0 x) hl hK (fun x hx => by simp only [i_areFuncs_c1]; rw [i_IsFunc_eq, some_bind']), some_bind', any_not']
theorem i_listCode_eq {l : List DF} (hl : l.length < 4611686018427387904) (hK : 4611686018427387904 ≤ K) : i_listCode K (l, ()) = some (codeV l) := by
  simp only [i_listCode]
  rw [i_areFuncs_eq hl hK, some_bind', codeV]
  cases l.all (isF 0)
  · rfl
  · rw [ite_f (c := !true) rfl, if_pos rfl]
    by_cases h : 8 < l.length
    · rw [ite_t (decide_eq_true (by omega)), if_pos h]
    · rw [ite_f (decide_eq_false (by omega)), if_neg h]
theorem s_l02Code_eq {l : List DF} (hl : l.length < 4611686018427387904) (hK : 4611686018427387904 ≤ K) : s_l02Code K (l, ()) = some (codeV l) := by
  simp only [s_l02Code]
  refine (lpLA (l := l) (L := fun k i => s_l02Code_l2 K k l i (fun z2 => (if (decide ((z2.length : Int) > (8 : Int))) = true then some (2 : Int) else some (0 : Int))) (fun z3 => some z3)) (g := isF 0) (B := 0)
    (kx := if (decide ((l.length : Int) > (8 : Int))) = true then some (2 : Int) else some (0 : Int)) (kf := some 1) (fun k => ?_) (fun k p y r e _ => ?_) l [] K rfl (by omega)).trans ?_
  · simp only [s_l02Code_l2]; rw [ite_f (decide_eq_false (by omega))]
  · subst e
    simp only [s_l02Code_l2]
    rw [ite_t lt_len, ite_t bnds_mid, getD_midI, s_l01Is_eq, some_bind', next_i hl, ite_not]
  · rw [codeV]
    cases l.all (isF 0)
    · rfl
    · rw [ite_t rfl, if_pos rfl]
      by_cases h : 8 < l.length
      · rw [ite_t (decide_eq_true (by omega)), if_pos h]
      · rw [ite_f (decide_eq_false (by omega)), if_neg h]
theorem set_mid' {α : Type} (p r : List α) (y z : α) : (p ++ y :: r).set p.length z = p ++ z :: r := by simp
theorem toFuncS_l (l : List DF) (hl : l.length < 4611686018427387904) (kx : List DF → Option R) : ∀ (r p : List DF) (k : Nat), l = p ++ r → r.length < k →
    w_toFuncS_l3 K k l (p ++ List.replicate r.length ((0 : Int), (0 : Int), ())) (p.length : Int) kx = kx l
  | _, _, 0, _, h => by omega
  | [], p, k + 1, e, h => by
    subst e
    simp only [w_toFuncS_l3]; rw [ite_f nlt_len]; simp
  | y :: r, p, k + 1, e, h => by
    subst e
    obtain ⟨n, b, u⟩ := y
    simp only [w_toFuncS_l3]
    rw [ite_t lt_len, ite_t bnds_mid, getD_midI]
    simp only [w_toFunc]
    rw [some_bind', ite_t (bnds_n (by simp)), next_i hl, Int.toNat_natCast, List.length_cons, List.replicate_succ, set_mid']
    have := toFuncS_l (p ++ (n, b, u) :: r) hl kx r (p ++ [(n, b, u)]) k (by simp) (by simpa using h)
    rw [← this]; congr 1; simp
theorem w_toFuncS_eq {l : List DF} (hl : l.length ≤ 1099511627776) (hK : 4611686018427387904 ≤ K) : w_toFuncS K (l, ()) = some l := by
  simp only [w_toFuncS]
  rw [ite_t (by
    have e : (lim : Int) = 1099511627776 := rfl
    rw [e, decide_eq_true (by omega : (0 : Int) ≤ l.length), decide_eq_true (by omega : (l.length : Int) ≤ 1099511627776)]; rfl)]
  have h1 : l.length < 4611686018427387904 := by omega
  have h2 : l.length < K := by omega
  have := toFuncS_l (K := K) l h1 (fun z4 => some z4) l [] K rfl h2
  rw [List.nil_append] at this
  rw [Int.toNat_natCast]; exact this
theorem w_eqFunc_self (y : DF) : w_eqFunc K (y, y, ()) = some true := by simp [w_eqFunc]
theorem w_eqFuncS_self {l : List DF} (hl : l.length < 4611686018427387904) (hK : 4611686018427387904 ≤ K) : w_eqFuncS K (l, l, ()) = some true := by
  simp only [w_eqFuncS]
  rw [ite_f (by simp)]
  refine (lpLA (l := l) (L := fun k i => w_eqFuncS_l4 K k l l i (some true) (fun z2 => some z2)) (g := fun _ => true) (B := 0) (kx := some true) (kf := some false) (fun k => ?_) (fun k p y r e _ => ?_) l [] K rfl (by omega)).trans ?_
  · simp only [w_eqFuncS_l4]; rw [ite_f (decide_eq_false (by omega))]
  · subst e
    simp only [w_eqFuncS_l4]
    rw [ite_t lt_len, ite_t bnds_mid, ite_t bnds_mid, getD_midI, w_eqFunc_self, some_bind', next_i hl]; rfl
  · simp
theorem okL_of_code {l : List DF} (h : codeV l = 0) : okL l ∧ l.length ≤ 8 := by
  unfold codeV at h
  split at h
  · rename_i h1
    rw [List.all_eq_true] at h1
    split at h
    · cases h
    · exact ⟨⟨h1, by omega⟩, by omega⟩
  · cases h
theorem i_CloneName_eq {l : List DF} (hl : l.length < 4611686018427387904) (hK : 4611686018427387904 ≤ K) : i_CloneName K (l, ()) = some (if codeV l = 0 then (nameV l, 0, ()) else (⟨#[]⟩, codeV l, ())) := by
  simp only [i_CloneName]
  rw [i_listCode_eq hl hK, some_bind']
  by_cases h : codeV l = 0
  · rw [ite_f (by simp [h]), i_cloneName_eq (okL_of_code h).1 hK, if_pos h]; rfl
  · rw [ite_t (by simp [h]), if_neg h]
theorem s_CloneName_eq {l : List DF} (hl : l.length < 4611686018427387904) (hK : 4611686018427387904 ≤ K) : s_CloneName K (l, ()) = some (if codeV l = 0 then (nameV l, 0, ()) else (⟨#[]⟩, codeV l, ())) := by
  simp only [s_CloneName]
  rw [s_l02Code_eq hl hK, some_bind']
  by_cases h : codeV l = 0
  · rw [ite_f (by simp [h]), s_l08Name_eq (okL_of_code h).1 (by omega), if_pos h]; rfl
  · rw [ite_t (by simp [h]), if_neg h]
theorem neq_self (a : ByteArray) : cmpS .neq a a = false := by simp [cmpS]
theorem law_CloneName {l : List DF} (hl : l.length ≤ 9223372036854775807) : w_FnExactCloneName 9223372036854775808 (l, ()) = some true := by
  simp only [w_FnExactCloneName, w_szFuncS]
  rw [w64 (by omega) (by omega)]
  by_cases h : 1048576 < l.length
  · rw [ite_t (decide_eq_true (by omega)), some_bind', ite_t (decide_eq_true (by omega))]
  · have hK : 4611686018427387904 ≤ 9223372036854775808 := by decide
    have hl : l.length < 4611686018427387904 := by omega
    rw [ite_f (decide_eq_false (by omega)), some_bind', ite_f (decide_eq_false (by omega)), w_toFuncS_eq (by omega) hK, some_bind', s_CloneName_eq hl hK, some_bind', some_bind', i_CloneName_eq hl hK, some_bind', ite_f (neq_self _), ite_f (by simp)]
    simp only [w_FnExactCloneName_j10]
    rw [w_toFuncS_eq (by omega) hK, some_bind', w_eqFuncS_self hl hK, some_bind']; rfl
end Go.Proofs.YtfmenkglnkenpaaDoor.E
namespace Go.Proofs.YtfmenkglnkenpaaDoor.E
open Go Go.Proofs
/-- FnExactCloneName, in plain numbers and lists: no condition but what is known of all data. -/
theorem PuFnExactCloneName (x : den as_w_FnExactCloneName) (h : okD as_w_FnExactCloneName x) : ∃ K, w_FnExactCloneName K x = some true := by
  obtain ⟨l, u⟩ := x
  exact ⟨9223372036854775808, law_CloneName (Nat.le_trans h.1.1 (by decide))⟩
end Go.Proofs.YtfmenkglnkenpaaDoor.E
