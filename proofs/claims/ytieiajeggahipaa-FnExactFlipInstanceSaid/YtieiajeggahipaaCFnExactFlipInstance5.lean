/-
  Plain lemmas: what the program and the reference hand back of an instance's solutions. Conditions: those of each theorem.
-/
import Derived.Test.YtieiajeggahipaaCFnExactFlipInstance4
namespace Go.Proofs.Ytieiajeggahipaa.E
open Go Go.Proofs Go.Proofs.Ytieiajeggahipaa
set_option maxRecDepth 100000
set_option linter.unusedVariables false
noncomputable def as_s_CountSolutions : Ty := (.pair (.st (.pair (.int .i64) (.pair (.sl (.st (.pair (.st (.pair (.int .i64) (.pair (.int .i64) .unit))) (.pair (.sl (.int .i64)) .unit)))) .unit))) .unit)
noncomputable def sp_s_CountSolutions (F : ((Int × (List ((Int × Int × Unit) × (List Int) × Unit)) × Unit) × Unit) → Option (Int × Int × Unit)) : FnSpec := ⟨as_s_CountSolutions, [false], (.tup (.pair (.int .i64) (.pair (.int .i64) .unit))), F⟩
noncomputable def s_CountSolutions (K : Nat) (x : ((Int × (List ((Int × Int × Unit) × (List Int) × Unit)) × Unit) × Unit)) : Option (Int × Int × Unit) :=
    (s_l09Is K (x.1, ())).bind fun y1 =>
    (if (!y1) = true then
    some ((0 : Int), (1 : Int), ())
    else
    (s_l09Solutions K (x.1, ())).bind fun y2 =>
    some ((y2.length : Int), (0 : Int), ()))
noncomputable def rv_s_CountSolutions : Lv := [(2, (.v (.int .i64))), (3, (.v (.int .i64)))]
noncomputable def sg_s_CountSolutions {R : Type} (K : Nat) (k : Nat) : List (Nat × SegS R) := []
noncomputable def su_s_CountSolutions : List (Nat × Unit) := []
noncomputable def en_s_CountSolutions {R : Type} (K : Nat) (k : Nat) : Env R := { L := lk [], X := lk [], S := lk (sg_s_CountSolutions K k), rv := rv_s_CountSolutions }
noncomputable def cf_s_CountSolutions (K : Nat) : Cfg := { ty := lk tys, fn := lk [(64, sp_s_l09Is (s_l09Is K)), (65, sp_s_l09Solutions (s_l09Solutions K))], prot := 0, nt := Try.f21.ntmps }
theorem e_s_CountSolutions (K : Nat) (x : den as_s_CountSolutions) : s_CountSolutions K x = evFn (cf_s_CountSolutions K) as_s_CountSolutions [false] (.tup (.pair (.int .i64) (.pair (.int .i64) .unit))) (en_s_CountSolutions K K) Try.f21.results.toList (bodyOf Try.f21) x := by kernel_rfl
theorem ok_s_CountSolutions (K : Nat) : FnOk Try.prog 21 (sp_s_CountSolutions (s_CountSolutions K)) :=
  fn_ok (cf := cf_s_CountSolutions K) (en := en_s_CountSolutions K K) (c := bodyOf Try.f21) Try.func21 (by kernel_rfl) (by kernel_rfl) tysOk (fns_ok (l := [(64, sp_s_l09Is (s_l09Is K)), (65, sp_s_l09Solutions (s_l09Solutions K))]) ⟨ok_s_l09Is K, ⟨ok_s_l09Solutions K, trivial⟩⟩) (by kernel_rfl) rfl (Nat.le_of_ble_eq_true (by kernel_rfl)) (by kernel_rfl) (of_decide_eq_true (by kernel_rfl)) (by decide) (fun C hP O => lpOk_of (en := en_s_CountSolutions K K) (S := hasK su_s_CountSolutions) (fun i => hasK_lk (sg_s_CountSolutions K K) i) _ (by rw [show partsOf (hasK su_s_CountSolutions) (bodyOf Try.f21) = [] from by kernel_rfl]; exact trivial)) (fun x y h => by rw [← e_s_CountSolutions]; exact h)
noncomputable def as_i_CountSolutions : Ty := (.pair (.st (.pair (.int .i64) (.pair (.sl (.st (.pair (.st (.pair (.int .i64) (.pair (.int .i64) .unit))) (.pair (.sl (.int .i64)) .unit)))) .unit))) .unit)
noncomputable def sp_i_CountSolutions (F : ((Int × (List ((Int × Int × Unit) × (List Int) × Unit)) × Unit) × Unit) → Option (Int × Int × Unit)) : FnSpec := ⟨as_i_CountSolutions, [false], (.tup (.pair (.int .i64) (.pair (.int .i64) .unit))), F⟩
noncomputable def i_CountSolutions (K : Nat) (x : ((Int × (List ((Int × Int × Unit) × (List Int) × Unit)) × Unit) × Unit)) : Option (Int × Int × Unit) :=
    (i_SolutionsOf K (x.1, ())).bind fun y1 =>
    some ((y1.1.length : Int), y1.2.1, ())
noncomputable def rv_i_CountSolutions : Lv := [(2, (.v (.int .i64))), (3, (.v (.int .i64)))]
noncomputable def sg_i_CountSolutions {R : Type} (K : Nat) (k : Nat) : List (Nat × SegS R) := []
noncomputable def su_i_CountSolutions : List (Nat × Unit) := []
noncomputable def en_i_CountSolutions {R : Type} (K : Nat) (k : Nat) : Env R := { L := lk [], X := lk [], S := lk (sg_i_CountSolutions K k), rv := rv_i_CountSolutions }
noncomputable def cf_i_CountSolutions (K : Nat) : Cfg := { ty := lk tys, fn := lk [(34, sp_i_SolutionsOf (i_SolutionsOf K))], prot := 0, nt := Try.f23.ntmps }
theorem e_i_CountSolutions (K : Nat) (x : den as_i_CountSolutions) : i_CountSolutions K x = evFn (cf_i_CountSolutions K) as_i_CountSolutions [false] (.tup (.pair (.int .i64) (.pair (.int .i64) .unit))) (en_i_CountSolutions K K) Try.f23.results.toList (bodyOf Try.f23) x := by kernel_rfl
theorem ok_i_CountSolutions (K : Nat) : FnOk Try.prog 23 (sp_i_CountSolutions (i_CountSolutions K)) :=
  fn_ok (cf := cf_i_CountSolutions K) (en := en_i_CountSolutions K K) (c := bodyOf Try.f23) Try.func23 (by kernel_rfl) (by kernel_rfl) tysOk (fns_ok (l := [(34, sp_i_SolutionsOf (i_SolutionsOf K))]) ⟨ok_i_SolutionsOf K, trivial⟩) (by kernel_rfl) rfl (Nat.le_of_ble_eq_true (by kernel_rfl)) (by kernel_rfl) (of_decide_eq_true (by kernel_rfl)) (by decide) (fun C hP O => lpOk_of (en := en_i_CountSolutions K K) (S := hasK su_i_CountSolutions) (fun i => hasK_lk (sg_i_CountSolutions K K) i) _ (by rw [show partsOf (hasK su_i_CountSolutions) (bodyOf Try.f23) = [] from by kernel_rfl]; exact trivial)) (fun x y h => by rw [← e_i_CountSolutions]; exact h)
noncomputable def as_w_FnExactCountSolutions : Ty := (.pair (.st (.pair (.int .i64) (.pair (.sl (.st (.pair (.st (.pair (.int .i64) (.pair (.int .i64) .unit))) (.pair (.sl (.int .i64)) .unit)))) .unit))) .unit)
noncomputable def sp_w_FnExactCountSolutions (F : ((Int × (List ((Int × Int × Unit) × (List Int) × Unit)) × Unit) × Unit) → Option Bool) : FnSpec := ⟨as_w_FnExactCountSolutions, [false], .bool, F⟩
noncomputable def w_FnExactCountSolutions_j10 {R : Type} (K : Nat) (k : Nat) (v1 : (Int × (List ((Int × Int × Unit) × (List Int) × Unit)) × Unit)) (v6_0 : Int) (v6_1 : (List ((Int × Int × Unit) × (List Int) × Unit))) (kn : Option R) (kr : (Bool → Option R)) : Option R :=
    (w_toInstance K (v1, ())).bind fun y6 =>
    (w_eqInstance K ((v6_0, v6_1, ()), (y6.1, y6.2.1, ()), ())).bind fun y7 =>
    (if (!y7) = true then
    kr false
    else
    kr true)
noncomputable def w_FnExactCountSolutions (K : Nat) (x : ((Int × (List ((Int × Int × Unit) × (List Int) × Unit)) × Unit) × Unit)) : Option Bool :=
    (w_szInstance K (x.1, (1048576 : Int), ())).bind fun y1 =>
    (if (decide (y1 < (0 : Int))) = true then
    some true
    else
    (w_toInstance K (x.1, ())).bind fun y2 =>
    (s_CountSolutions K ((y2.1, y2.2.1, ()), ())).bind fun y3 =>
    (w_toInstance K (x.1, ())).bind fun y4 =>
    (i_CountSolutions K ((y4.1, y4.2.1, ()), ())).bind fun y5 =>
    (if (!decide (y5.1 = y3.1)) = true then
    some false
    else
    (if (!decide (y5.2.1 = y3.2.1)) = true then
    some false
    else
    w_FnExactCountSolutions_j10 K K x.1 y4.1 y4.2.1 none (fun z8 =>
    some z8))))
noncomputable def lv_w_FnExactCountSolutions_J10 : Lv := [(1, (.bx (.v (.st (.pair (.int .i64) (.pair (.sl (.st (.pair (.st (.pair (.int .i64) (.pair (.int .i64) .unit))) (.pair (.sl (.int .i64)) .unit)))) .unit)))))), (6, (.bx (.st (.pair (.v (.int .i64)) (.pair (.r (.st (.pair (.st (.pair (.int .i64) (.pair (.int .i64) .unit))) (.pair (.sl (.int .i64)) .unit)))) .unit)))))]
noncomputable def lv_w_FnExactCountSolutions_N10 : Lv := []
noncomputable def rv_w_FnExactCountSolutions : Lv := [(2, (.v .bool))]
noncomputable def gw_FnExactCountSolutions_j10 {R : Type} (K : Nat) (k : Nat) (x : den lv_w_FnExactCountSolutions_J10.ty) (kn : den lv_w_FnExactCountSolutions_N10.ty → Option R) (kx : Nat → St → Option R) (kr : St → Option R) : Option R := w_FnExactCountSolutions_j10 K k x.1 x.2.1.1 x.2.1.2.1 (kn ()) (fun z0 => kr (mkSt rv_w_FnExactCountSolutions (z0, ())))
noncomputable def sg_w_FnExactCountSolutions {R : Type} (K : Nat) (k : Nat) : List (Nat × SegS R) := [(10, mkSeg lv_w_FnExactCountSolutions_J10 lv_w_FnExactCountSolutions_N10 (gw_FnExactCountSolutions_j10 K k))]
noncomputable def su_w_FnExactCountSolutions : List (Nat × Unit) := [(10, ())]
noncomputable def en_w_FnExactCountSolutions {R : Type} (K : Nat) (k : Nat) : Env R := { L := lk [], X := lk [], S := lk (sg_w_FnExactCountSolutions K k), rv := rv_w_FnExactCountSolutions }
noncomputable def cf_w_FnExactCountSolutions (K : Nat) : Cfg := { ty := lk tys, fn := lk [(20, sp_w_szInstance (w_szInstance K)), (21, sp_s_CountSolutions (s_CountSolutions K)), (22, sp_w_toInstance (w_toInstance K)), (23, sp_i_CountSolutions (i_CountSolutions K)), (24, sp_w_eqInstance (w_eqInstance K))], prot := 0, nt := Try.f4.ntmps }
noncomputable def c_w_FnExactCountSolutions_J10 : Code := nthC (partsOf (hasK su_w_FnExactCountSolutions) (bodyOf Try.f4)) 0
theorem ew_FnExactCountSolutions_j10 {R : Type} (K : Nat) (k : Nat) (x : den lv_w_FnExactCountSolutions_J10.ty) (kn : den lv_w_FnExactCountSolutions_N10.ty → Option R) (kx : Nat → St → Option R) (kr : St → Option R) : gw_FnExactCountSolutions_j10 K k x kn kx kr = evC (cf_w_FnExactCountSolutions K) (en_w_FnExactCountSolutions K k) c_w_FnExactCountSolutions_J10 (mkSt lv_w_FnExactCountSolutions_J10 x) (cutK lv_w_FnExactCountSolutions_N10 kn) kx kr := by kernel_rfl
theorem sw_FnExactCountSolutions_j10 {R : Type} (K : Nat) (C : Cx) (hP : C.P = Try.prog) (O : CfgOk C (cf_w_FnExactCountSolutions K)) (k : Nat) : SgS C (R := R) (mkSeg lv_w_FnExactCountSolutions_J10 lv_w_FnExactCountSolutions_N10 (gw_FnExactCountSolutions_j10 K k)) c_w_FnExactCountSolutions_J10 :=
  seg_sound O (by rw [hP]; kernel_rfl) (ew_FnExactCountSolutions_j10 K k) (lpOk_of (en := en_w_FnExactCountSolutions K k) (S := hasK su_w_FnExactCountSolutions) (fun i => hasK_lk (sg_w_FnExactCountSolutions K k) i) _ (by rw [show partsOf (hasK su_w_FnExactCountSolutions) c_w_FnExactCountSolutions_J10 = [] from by kernel_rfl]; exact trivial))
theorem e_w_FnExactCountSolutions (K : Nat) (x : den as_w_FnExactCountSolutions) : w_FnExactCountSolutions K x = evFn (cf_w_FnExactCountSolutions K) as_w_FnExactCountSolutions [false] .bool (en_w_FnExactCountSolutions K K) Try.f4.results.toList (bodyOf Try.f4) x := by kernel_rfl
theorem ok_w_FnExactCountSolutions (K : Nat) : FnOk Try.prog 4 (sp_w_FnExactCountSolutions (w_FnExactCountSolutions K)) :=
  fn_ok (cf := cf_w_FnExactCountSolutions K) (en := en_w_FnExactCountSolutions K K) (c := bodyOf Try.f4) Try.func4 (by kernel_rfl) (by kernel_rfl) tysOk (fns_ok (l := [(20, sp_w_szInstance (w_szInstance K)), (21, sp_s_CountSolutions (s_CountSolutions K)), (22, sp_w_toInstance (w_toInstance K)), (23, sp_i_CountSolutions (i_CountSolutions K)), (24, sp_w_eqInstance (w_eqInstance K))]) ⟨ok_w_szInstance K, ⟨ok_s_CountSolutions K, ⟨ok_w_toInstance K, ⟨ok_i_CountSolutions K, ⟨ok_w_eqInstance K, trivial⟩⟩⟩⟩⟩) (by kernel_rfl) rfl (Nat.le_of_ble_eq_true (by kernel_rfl)) (by kernel_rfl) (of_decide_eq_true (by kernel_rfl)) (by decide) (fun C hP O => lpOk_of (en := en_w_FnExactCountSolutions K K) (S := hasK su_w_FnExactCountSolutions) (fun i => hasK_lk (sg_w_FnExactCountSolutions K K) i) _ (by rw [show partsOf (hasK su_w_FnExactCountSolutions) (bodyOf Try.f4) = [(false, c_w_FnExactCountSolutions_J10)] from by kernel_rfl]; exact (lpL_seg (f := mkSeg lv_w_FnExactCountSolutions_J10 lv_w_FnExactCountSolutions_N10 (gw_FnExactCountSolutions_j10 K K)) (by kernel_rfl) (sw_FnExactCountSolutions_j10 K C hP O K) trivial))) (fun x y h => by rw [← e_w_FnExactCountSolutions]; exact h)
end Go.Proofs.Ytieiajeggahipaa.E
namespace Go.Proofs.Ytieiajeggahipaa.E
open Go Go.Proofs
set_option linter.unusedVariables false
set_option linter.unusedSimpArgs false
variable {K : Nat} {R : Type}
theorem i_SolutionsOf_eq {x : DX} (hx : shX x) (hK : 9223372036854775808 ≤ K) : i_SolutionsOf K (x, ()) = some (if okX x = true then (solX x, 0, ()) else ([], 1, ())) := by
  simp only [i_SolutionsOf, i_IsInstance_eq hx (show 4611686018427387904 ≤ K by omega), some_bind']
  cases h : okX x
  · rfl
  · rw [ite_f (by rfl), i_solutions_eq h (by omega)]; rfl
theorem s_SolutionsOf_eq {x : DX} (hx : shX x) (hK : 9223372036854775808 ≤ K) : s_SolutionsOf K (x, ()) = some (if okX x = true then (solX x, 0, ()) else ([], 1, ())) := by
  simp only [s_SolutionsOf, s_l09Is_eq hx hK, some_bind']
  cases h : okX x
  · rfl
  · rw [ite_f (by rfl), s_l09Solutions_eq h (by omega)]; rfl
theorem i_CountSolutions_eq {x : DX} (hx : shX x) (hK : 9223372036854775808 ≤ K) : i_CountSolutions K (x, ()) = some (if okX x = true then (((solX x).length : Int), 0, ()) else (0, 1, ())) := by
  simp only [i_CountSolutions, i_SolutionsOf_eq hx hK, some_bind']
  cases h : okX x
  · rfl
  · rw [if_pos rfl, if_pos rfl]
theorem s_CountSolutions_eq {x : DX} (hx : shX x) (hK : 9223372036854775808 ≤ K) : s_CountSolutions K (x, ()) = some (if okX x = true then (((solX x).length : Int), 0, ()) else (0, 1, ())) := by
  simp only [s_CountSolutions, s_l09Is_eq hx hK, some_bind']
  cases h : okX x
  · rfl
  · rw [ite_f (by rfl), s_l09Solutions_eq h (by omega)]; rfl
/-! what the statements ask -/
/-- What is known of an instance whose size the statement lets in. -/
def smX (x : DX) : Prop := (x.2.1.length + lenC x.2.1 : Int) ≤ 1048576
theorem smX_h {x : DX} (h : smX x) : x.2.1.length ≤ 1048576 ∧ (∀ c ∈ x.2.1, c.2.1.length ≤ 1048576) ∧ szC x.2.1 ≤ 3145728 := by
  unfold smX at h
  refine ⟨by omega, fun c hc => ?_, ?_⟩
  · have := lenC_mem _ c hc; omega
  · rw [szC_eq]; omega
theorem smX_sh {x : DX} (h : smX x) : shX x := by
  obtain ⟨h1, h2, _⟩ := smX_h h
  exact ⟨by omega, fun c hc => by have := h2 c hc; omega⟩
theorem smX_to {x : DX} (h : smX x) (hK : 4611686018427387904 ≤ K) : w_toInstance K (x, ()) = some x := by
  obtain ⟨h1, h2, _⟩ := smX_h h
  exact w_toInstance_eq (fun c hc => by have := h2 c hc; omega) (by omega) hK
theorem smX_eq {x : DX} (h : smX x) (hK : 4611686018427387904 ≤ K) : w_eqInstance K (x, x, ()) = some true :=
  w_eqInstance_refl hK (smX_sh h).2 (smX_sh h).1
theorem smX_mark {x : DX} (h : smX x) (hK : 4611686018427387904 ≤ K) : w_markInstance K (x, (1 : Int), ()) = some ((1 : Int) + szC x.2.1, ((x.1, markC x.2.1 1, ()), ())) := by
  obtain ⟨_, _, h3⟩ := smX_h h
  exact w_markInstance_eq hK (by decide) (by omega)
theorem mark_pos (n : Nat) : decide ((1 + (n : Int)) < 0) = false := decide_eq_false (by omega)
abbrev TC1 : Ty := .st (.pair (.st (.pair (.int .i64) (.pair (.int .i64) .unit))) (.pair (.sl (.int .i64)) .unit))
abbrev TX : Ty := .st (.pair (.int .i64) (.pair (.sl TC1) .unit))
theorem i64_wf {n : Int} (h : (Lit.int .i64 n).wf = true) : -9223372036854775808 ≤ n ∧ n < 9223372036854775808 := by
  have := bounds_i64 h; omega
theorem okD_X {x : den TX} (h : okD TX x) : (-9223372036854775808 ≤ x.1 ∧ x.1 < 9223372036854775808) ∧ x.2.1.length ≤ 9223372036854775807 ∧ ∀ c ∈ x.2.1, (c : DC).2.1.length ≤ 9223372036854775807 :=
  ⟨i64_wf h.1, h.2.1.1, fun c hc => (h.2.1.2 c hc).2.1.1⟩
/-- The statement's size guard. -/
theorem sz_guard {x : DX} (hx : okD TX x) (hK : 4611686018427387904 ≤ K) (f : Int → Option Bool) (h : smX x → ∀ y, ¬ y < 0 → f y = some true) (hn : ∀ y, y < 0 → f y = some true) : (w_szInstance K (x, (1048576 : Int), ())).bind f = some true := by
  obtain ⟨_, h1, h2⟩ := okD_X hx
  obtain ⟨r, hr, hle⟩ := w_szInstance_eq (K := K) (x := x) (v := 1048576) (by decide) (by decide) hK h1 h2
  rw [hr, some_bind']
  by_cases h0 : r < 0
  · exact hn r h0
  · exact h (hle (by omega)) r h0
/-- Marks in a list of numbers are held. -/
theorem mk_held {l : List Int} (hl : l.length ≤ 1099511627776) (hK : 4611686018427387904 ≤ K) : w_markInt64S K (l, (1 : Int), ()) = some (1 + (l.length : Int), (seqI 1 l.length, ())) ∧ w_heldInt64S K (seqI 1 l.length, (1 : Int), ()) = some (1 + (l.length : Int)) :=
  ⟨w_markInt64S_eq (by omega) hK (by decide) (by omega), w_heldInt64S_eq hK (by decide) (by omega)⟩
theorem solX_len (x : DX) (h : okX x = true) : (solX x).length ≤ 256 := by
  obtain ⟨n, e, hn⟩ := okX_nat h
  have := sel_len (satX x) (2 ^ x.1.toNat)
  have h2 := pw8 hn
  rw [solX]; rw [e, Int.toNat_natCast] at this ⊢; omega
theorem law_CountSolutions (hK : 9223372036854775808 ≤ K) {x : DX} (hx : okD TX x) : w_FnExactCountSolutions K (x, ()) = some true := by
  have hK2 : 4611686018427387904 ≤ K := by omega
  simp only [w_FnExactCountSolutions]
  refine sz_guard hx hK2 _ (fun hs y hy => ?_) (fun y hy => by rw [ite_t (decide_eq_true hy)])
  have hsh := smX_sh hs
  rw [ite_f (decide_eq_false hy)]
  simp only [smX_to hs hK2, some_bind', i_CountSolutions_eq hsh hK, s_CountSolutions_eq hsh hK, w_FnExactCountSolutions_j10, smX_eq hs hK2, decide_true, Bool.not_true, Bool.false_eq_true, if_false]
theorem law_SolutionsOf (hK : 9223372036854775808 ≤ K) {x : DX} (hx : okD TX x) : w_FnExactSolutionsOf K (x, ()) = some true := by
  have hK2 : 4611686018427387904 ≤ K := by omega
  simp only [w_FnExactSolutionsOf]
  refine sz_guard hx hK2 _ (fun hs y hy => ?_) (fun y hy => by rw [ite_t (decide_eq_true hy)])
  have hsh := smX_sh hs
  rw [ite_f (decide_eq_false hy)]
  have hlen : (if okX x = true then (solX x, (0 : Int), ()) else ([], 1, ())).1.length ≤ 1099511627776 := by
    cases h : okX x
    · simp
    · have := solX_len x h; simp; omega
  obtain ⟨q, hq, hi, hp⟩ : ∃ q : List Int × Int × Unit, q.1.length ≤ 1099511627776 ∧ i_SolutionsOf K (x, ()) = some q ∧ s_SolutionsOf K (x, ()) = some q := ⟨_, hlen, i_SolutionsOf_eq hsh hK, s_SolutionsOf_eq hsh hK⟩
  obtain ⟨h1, h2⟩ := mk_held hq hK2
  have h3 : w_eqInt64S K (q.1, q.1, ()) = some true := w_eqInt64S_refl (by omega) hK2
  simp only [smX_to hs hK2, hi, hp, h3, some_bind', w_FnExactSolutionsOf_j10, w_FnExactSolutionsOf_j16, w_FnExactSolutionsOf_j27, smX_to hs hK2, smX_eq hs hK2, smX_mark hs hK2, mark_pos, h1, h2, decide_true, Bool.not_true, Bool.false_eq_true, if_false]
end Go.Proofs.Ytieiajeggahipaa.E
namespace Go.Proofs.Ytieiajeggahipaa.E
open Go Go.Proofs Go.Proofs.Ytieiajeggahipaa
set_option maxRecDepth 100000
set_option linter.unusedVariables false
noncomputable def as_s_SatisfiedBy : Ty := (.pair (.st (.pair (.int .i64) (.pair (.sl (.st (.pair (.st (.pair (.int .i64) (.pair (.int .i64) .unit))) (.pair (.sl (.int .i64)) .unit)))) .unit))) (.pair (.int .i64) .unit))
noncomputable def sp_s_SatisfiedBy (F : ((Int × (List ((Int × Int × Unit) × (List Int) × Unit)) × Unit) × Int × Unit) → Option ((List Int) × Int × Unit)) : FnSpec := ⟨as_s_SatisfiedBy, [false, false], (.tup (.pair (.sl (.int .i64)) (.pair (.int .i64) .unit))), F⟩
noncomputable def s_SatisfiedBy_l7 {R : Type} (K : Nat) : Nat → Int → (Int × (List ((Int × Int × Unit) × (List Int) × Unit)) × Unit) → (List Int) → Int → ((List Int) → Option R) → Option R
  | 0, _, _, _, _, _ => none
  | k + 1, v1, v2, v6, v7, kx1 =>
    (if (decide (v7 < (v2.2.1.length : Int))) = true then
    (if (bnds v7 (v2.2.1.length : Int)) = true then
    let x5 := (v2.2.1.getD v7.toNat (((0 : Int), (0 : Int), ()), ([] : List Int), ()))
    (if (bnds v7 (v2.2.1.length : Int)) = true then
    let x6 := (v2.2.1.getD v7.toNat (((0 : Int), (0 : Int), ()), ([] : List Int), ()))
    (s_l09Tuple K (x6, v1, ())).bind fun y7 =>
    (s_l09Has K (x5.1, y7, ())).bind fun y8 =>
    (if y8 = true then
    let l9 := [(1 : Int)]
    (if (decide (v6.length + l9.length ≤ lim)) = true then
    let l10 := (v6 ++ l9)
    s_SatisfiedBy_l7 K k v1 v2 l10 (IntKind.i64.wrap (v7 + (1 : Int))) kx1
    else
    none)
    else
    let l11 := [(0 : Int)]
    (if (decide (v6.length + l11.length ≤ lim)) = true then
    let l12 := (v6 ++ l11)
    s_SatisfiedBy_l7 K k v1 v2 l12 (IntKind.i64.wrap (v7 + (1 : Int))) kx1
    else
    none))
    else
    none)
    else
    none)
    else
    kx1 v6)
noncomputable def s_SatisfiedBy (K : Nat) (x : ((Int × (List ((Int × Int × Unit) × (List Int) × Unit)) × Unit) × Int × Unit)) : Option ((List Int) × Int × Unit) :=
    (s_l09Is K (x.1, ())).bind fun y1 =>
    (if (!y1) = true then
    some (([] : List Int), (1 : Int), ())
    else
    (s_l01Rows K (x.1.1, ())).bind fun y2 =>
    (s_l01In K (x.2.1, (0 : Int), (IntKind.i64.wrap (y2 - (1 : Int))), ())).bind fun y3 =>
    (if (!y3) = true then
    some (([] : List Int), (2 : Int), ())
    else
    let l4 := ([] : List Int)
    s_SatisfiedBy_l7 K K x.2.1 x.1 l4 (0 : Int) (fun z13 =>
    some (z13, (0 : Int), ()))))
noncomputable def lv_s_SatisfiedBy_L7 : Lv := [(1, (.v (.int .i64))), (2, (.bx (.v (.st (.pair (.int .i64) (.pair (.sl (.st (.pair (.st (.pair (.int .i64) (.pair (.int .i64) .unit))) (.pair (.sl (.int .i64)) .unit)))) .unit)))))), (6, (.r (.int .i64))), (7, (.v (.int .i64)))]
noncomputable def lv_s_SatisfiedBy_X1 : Lv := [(6, (.r (.int .i64)))]
noncomputable def rv_s_SatisfiedBy : Lv := [(4, (.r (.int .i64))), (5, (.v (.int .i64)))]
noncomputable def gs_SatisfiedBy_l7 {R : Type} (K : Nat) (k : Nat) (x : den lv_s_SatisfiedBy_L7.ty) (kx : Nat → St → Option R) (kr : St → Option R) : Option R := s_SatisfiedBy_l7 K k x.1 x.2.1 x.2.2.1 x.2.2.2.1 (fun z0 => kx 1 (mkSt lv_s_SatisfiedBy_X1 (z0, ())))
noncomputable def sg_s_SatisfiedBy {R : Type} (K : Nat) (k : Nat) : List (Nat × SegS R) := []
noncomputable def su_s_SatisfiedBy : List (Nat × Unit) := []
noncomputable def en_s_SatisfiedBy {R : Type} (K : Nat) (k : Nat) : Env R := { L := lk [(7, mkLoop lv_s_SatisfiedBy_L7 (gs_SatisfiedBy_l7 K k))], X := lk [(1, lv_s_SatisfiedBy_X1)], S := lk (sg_s_SatisfiedBy K k), rv := rv_s_SatisfiedBy }
noncomputable def cf_s_SatisfiedBy (K : Nat) : Cfg := { ty := lk tys, fn := lk [(52, sp_s_l01In (s_l01In K)), (64, sp_s_l09Is (s_l09Is K)), (75, sp_s_l01Rows (s_l01Rows K)), (76, sp_s_l09Has (s_l09Has K)), (77, sp_s_l09Tuple (s_l09Tuple K))], prot := 0, nt := Try.f30.ntmps }
noncomputable def c_s_SatisfiedBy_L7 : Code := nthC (partsOf (hasK su_s_SatisfiedBy) (bodyOf Try.f30)) 0
theorem es_SatisfiedBy_l7 {R : Type} (K : Nat) (k : Nat) (x : den lv_s_SatisfiedBy_L7.ty) (kx : Nat → St → Option R) (kr : St → Option R) : gs_SatisfiedBy_l7 K (k + 1) x kx kr = evC (cf_s_SatisfiedBy K) (en_s_SatisfiedBy K k) c_s_SatisfiedBy_L7 (mkSt lv_s_SatisfiedBy_L7 x) (fun s => mkLoop lv_s_SatisfiedBy_L7 (gs_SatisfiedBy_l7 K k) s kx kr) kx kr := by kernel_rfl
theorem ss_SatisfiedBy_l7 {R : Type} (K : Nat) (C : Cx) (hP : C.P = Try.prog) (O : CfgOk C (cf_s_SatisfiedBy K)) (k : Nat) : LpS C (R := R) (mkLoop lv_s_SatisfiedBy_L7 (gs_SatisfiedBy_l7 K k)) c_s_SatisfiedBy_L7 :=
  loop_sound O (by rw [hP]; kernel_rfl) (fun x kx kr => rfl) (es_SatisfiedBy_l7 K) (fun k => lpOk_of (en := en_s_SatisfiedBy K k) (S := hasK su_s_SatisfiedBy) (fun i => hasK_lk (sg_s_SatisfiedBy K k) i) _ (by rw [show partsOf (hasK su_s_SatisfiedBy) c_s_SatisfiedBy_L7 = [] from by kernel_rfl]; exact trivial)) k
theorem e_s_SatisfiedBy (K : Nat) (x : den as_s_SatisfiedBy) : s_SatisfiedBy K x = evFn (cf_s_SatisfiedBy K) as_s_SatisfiedBy [false, false] (.tup (.pair (.sl (.int .i64)) (.pair (.int .i64) .unit))) (en_s_SatisfiedBy K K) Try.f30.results.toList (bodyOf Try.f30) x := by kernel_rfl
theorem ok_s_SatisfiedBy (K : Nat) : FnOk Try.prog 30 (sp_s_SatisfiedBy (s_SatisfiedBy K)) :=
  fn_ok (cf := cf_s_SatisfiedBy K) (en := en_s_SatisfiedBy K K) (c := bodyOf Try.f30) Try.func30 (by kernel_rfl) (by kernel_rfl) tysOk (fns_ok (l := [(52, sp_s_l01In (s_l01In K)), (64, sp_s_l09Is (s_l09Is K)), (75, sp_s_l01Rows (s_l01Rows K)), (76, sp_s_l09Has (s_l09Has K)), (77, sp_s_l09Tuple (s_l09Tuple K))]) ⟨ok_s_l01In K, ⟨ok_s_l09Is K, ⟨ok_s_l01Rows K, ⟨ok_s_l09Has K, ⟨ok_s_l09Tuple K, trivial⟩⟩⟩⟩⟩) (by kernel_rfl) rfl (Nat.le_of_ble_eq_true (by kernel_rfl)) (by kernel_rfl) (of_decide_eq_true (by kernel_rfl)) (by decide) (fun C hP O => lpOk_of (en := en_s_SatisfiedBy K K) (S := hasK su_s_SatisfiedBy) (fun i => hasK_lk (sg_s_SatisfiedBy K K) i) _ (by rw [show partsOf (hasK su_s_SatisfiedBy) (bodyOf Try.f30) = [(true, c_s_SatisfiedBy_L7)] from by kernel_rfl]; exact (lpL_loop (f := mkLoop lv_s_SatisfiedBy_L7 (gs_SatisfiedBy_l7 K K)) (by kernel_rfl) (ss_SatisfiedBy_l7 K C hP O K) trivial))) (fun x y h => by rw [← e_s_SatisfiedBy]; exact h)
noncomputable def as_i_SatisfiedBy : Ty := (.pair (.st (.pair (.int .i64) (.pair (.sl (.st (.pair (.st (.pair (.int .i64) (.pair (.int .i64) .unit))) (.pair (.sl (.int .i64)) .unit)))) .unit))) (.pair (.int .i64) .unit))
noncomputable def sp_i_SatisfiedBy (F : ((Int × (List ((Int × Int × Unit) × (List Int) × Unit)) × Unit) × Int × Unit) → Option ((List Int) × Int × Unit)) : FnSpec := ⟨as_i_SatisfiedBy, [false, false], (.tup (.pair (.sl (.int .i64)) (.pair (.int .i64) .unit))), F⟩
noncomputable def i_SatisfiedBy_l7 {R : Type} (K : Nat) : Nat → Int → (List Int) → (List ((Int × Int × Unit) × (List Int) × Unit)) → Int → Int → ((List Int) → Option R) → Option R
  | 0, _, _, _, _, _, _ => none
  | k + 1, v1, v6, v20, v21, v22, kx0 =>
    (if (decide (v22 < v21)) = true then
    (if (bnds v22 (v20.length : Int)) = true then
    let x3 := (v20.getD v22.toNat (((0 : Int), (0 : Int), ()), ([] : List Int), ()))
    (i_Clause_satisfied K (x3, v1, ())).bind fun y4 =>
    (i_one K (y4, ())).bind fun y5 =>
    (if (decide (v6.length + ([y5]).length ≤ lim)) = true then
    let l6 := (v6 ++ [y5])
    i_SatisfiedBy_l7 K k v1 l6 v20 v21 (IntKind.i64.wrap (v22 + (1 : Int))) kx0
    else
    none)
    else
    none)
    else
    kx0 v6)
noncomputable def i_SatisfiedBy (K : Nat) (x : ((Int × (List ((Int × Int × Unit) × (List Int) × Unit)) × Unit) × Int × Unit)) : Option ((List Int) × Int × Unit) :=
    (i_IsInstance K (x.1, ())).bind fun y1 =>
    (if (!y1) = true then
    some (([] : List Int), (1 : Int), ())
    else
    (if (decide ((0 : Int) ≤ x.1.1)) = true then
    (i_within K (x.2.1, (0 : Int), (IntKind.i64.wrap ((shlI .i64 (1 : Int) x.1.1) - (1 : Int))), ())).bind fun y2 =>
    (if (!y2) = true then
    some (([] : List Int), (2 : Int), ())
    else
    i_SatisfiedBy_l7 K K x.2.1 ([] : List Int) x.1.2.1 (x.1.2.1.length : Int) (0 : Int) (fun z7 =>
    some (z7, (0 : Int), ())))
    else
    none))
noncomputable def lv_i_SatisfiedBy_L7 : Lv := [(1, (.v (.int .i64))), (6, (.r (.int .i64))), (20, (.v (.sl (.st (.pair (.st (.pair (.int .i64) (.pair (.int .i64) .unit))) (.pair (.sl (.int .i64)) .unit)))))), (21, (.v (.int .i64))), (22, (.v (.int .i64)))]
noncomputable def lv_i_SatisfiedBy_X0 : Lv := [(6, (.r (.int .i64)))]
noncomputable def rv_i_SatisfiedBy : Lv := [(4, (.r (.int .i64))), (5, (.v (.int .i64)))]
noncomputable def gi_SatisfiedBy_l7 {R : Type} (K : Nat) (k : Nat) (x : den lv_i_SatisfiedBy_L7.ty) (kx : Nat → St → Option R) (kr : St → Option R) : Option R := i_SatisfiedBy_l7 K k x.1 x.2.1 x.2.2.1 x.2.2.2.1 x.2.2.2.2.1 (fun z0 => kx 0 (mkSt lv_i_SatisfiedBy_X0 (z0, ())))
noncomputable def sg_i_SatisfiedBy {R : Type} (K : Nat) (k : Nat) : List (Nat × SegS R) := []
noncomputable def su_i_SatisfiedBy : List (Nat × Unit) := []
noncomputable def en_i_SatisfiedBy {R : Type} (K : Nat) (k : Nat) : Env R := { L := lk [(7, mkLoop lv_i_SatisfiedBy_L7 (gi_SatisfiedBy_l7 K k))], X := lk [(0, lv_i_SatisfiedBy_X0)], S := lk (sg_i_SatisfiedBy K k), rv := rv_i_SatisfiedBy }
noncomputable def cf_i_SatisfiedBy (K : Nat) : Cfg := { ty := lk tys, fn := lk [(61, sp_i_one (i_one K)), (78, sp_i_IsInstance (i_IsInstance K)), (79, sp_i_within (i_within K)), (80, sp_i_Clause_satisfied (i_Clause_satisfied K))], prot := 0, nt := Try.f31.ntmps }
noncomputable def c_i_SatisfiedBy_L7 : Code := nthC (partsOf (hasK su_i_SatisfiedBy) (bodyOf Try.f31)) 0
theorem ei_SatisfiedBy_l7 {R : Type} (K : Nat) (k : Nat) (x : den lv_i_SatisfiedBy_L7.ty) (kx : Nat → St → Option R) (kr : St → Option R) : gi_SatisfiedBy_l7 K (k + 1) x kx kr = evC (cf_i_SatisfiedBy K) (en_i_SatisfiedBy K k) c_i_SatisfiedBy_L7 (mkSt lv_i_SatisfiedBy_L7 x) (fun s => mkLoop lv_i_SatisfiedBy_L7 (gi_SatisfiedBy_l7 K k) s kx kr) kx kr := by kernel_rfl
theorem si_SatisfiedBy_l7 {R : Type} (K : Nat) (C : Cx) (hP : C.P = Try.prog) (O : CfgOk C (cf_i_SatisfiedBy K)) (k : Nat) : LpS C (R := R) (mkLoop lv_i_SatisfiedBy_L7 (gi_SatisfiedBy_l7 K k)) c_i_SatisfiedBy_L7 :=
  loop_sound O (by rw [hP]; kernel_rfl) (fun x kx kr => rfl) (ei_SatisfiedBy_l7 K) (fun k => lpOk_of (en := en_i_SatisfiedBy K k) (S := hasK su_i_SatisfiedBy) (fun i => hasK_lk (sg_i_SatisfiedBy K k) i) _ (by rw [show partsOf (hasK su_i_SatisfiedBy) c_i_SatisfiedBy_L7 = [] from by kernel_rfl]; exact trivial)) k
theorem e_i_SatisfiedBy (K : Nat) (x : den as_i_SatisfiedBy) : i_SatisfiedBy K x = evFn (cf_i_SatisfiedBy K) as_i_SatisfiedBy [false, false] (.tup (.pair (.sl (.int .i64)) (.pair (.int .i64) .unit))) (en_i_SatisfiedBy K K) Try.f31.results.toList (bodyOf Try.f31) x := by kernel_rfl
theorem ok_i_SatisfiedBy (K : Nat) : FnOk Try.prog 31 (sp_i_SatisfiedBy (i_SatisfiedBy K)) :=
  fn_ok (cf := cf_i_SatisfiedBy K) (en := en_i_SatisfiedBy K K) (c := bodyOf Try.f31) Try.func31 (by kernel_rfl) (by kernel_rfl) tysOk (fns_ok (l := [(61, sp_i_one (i_one K)), (78, sp_i_IsInstance (i_IsInstance K)), (79, sp_i_within (i_within K)), (80, sp_i_Clause_satisfied (i_Clause_satisfied K))]) ⟨ok_i_one K, ⟨ok_i_IsInstance K, ⟨ok_i_within K, ⟨ok_i_Clause_satisfied K, trivial⟩⟩⟩⟩) (by kernel_rfl) rfl (Nat.le_of_ble_eq_true (by kernel_rfl)) (by kernel_rfl) (of_decide_eq_true (by kernel_rfl)) (by decide) (fun C hP O => lpOk_of (en := en_i_SatisfiedBy K K) (S := hasK su_i_SatisfiedBy) (fun i => hasK_lk (sg_i_SatisfiedBy K K) i) _ (by rw [show partsOf (hasK su_i_SatisfiedBy) (bodyOf Try.f31) = [(true, c_i_SatisfiedBy_L7)] from by kernel_rfl]; exact (lpL_loop (f := mkLoop lv_i_SatisfiedBy_L7 (gi_SatisfiedBy_l7 K K)) (by kernel_rfl) (si_SatisfiedBy_l7 K C hP O K) trivial))) (fun x y h => by rw [← e_i_SatisfiedBy]; exact h)
noncomputable def as_w_FnExactSatisfiedBy : Ty := (.pair (.st (.pair (.int .i64) (.pair (.sl (.st (.pair (.st (.pair (.int .i64) (.pair (.int .i64) .unit))) (.pair (.sl (.int .i64)) .unit)))) .unit))) (.pair (.int .i64) .unit))
noncomputable def sp_w_FnExactSatisfiedBy (F : ((Int × (List ((Int × Int × Unit) × (List Int) × Unit)) × Unit) × Int × Unit) → Option Bool) : FnSpec := ⟨as_w_FnExactSatisfiedBy, [false, false], .bool, F⟩
noncomputable def w_FnExactSatisfiedBy_j27 {R : Type} (K : Nat) (k : Nat) (v9 : (List Int)) (v12 : Int) (kn : Option R) (kr : (Bool → Option R)) : Option R :=
    (w_heldInt64S K (v9, (1 : Int), ())).bind fun y16 =>
    (if (decide (y16 < (0 : Int))) = true then
    kr false
    else
    (if (!decide (y16 = v12)) = true then
    kr false
    else
    kr true))
noncomputable def w_FnExactSatisfiedBy_j16 {R : Type} (K : Nat) (k : Nat) (v1 : Int) (v2 : (Int × (List ((Int × Int × Unit) × (List Int) × Unit)) × Unit)) (v6 : (List Int)) (v7 : Int) (v9 : (List Int)) (kn : Option R) (kr : (Bool → Option R)) : Option R :=
    (w_markInt64S K (v9, (1 : Int), ())).bind fun y11 =>
    (w_heldInt64S K (y11.2.1, (1 : Int), ())).bind fun y12 =>
    (if (decide (y12 < (0 : Int))) = true then
    kr false
    else
    (if (!decide (y12 = y11.1)) = true then
    kr false
    else
    (w_toInstance K (v2, ())).bind fun y13 =>
    (i_SatisfiedBy K ((y13.1, y13.2.1, ()), v1, ())).bind fun y14 =>
    (w_eqInt64S K (y14.1, v6, ())).bind fun y15 =>
    (if (!y15) = true then
    kr false
    else
    (if (!decide (y14.2.1 = v7)) = true then
    kr false
    else
    w_FnExactSatisfiedBy_j27 K k y11.2.1 y11.1 none (fun z17 =>
    kr z17)))))
noncomputable def w_FnExactSatisfiedBy_j10 {R : Type} (K : Nat) (k : Nat) (v1 : Int) (v2 : (Int × (List ((Int × Int × Unit) × (List Int) × Unit)) × Unit)) (v6 : (List Int)) (v7 : Int) (v8_0 : Int) (v8_1 : (List ((Int × Int × Unit) × (List Int) × Unit))) (v9 : (List Int)) (v10 : Int) (kn : Option R) (kr : (Bool → Option R)) : Option R :=
    (w_toInstance K (v2, ())).bind fun y7 =>
    (w_eqInstance K ((v8_0, v8_1, ()), (y7.1, y7.2.1, ()), ())).bind fun y8 =>
    (if (!y8) = true then
    kr false
    else
    (w_markInstance K ((v8_0, v8_1, ()), (1 : Int), ())).bind fun y9 =>
    (if (decide (y9.1 < (0 : Int))) = true then
    kr false
    else
    (w_eqInt64S K (v9, v6, ())).bind fun y10 =>
    (if (!y10) = true then
    kr false
    else
    (if (!decide (v10 = v7)) = true then
    kr false
    else
    w_FnExactSatisfiedBy_j16 K k v1 v2 v6 v7 v9 none (fun z18 =>
    kr z18)))))
noncomputable def w_FnExactSatisfiedBy (K : Nat) (x : ((Int × (List ((Int × Int × Unit) × (List Int) × Unit)) × Unit) × Int × Unit)) : Option Bool :=
    (w_szInstance K (x.1, (1048576 : Int), ())).bind fun y1 =>
    (if (decide (y1 < (0 : Int))) = true then
    some true
    else
    (w_toInstance K (x.1, ())).bind fun y2 =>
    (s_SatisfiedBy K ((y2.1, y2.2.1, ()), x.2.1, ())).bind fun y3 =>
    (w_toInstance K (x.1, ())).bind fun y4 =>
    (i_SatisfiedBy K ((y4.1, y4.2.1, ()), x.2.1, ())).bind fun y5 =>
    (w_eqInt64S K (y5.1, y3.1, ())).bind fun y6 =>
    (if (!y6) = true then
    some false
    else
    (if (!decide (y5.2.1 = y3.2.1)) = true then
    some false
    else
    w_FnExactSatisfiedBy_j10 K K x.2.1 x.1 y3.1 y3.2.1 y4.1 y4.2.1 y5.1 y5.2.1 none (fun z19 =>
    some z19))))
noncomputable def lv_w_FnExactSatisfiedBy_J10 : Lv := [(1, (.v (.int .i64))), (2, (.bx (.v (.st (.pair (.int .i64) (.pair (.sl (.st (.pair (.st (.pair (.int .i64) (.pair (.int .i64) .unit))) (.pair (.sl (.int .i64)) .unit)))) .unit)))))), (6, (.r (.int .i64))), (7, (.v (.int .i64))), (8, (.bx (.st (.pair (.v (.int .i64)) (.pair (.r (.st (.pair (.st (.pair (.int .i64) (.pair (.int .i64) .unit))) (.pair (.sl (.int .i64)) .unit)))) .unit))))), (9, (.r (.int .i64))), (10, (.v (.int .i64)))]
noncomputable def lv_w_FnExactSatisfiedBy_J16 : Lv := [(1, (.v (.int .i64))), (2, (.bx (.v (.st (.pair (.int .i64) (.pair (.sl (.st (.pair (.st (.pair (.int .i64) (.pair (.int .i64) .unit))) (.pair (.sl (.int .i64)) .unit)))) .unit)))))), (6, (.r (.int .i64))), (7, (.v (.int .i64))), (9, (.r (.int .i64)))]
noncomputable def lv_w_FnExactSatisfiedBy_J27 : Lv := [(9, (.r (.int .i64))), (12, (.v (.int .i64)))]
noncomputable def lv_w_FnExactSatisfiedBy_N10 : Lv := []
noncomputable def lv_w_FnExactSatisfiedBy_N16 : Lv := []
noncomputable def lv_w_FnExactSatisfiedBy_N27 : Lv := []
noncomputable def rv_w_FnExactSatisfiedBy : Lv := [(4, (.v .bool))]
noncomputable def gw_FnExactSatisfiedBy_j27 {R : Type} (K : Nat) (k : Nat) (x : den lv_w_FnExactSatisfiedBy_J27.ty) (kn : den lv_w_FnExactSatisfiedBy_N27.ty → Option R) (kx : Nat → St → Option R) (kr : St → Option R) : Option R := w_FnExactSatisfiedBy_j27 K k x.1 x.2.1 (kn ()) (fun z0 => kr (mkSt rv_w_FnExactSatisfiedBy (z0, ())))
noncomputable def gw_FnExactSatisfiedBy_j16 {R : Type} (K : Nat) (k : Nat) (x : den lv_w_FnExactSatisfiedBy_J16.ty) (kn : den lv_w_FnExactSatisfiedBy_N16.ty → Option R) (kx : Nat → St → Option R) (kr : St → Option R) : Option R := w_FnExactSatisfiedBy_j16 K k x.1 x.2.1 x.2.2.1 x.2.2.2.1 x.2.2.2.2.1 (kn ()) (fun z0 => kr (mkSt rv_w_FnExactSatisfiedBy (z0, ())))
noncomputable def gw_FnExactSatisfiedBy_j10 {R : Type} (K : Nat) (k : Nat) (x : den lv_w_FnExactSatisfiedBy_J10.ty) (kn : den lv_w_FnExactSatisfiedBy_N10.ty → Option R) (kx : Nat → St → Option R) (kr : St → Option R) : Option R := w_FnExactSatisfiedBy_j10 K k x.1 x.2.1 x.2.2.1 x.2.2.2.1 x.2.2.2.2.1.1 x.2.2.2.2.1.2.1 x.2.2.2.2.2.1 x.2.2.2.2.2.2.1 (kn ()) (fun z0 => kr (mkSt rv_w_FnExactSatisfiedBy (z0, ())))
noncomputable def sg_w_FnExactSatisfiedBy {R : Type} (K : Nat) (k : Nat) : List (Nat × SegS R) := [(27, mkSeg lv_w_FnExactSatisfiedBy_J27 lv_w_FnExactSatisfiedBy_N27 (gw_FnExactSatisfiedBy_j27 K k)), (16, mkSeg lv_w_FnExactSatisfiedBy_J16 lv_w_FnExactSatisfiedBy_N16 (gw_FnExactSatisfiedBy_j16 K k)), (10, mkSeg lv_w_FnExactSatisfiedBy_J10 lv_w_FnExactSatisfiedBy_N10 (gw_FnExactSatisfiedBy_j10 K k))]
noncomputable def su_w_FnExactSatisfiedBy : List (Nat × Unit) := [(27, ()), (16, ()), (10, ())]
noncomputable def en_w_FnExactSatisfiedBy {R : Type} (K : Nat) (k : Nat) : Env R := { L := lk [], X := lk [], S := lk (sg_w_FnExactSatisfiedBy K k), rv := rv_w_FnExactSatisfiedBy }
noncomputable def cf_w_FnExactSatisfiedBy (K : Nat) : Cfg := { ty := lk tys, fn := lk [(17, sp_w_eqInt64S (w_eqInt64S K)), (18, sp_w_markInt64S (w_markInt64S K)), (19, sp_w_heldInt64S (w_heldInt64S K)), (20, sp_w_szInstance (w_szInstance K)), (22, sp_w_toInstance (w_toInstance K)), (24, sp_w_eqInstance (w_eqInstance K)), (30, sp_s_SatisfiedBy (s_SatisfiedBy K)), (31, sp_i_SatisfiedBy (i_SatisfiedBy K)), (32, sp_w_markInstance (w_markInstance K))], prot := 0, nt := Try.f6.ntmps }
noncomputable def c_w_FnExactSatisfiedBy_J10 : Code := nthC (partsOf (hasK su_w_FnExactSatisfiedBy) (bodyOf Try.f6)) 0
noncomputable def c_w_FnExactSatisfiedBy_J16 : Code := nthC (partsOf (hasK su_w_FnExactSatisfiedBy) c_w_FnExactSatisfiedBy_J10) 0
noncomputable def c_w_FnExactSatisfiedBy_J27 : Code := nthC (partsOf (hasK su_w_FnExactSatisfiedBy) c_w_FnExactSatisfiedBy_J16) 0
theorem ew_FnExactSatisfiedBy_j27 {R : Type} (K : Nat) (k : Nat) (x : den lv_w_FnExactSatisfiedBy_J27.ty) (kn : den lv_w_FnExactSatisfiedBy_N27.ty → Option R) (kx : Nat → St → Option R) (kr : St → Option R) : gw_FnExactSatisfiedBy_j27 K k x kn kx kr = evC (cf_w_FnExactSatisfiedBy K) (en_w_FnExactSatisfiedBy K k) c_w_FnExactSatisfiedBy_J27 (mkSt lv_w_FnExactSatisfiedBy_J27 x) (cutK lv_w_FnExactSatisfiedBy_N27 kn) kx kr := by kernel_rfl
theorem sw_FnExactSatisfiedBy_j27 {R : Type} (K : Nat) (C : Cx) (hP : C.P = Try.prog) (O : CfgOk C (cf_w_FnExactSatisfiedBy K)) (k : Nat) : SgS C (R := R) (mkSeg lv_w_FnExactSatisfiedBy_J27 lv_w_FnExactSatisfiedBy_N27 (gw_FnExactSatisfiedBy_j27 K k)) c_w_FnExactSatisfiedBy_J27 :=
  seg_sound O (by rw [hP]; kernel_rfl) (ew_FnExactSatisfiedBy_j27 K k) (lpOk_of (en := en_w_FnExactSatisfiedBy K k) (S := hasK su_w_FnExactSatisfiedBy) (fun i => hasK_lk (sg_w_FnExactSatisfiedBy K k) i) _ (by rw [show partsOf (hasK su_w_FnExactSatisfiedBy) c_w_FnExactSatisfiedBy_J27 = [] from by kernel_rfl]; exact trivial))
theorem ew_FnExactSatisfiedBy_j16 {R : Type} (K : Nat) (k : Nat) (x : den lv_w_FnExactSatisfiedBy_J16.ty) (kn : den lv_w_FnExactSatisfiedBy_N16.ty → Option R) (kx : Nat → St → Option R) (kr : St → Option R) : gw_FnExactSatisfiedBy_j16 K k x kn kx kr = evC (cf_w_FnExactSatisfiedBy K) (en_w_FnExactSatisfiedBy K k) c_w_FnExactSatisfiedBy_J16 (mkSt lv_w_FnExactSatisfiedBy_J16 x) (cutK lv_w_FnExactSatisfiedBy_N16 kn) kx kr := by kernel_rfl
theorem sw_FnExactSatisfiedBy_j16 {R : Type} (K : Nat) (C : Cx) (hP : C.P = Try.prog) (O : CfgOk C (cf_w_FnExactSatisfiedBy K)) (k : Nat) : SgS C (R := R) (mkSeg lv_w_FnExactSatisfiedBy_J16 lv_w_FnExactSatisfiedBy_N16 (gw_FnExactSatisfiedBy_j16 K k)) c_w_FnExactSatisfiedBy_J16 :=
  seg_sound O (by rw [hP]; kernel_rfl) (ew_FnExactSatisfiedBy_j16 K k) (lpOk_of (en := en_w_FnExactSatisfiedBy K k) (S := hasK su_w_FnExactSatisfiedBy) (fun i => hasK_lk (sg_w_FnExactSatisfiedBy K k) i) _ (by rw [show partsOf (hasK su_w_FnExactSatisfiedBy) c_w_FnExactSatisfiedBy_J16 = [(false, c_w_FnExactSatisfiedBy_J27)] from by kernel_rfl]; exact (lpL_seg (f := mkSeg lv_w_FnExactSatisfiedBy_J27 lv_w_FnExactSatisfiedBy_N27 (gw_FnExactSatisfiedBy_j27 K k)) (by kernel_rfl) (sw_FnExactSatisfiedBy_j27 K C hP O k) trivial)))
theorem ew_FnExactSatisfiedBy_j10 {R : Type} (K : Nat) (k : Nat) (x : den lv_w_FnExactSatisfiedBy_J10.ty) (kn : den lv_w_FnExactSatisfiedBy_N10.ty → Option R) (kx : Nat → St → Option R) (kr : St → Option R) : gw_FnExactSatisfiedBy_j10 K k x kn kx kr = evC (cf_w_FnExactSatisfiedBy K) (en_w_FnExactSatisfiedBy K k) c_w_FnExactSatisfiedBy_J10 (mkSt lv_w_FnExactSatisfiedBy_J10 x) (cutK lv_w_FnExactSatisfiedBy_N10 kn) kx kr := by kernel_rfl
theorem sw_FnExactSatisfiedBy_j10 {R : Type} (K : Nat) (C : Cx) (hP : C.P = Try.prog) (O : CfgOk C (cf_w_FnExactSatisfiedBy K)) (k : Nat) : SgS C (R := R) (mkSeg lv_w_FnExactSatisfiedBy_J10 lv_w_FnExactSatisfiedBy_N10 (gw_FnExactSatisfiedBy_j10 K k)) c_w_FnExactSatisfiedBy_J10 :=
  seg_sound O (by rw [hP]; kernel_rfl) (ew_FnExactSatisfiedBy_j10 K k) (lpOk_of (en := en_w_FnExactSatisfiedBy K k) (S := hasK su_w_FnExactSatisfiedBy) (fun i => hasK_lk (sg_w_FnExactSatisfiedBy K k) i) _ (by rw [show partsOf (hasK su_w_FnExactSatisfiedBy) c_w_FnExactSatisfiedBy_J10 = [(false, c_w_FnExactSatisfiedBy_J16)] from by kernel_rfl]; exact (lpL_seg (f := mkSeg lv_w_FnExactSatisfiedBy_J16 lv_w_FnExactSatisfiedBy_N16 (gw_FnExactSatisfiedBy_j16 K k)) (by kernel_rfl) (sw_FnExactSatisfiedBy_j16 K C hP O k) trivial)))
theorem e_w_FnExactSatisfiedBy (K : Nat) (x : den as_w_FnExactSatisfiedBy) : w_FnExactSatisfiedBy K x = evFn (cf_w_FnExactSatisfiedBy K) as_w_FnExactSatisfiedBy [false, false] .bool (en_w_FnExactSatisfiedBy K K) Try.f6.results.toList (bodyOf Try.f6) x := by kernel_rfl
theorem ok_w_FnExactSatisfiedBy (K : Nat) : FnOk Try.prog 6 (sp_w_FnExactSatisfiedBy (w_FnExactSatisfiedBy K)) :=
  fn_ok (cf := cf_w_FnExactSatisfiedBy K) (en := en_w_FnExactSatisfiedBy K K) (c := bodyOf Try.f6) Try.func6 (by kernel_rfl) (by kernel_rfl) tysOk (fns_ok (l := [(17, sp_w_eqInt64S (w_eqInt64S K)), (18, sp_w_markInt64S (w_markInt64S K)), (19, sp_w_heldInt64S (w_heldInt64S K)), (20, sp_w_szInstance (w_szInstance K)), (22, sp_w_toInstance (w_toInstance K)), (24, sp_w_eqInstance (w_eqInstance K)), (30, sp_s_SatisfiedBy (s_SatisfiedBy K)), (31, sp_i_SatisfiedBy (i_SatisfiedBy K)), (32, sp_w_markInstance (w_markInstance K))]) ⟨ok_w_eqInt64S K, ⟨ok_w_markInt64S K, ⟨ok_w_heldInt64S K, ⟨ok_w_szInstance K, ⟨ok_w_toInstance K, ⟨ok_w_eqInstance K, ⟨ok_s_SatisfiedBy K, ⟨ok_i_SatisfiedBy K, ⟨ok_w_markInstance K, trivial⟩⟩⟩⟩⟩⟩⟩⟩⟩) (by kernel_rfl) rfl (Nat.le_of_ble_eq_true (by kernel_rfl)) (by kernel_rfl) (of_decide_eq_true (by kernel_rfl)) (by decide) (fun C hP O => lpOk_of (en := en_w_FnExactSatisfiedBy K K) (S := hasK su_w_FnExactSatisfiedBy) (fun i => hasK_lk (sg_w_FnExactSatisfiedBy K K) i) _ (by rw [show partsOf (hasK su_w_FnExactSatisfiedBy) (bodyOf Try.f6) = [(false, c_w_FnExactSatisfiedBy_J10)] from by kernel_rfl]; exact (lpL_seg (f := mkSeg lv_w_FnExactSatisfiedBy_J10 lv_w_FnExactSatisfiedBy_N10 (gw_FnExactSatisfiedBy_j10 K K)) (by kernel_rfl) (sw_FnExactSatisfiedBy_j10 K C hP O K) trivial))) (fun x y h => by rw [← e_w_FnExactSatisfiedBy]; exact h)
noncomputable def as_s_l09Given : Ty := (.pair (.st (.pair (.int .i64) (.pair (.sl (.st (.pair (.st (.pair (.int .i64) (.pair (.int .i64) .unit))) (.pair (.sl (.int .i64)) .unit)))) .unit))) .unit)
noncomputable def sp_s_l09Given (F : ((Int × (List ((Int × Int × Unit) × (List Int) × Unit)) × Unit) × Unit) → Option ((List Int) × Int × Unit)) : FnSpec := ⟨as_s_l09Given, [false], (.tup (.pair (.sl (.int .i64)) (.pair (.int .i64) .unit))), F⟩
noncomputable def s_l09Given (K : Nat) (x : ((Int × (List ((Int × Int × Unit) × (List Int) × Unit)) × Unit) × Unit)) : Option ((List Int) × Int × Unit) :=
    (s_l09Is K (x.1, ())).bind fun y1 =>
    (if (!y1) = true then
    some (([] : List Int), (1 : Int), ())
    else
    (s_l09Solutions K (x.1, ())).bind fun y2 =>
    (if (decide ((y2.length : Int) = (0 : Int))) = true then
    some (([] : List Int), (4 : Int), ())
    else
    some (y2, (0 : Int), ())))
noncomputable def rv_s_l09Given : Lv := [(2, (.r (.int .i64))), (3, (.v (.int .i64)))]
noncomputable def sg_s_l09Given {R : Type} (K : Nat) (k : Nat) : List (Nat × SegS R) := []
noncomputable def su_s_l09Given : List (Nat × Unit) := []
noncomputable def en_s_l09Given {R : Type} (K : Nat) (k : Nat) : Env R := { L := lk [], X := lk [], S := lk (sg_s_l09Given K k), rv := rv_s_l09Given }
noncomputable def cf_s_l09Given (K : Nat) : Cfg := { ty := lk tys, fn := lk [(64, sp_s_l09Is (s_l09Is K)), (65, sp_s_l09Solutions (s_l09Solutions K))], prot := 0, nt := Try.f83.ntmps }
theorem e_s_l09Given (K : Nat) (x : den as_s_l09Given) : s_l09Given K x = evFn (cf_s_l09Given K) as_s_l09Given [false] (.tup (.pair (.sl (.int .i64)) (.pair (.int .i64) .unit))) (en_s_l09Given K K) Try.f83.results.toList (bodyOf Try.f83) x := by kernel_rfl
theorem ok_s_l09Given (K : Nat) : FnOk Try.prog 83 (sp_s_l09Given (s_l09Given K)) :=
  fn_ok (cf := cf_s_l09Given K) (en := en_s_l09Given K K) (c := bodyOf Try.f83) Try.func83 (by kernel_rfl) (by kernel_rfl) tysOk (fns_ok (l := [(64, sp_s_l09Is (s_l09Is K)), (65, sp_s_l09Solutions (s_l09Solutions K))]) ⟨ok_s_l09Is K, ⟨ok_s_l09Solutions K, trivial⟩⟩) (by kernel_rfl) rfl (Nat.le_of_ble_eq_true (by kernel_rfl)) (by kernel_rfl) (of_decide_eq_true (by kernel_rfl)) (by decide) (fun C hP O => lpOk_of (en := en_s_l09Given K K) (S := hasK su_s_l09Given) (fun i => hasK_lk (sg_s_l09Given K K) i) _ (by rw [show partsOf (hasK su_s_l09Given) (bodyOf Try.f83) = [] from by kernel_rfl]; exact trivial)) (fun x y h => by rw [← e_s_l09Given]; exact h)
noncomputable def as_s_MeetOfSolutions : Ty := (.pair (.st (.pair (.int .i64) (.pair (.sl (.st (.pair (.st (.pair (.int .i64) (.pair (.int .i64) .unit))) (.pair (.sl (.int .i64)) .unit)))) .unit))) .unit)
noncomputable def sp_s_MeetOfSolutions (F : ((Int × (List ((Int × Int × Unit) × (List Int) × Unit)) × Unit) × Unit) → Option (Int × Int × Unit)) : FnSpec := ⟨as_s_MeetOfSolutions, [false], (.tup (.pair (.int .i64) (.pair (.int .i64) .unit))), F⟩
noncomputable def s_MeetOfSolutions_l6 {R : Type} (K : Nat) : Nat → (List Int) → Int → Int → (Int → Option R) → Option R
  | 0, _, _, _, _ => none
  | k + 1, v4, v6, v7, kx0 =>
    (if (decide (v7 < (v4.length : Int))) = true then
    (if (bnds v7 (v4.length : Int)) = true then
    s_MeetOfSolutions_l6 K k v4 (bitI .and .i64 v6 (v4.getD v7.toNat (0 : Int))) (IntKind.i64.wrap (v7 + (1 : Int))) kx0
    else
    none)
    else
    kx0 v6)
noncomputable def s_MeetOfSolutions (K : Nat) (x : ((Int × (List ((Int × Int × Unit) × (List Int) × Unit)) × Unit) × Unit)) : Option (Int × Int × Unit) :=
    (s_l09Given K (x.1, ())).bind fun y1 =>
    (if (!decide (y1.2.1 = (0 : Int))) = true then
    some ((0 : Int), y1.2.1, ())
    else
    (if (bnds (0 : Int) (y1.1.length : Int)) = true then
    s_MeetOfSolutions_l6 K K y1.1 (y1.1.getD (0 : Int).toNat (0 : Int)) (1 : Int) (fun z2 =>
    some (z2, (0 : Int), ()))
    else
    none))
noncomputable def lv_s_MeetOfSolutions_L6 : Lv := [(4, (.r (.int .i64))), (6, (.v (.int .i64))), (7, (.v (.int .i64)))]
noncomputable def lv_s_MeetOfSolutions_X0 : Lv := [(6, (.v (.int .i64)))]
noncomputable def rv_s_MeetOfSolutions : Lv := [(2, (.v (.int .i64))), (3, (.v (.int .i64)))]
noncomputable def gs_MeetOfSolutions_l6 {R : Type} (K : Nat) (k : Nat) (x : den lv_s_MeetOfSolutions_L6.ty) (kx : Nat → St → Option R) (kr : St → Option R) : Option R := s_MeetOfSolutions_l6 K k x.1 x.2.1 x.2.2.1 (fun z0 => kx 0 (mkSt lv_s_MeetOfSolutions_X0 (z0, ())))
noncomputable def sg_s_MeetOfSolutions {R : Type} (K : Nat) (k : Nat) : List (Nat × SegS R) := []
noncomputable def su_s_MeetOfSolutions : List (Nat × Unit) := []
noncomputable def en_s_MeetOfSolutions {R : Type} (K : Nat) (k : Nat) : Env R := { L := lk [(6, mkLoop lv_s_MeetOfSolutions_L6 (gs_MeetOfSolutions_l6 K k))], X := lk [(0, lv_s_MeetOfSolutions_X0)], S := lk (sg_s_MeetOfSolutions K k), rv := rv_s_MeetOfSolutions }
noncomputable def cf_s_MeetOfSolutions (K : Nat) : Cfg := { ty := lk tys, fn := lk [(83, sp_s_l09Given (s_l09Given K))], prot := 0, nt := Try.f35.ntmps }
noncomputable def c_s_MeetOfSolutions_L6 : Code := nthC (partsOf (hasK su_s_MeetOfSolutions) (bodyOf Try.f35)) 0
theorem es_MeetOfSolutions_l6 {R : Type} (K : Nat) (k : Nat) (x : den lv_s_MeetOfSolutions_L6.ty) (kx : Nat → St → Option R) (kr : St → Option R) : gs_MeetOfSolutions_l6 K (k + 1) x kx kr = evC (cf_s_MeetOfSolutions K) (en_s_MeetOfSolutions K k) c_s_MeetOfSolutions_L6 (mkSt lv_s_MeetOfSolutions_L6 x) (fun s => mkLoop lv_s_MeetOfSolutions_L6 (gs_MeetOfSolutions_l6 K k) s kx kr) kx kr := by kernel_rfl
theorem ss_MeetOfSolutions_l6 {R : Type} (K : Nat) (C : Cx) (hP : C.P = Try.prog) (O : CfgOk C (cf_s_MeetOfSolutions K)) (k : Nat) : LpS C (R := R) (mkLoop lv_s_MeetOfSolutions_L6 (gs_MeetOfSolutions_l6 K k)) c_s_MeetOfSolutions_L6 :=
  loop_sound O (by rw [hP]; kernel_rfl) (fun x kx kr => rfl) (es_MeetOfSolutions_l6 K) (fun k => lpOk_of (en := en_s_MeetOfSolutions K k) (S := hasK su_s_MeetOfSolutions) (fun i => hasK_lk (sg_s_MeetOfSolutions K k) i) _ (by rw [show partsOf (hasK su_s_MeetOfSolutions) c_s_MeetOfSolutions_L6 = [] from by kernel_rfl]; exact trivial)) k
theorem e_s_MeetOfSolutions (K : Nat) (x : den as_s_MeetOfSolutions) : s_MeetOfSolutions K x = evFn (cf_s_MeetOfSolutions K) as_s_MeetOfSolutions [false] (.tup (.pair (.int .i64) (.pair (.int .i64) .unit))) (en_s_MeetOfSolutions K K) Try.f35.results.toList (bodyOf Try.f35) x := by kernel_rfl
theorem ok_s_MeetOfSolutions (K : Nat) : FnOk Try.prog 35 (sp_s_MeetOfSolutions (s_MeetOfSolutions K)) :=
  fn_ok (cf := cf_s_MeetOfSolutions K) (en := en_s_MeetOfSolutions K K) (c := bodyOf Try.f35) Try.func35 (by kernel_rfl) (by kernel_rfl) tysOk (fns_ok (l := [(83, sp_s_l09Given (s_l09Given K))]) ⟨ok_s_l09Given K, trivial⟩) (by kernel_rfl) rfl (Nat.le_of_ble_eq_true (by kernel_rfl)) (by kernel_rfl) (of_decide_eq_true (by kernel_rfl)) (by decide) (fun C hP O => lpOk_of (en := en_s_MeetOfSolutions K K) (S := hasK su_s_MeetOfSolutions) (fun i => hasK_lk (sg_s_MeetOfSolutions K K) i) _ (by rw [show partsOf (hasK su_s_MeetOfSolutions) (bodyOf Try.f35) = [(true, c_s_MeetOfSolutions_L6)] from by kernel_rfl]; exact (lpL_loop (f := mkLoop lv_s_MeetOfSolutions_L6 (gs_MeetOfSolutions_l6 K K)) (by kernel_rfl) (ss_MeetOfSolutions_l6 K C hP O K) trivial))) (fun x y h => by rw [← e_s_MeetOfSolutions]; exact h)
noncomputable def as_i_solved : Ty := (.pair (.st (.pair (.int .i64) (.pair (.sl (.st (.pair (.st (.pair (.int .i64) (.pair (.int .i64) .unit))) (.pair (.sl (.int .i64)) .unit)))) .unit))) .unit)
noncomputable def sp_i_solved (F : ((Int × (List ((Int × Int × Unit) × (List Int) × Unit)) × Unit) × Unit) → Option ((List Int) × Int × Unit)) : FnSpec := ⟨as_i_solved, [false], (.tup (.pair (.sl (.int .i64)) (.pair (.int .i64) .unit))), F⟩
noncomputable def i_solved_j4 {R : Type} (K : Nat) (k : Nat) (v4 : (List Int)) (v5 : Int) (kn : Option R) (kr : ((List Int) → Int → Option R)) : Option R :=
    kr v4 v5
noncomputable def i_solved (K : Nat) (x : ((Int × (List ((Int × Int × Unit) × (List Int) × Unit)) × Unit) × Unit)) : Option ((List Int) × Int × Unit) :=
    (i_SolutionsOf K (x.1, ())).bind fun y1 =>
    (if (decide (y1.2.1 = (0 : Int))) = true then
    (if (decide ((y1.1.length : Int) = (0 : Int))) = true then
    i_solved_j4 K K y1.1 (4 : Int) none (fun z2 z3 =>
    some (z2, z3, ()))
    else
    i_solved_j4 K K y1.1 y1.2.1 none (fun z4 z5 =>
    some (z4, z5, ())))
    else
    i_solved_j4 K K y1.1 y1.2.1 none (fun z6 z7 =>
    some (z6, z7, ())))
noncomputable def lv_i_solved_J4 : Lv := [(4, (.r (.int .i64))), (5, (.v (.int .i64)))]
noncomputable def lv_i_solved_N4 : Lv := []
noncomputable def rv_i_solved : Lv := [(2, (.r (.int .i64))), (3, (.v (.int .i64)))]
noncomputable def gi_solved_j4 {R : Type} (K : Nat) (k : Nat) (x : den lv_i_solved_J4.ty) (kn : den lv_i_solved_N4.ty → Option R) (kx : Nat → St → Option R) (kr : St → Option R) : Option R := i_solved_j4 K k x.1 x.2.1 (kn ()) (fun z0 z1 => kr (mkSt rv_i_solved (z0, z1, ())))
noncomputable def sg_i_solved {R : Type} (K : Nat) (k : Nat) : List (Nat × SegS R) := [(4, mkSeg lv_i_solved_J4 lv_i_solved_N4 (gi_solved_j4 K k))]
noncomputable def su_i_solved : List (Nat × Unit) := [(4, ())]
noncomputable def en_i_solved {R : Type} (K : Nat) (k : Nat) : Env R := { L := lk [], X := lk [], S := lk (sg_i_solved K k), rv := rv_i_solved }
noncomputable def cf_i_solved (K : Nat) : Cfg := { ty := lk tys, fn := lk [(34, sp_i_SolutionsOf (i_SolutionsOf K))], prot := 0, nt := Try.f84.ntmps }
noncomputable def c_i_solved_J4 : Code := nthC (partsOf (hasK su_i_solved) (bodyOf Try.f84)) 0
theorem ei_solved_j4 {R : Type} (K : Nat) (k : Nat) (x : den lv_i_solved_J4.ty) (kn : den lv_i_solved_N4.ty → Option R) (kx : Nat → St → Option R) (kr : St → Option R) : gi_solved_j4 K k x kn kx kr = evC (cf_i_solved K) (en_i_solved K k) c_i_solved_J4 (mkSt lv_i_solved_J4 x) (cutK lv_i_solved_N4 kn) kx kr := by kernel_rfl
theorem si_solved_j4 {R : Type} (K : Nat) (C : Cx) (hP : C.P = Try.prog) (O : CfgOk C (cf_i_solved K)) (k : Nat) : SgS C (R := R) (mkSeg lv_i_solved_J4 lv_i_solved_N4 (gi_solved_j4 K k)) c_i_solved_J4 :=
  seg_sound O (by rw [hP]; kernel_rfl) (ei_solved_j4 K k) (lpOk_of (en := en_i_solved K k) (S := hasK su_i_solved) (fun i => hasK_lk (sg_i_solved K k) i) _ (by rw [show partsOf (hasK su_i_solved) c_i_solved_J4 = [] from by kernel_rfl]; exact trivial))
theorem e_i_solved (K : Nat) (x : den as_i_solved) : i_solved K x = evFn (cf_i_solved K) as_i_solved [false] (.tup (.pair (.sl (.int .i64)) (.pair (.int .i64) .unit))) (en_i_solved K K) Try.f84.results.toList (bodyOf Try.f84) x := by kernel_rfl
theorem ok_i_solved (K : Nat) : FnOk Try.prog 84 (sp_i_solved (i_solved K)) :=
  fn_ok (cf := cf_i_solved K) (en := en_i_solved K K) (c := bodyOf Try.f84) Try.func84 (by kernel_rfl) (by kernel_rfl) tysOk (fns_ok (l := [(34, sp_i_SolutionsOf (i_SolutionsOf K))]) ⟨ok_i_SolutionsOf K, trivial⟩) (by kernel_rfl) rfl (Nat.le_of_ble_eq_true (by kernel_rfl)) (by kernel_rfl) (of_decide_eq_true (by kernel_rfl)) (by decide) (fun C hP O => lpOk_of (en := en_i_solved K K) (S := hasK su_i_solved) (fun i => hasK_lk (sg_i_solved K K) i) _ (by rw [show partsOf (hasK su_i_solved) (bodyOf Try.f84) = [(false, c_i_solved_J4)] from by kernel_rfl]; exact (lpL_seg (f := mkSeg lv_i_solved_J4 lv_i_solved_N4 (gi_solved_j4 K K)) (by kernel_rfl) (si_solved_j4 K C hP O K) trivial))) (fun x y h => by rw [← e_i_solved]; exact h)
noncomputable def as_i_meetOf : Ty := (.pair (.sl (.int .i64)) .unit)
noncomputable def sp_i_meetOf (F : ((List Int) × Unit) → Option Int) : FnSpec := ⟨as_i_meetOf, [false], (.int .i64), F⟩
noncomputable def i_meetOf_l3 {R : Type} (K : Nat) : Nat → Int → (List Int) → Int → Int → (Int → Option R) → Option R
  | 0, _, _, _, _, _ => none
  | k + 1, v3, v9, v10, v11, kx0 =>
    (if (decide (v11 < v10)) = true then
    (if (bnds v11 (v9.length : Int)) = true then
    i_meetOf_l3 K k (bitI .and .i64 v3 (v9.getD v11.toNat (0 : Int))) v9 v10 (IntKind.i64.wrap (v11 + (1 : Int))) kx0
    else
    none)
    else
    kx0 v3)
noncomputable def i_meetOf (K : Nat) (x : ((List Int) × Unit)) : Option Int :=
    (if (bnds (0 : Int) (x.1.length : Int)) = true then
    i_meetOf_l3 K K (x.1.getD (0 : Int).toNat (0 : Int)) x.1 (x.1.length : Int) (0 : Int) (fun z1 =>
    some z1)
    else
    none)
noncomputable def lv_i_meetOf_L3 : Lv := [(3, (.v (.int .i64))), (9, (.v (.sl (.int .i64)))), (10, (.v (.int .i64))), (11, (.v (.int .i64)))]
noncomputable def lv_i_meetOf_X0 : Lv := [(3, (.v (.int .i64)))]
noncomputable def rv_i_meetOf : Lv := [(2, (.v (.int .i64)))]
noncomputable def gi_meetOf_l3 {R : Type} (K : Nat) (k : Nat) (x : den lv_i_meetOf_L3.ty) (kx : Nat → St → Option R) (kr : St → Option R) : Option R := i_meetOf_l3 K k x.1 x.2.1 x.2.2.1 x.2.2.2.1 (fun z0 => kx 0 (mkSt lv_i_meetOf_X0 (z0, ())))
noncomputable def sg_i_meetOf {R : Type} (K : Nat) (k : Nat) : List (Nat × SegS R) := []
noncomputable def su_i_meetOf : List (Nat × Unit) := []
noncomputable def en_i_meetOf {R : Type} (K : Nat) (k : Nat) : Env R := { L := lk [(3, mkLoop lv_i_meetOf_L3 (gi_meetOf_l3 K k))], X := lk [(0, lv_i_meetOf_X0)], S := lk (sg_i_meetOf K k), rv := rv_i_meetOf }
noncomputable def cf_i_meetOf (K : Nat) : Cfg := { ty := lk tys, fn := lk [], prot := 0, nt := Try.f85.ntmps }
noncomputable def c_i_meetOf_L3 : Code := nthC (partsOf (hasK su_i_meetOf) (bodyOf Try.f85)) 0
theorem ei_meetOf_l3 {R : Type} (K : Nat) (k : Nat) (x : den lv_i_meetOf_L3.ty) (kx : Nat → St → Option R) (kr : St → Option R) : gi_meetOf_l3 K (k + 1) x kx kr = evC (cf_i_meetOf K) (en_i_meetOf K k) c_i_meetOf_L3 (mkSt lv_i_meetOf_L3 x) (fun s => mkLoop lv_i_meetOf_L3 (gi_meetOf_l3 K k) s kx kr) kx kr := by kernel_rfl
theorem si_meetOf_l3 {R : Type} (K : Nat) (C : Cx) (hP : C.P = Try.prog) (O : CfgOk C (cf_i_meetOf K)) (k : Nat) : LpS C (R := R) (mkLoop lv_i_meetOf_L3 (gi_meetOf_l3 K k)) c_i_meetOf_L3 :=
  loop_sound O (by rw [hP]; kernel_rfl) (fun x kx kr => rfl) (ei_meetOf_l3 K) (fun k => lpOk_of (en := en_i_meetOf K k) (S := hasK su_i_meetOf) (fun i => hasK_lk (sg_i_meetOf K k) i) _ (by rw [show partsOf (hasK su_i_meetOf) c_i_meetOf_L3 = [] from by kernel_rfl]; exact trivial)) k
theorem e_i_meetOf (K : Nat) (x : den as_i_meetOf) : i_meetOf K x = evFn (cf_i_meetOf K) as_i_meetOf [false] (.int .i64) (en_i_meetOf K K) Try.f85.results.toList (bodyOf Try.f85) x := by kernel_rfl
theorem ok_i_meetOf (K : Nat) : FnOk Try.prog 85 (sp_i_meetOf (i_meetOf K)) :=
  fn_ok (cf := cf_i_meetOf K) (en := en_i_meetOf K K) (c := bodyOf Try.f85) Try.func85 (by kernel_rfl) (by kernel_rfl) tysOk (fns_ok (l := []) trivial) (by kernel_rfl) rfl (Nat.le_of_ble_eq_true (by kernel_rfl)) (by kernel_rfl) (of_decide_eq_true (by kernel_rfl)) (by decide) (fun C hP O => lpOk_of (en := en_i_meetOf K K) (S := hasK su_i_meetOf) (fun i => hasK_lk (sg_i_meetOf K K) i) _ (by rw [show partsOf (hasK su_i_meetOf) (bodyOf Try.f85) = [(true, c_i_meetOf_L3)] from by kernel_rfl]; exact (lpL_loop (f := mkLoop lv_i_meetOf_L3 (gi_meetOf_l3 K K)) (by kernel_rfl) (si_meetOf_l3 K C hP O K) trivial))) (fun x y h => by rw [← e_i_meetOf]; exact h)
noncomputable def as_i_MeetOfSolutions : Ty := (.pair (.st (.pair (.int .i64) (.pair (.sl (.st (.pair (.st (.pair (.int .i64) (.pair (.int .i64) .unit))) (.pair (.sl (.int .i64)) .unit)))) .unit))) .unit)
noncomputable def sp_i_MeetOfSolutions (F : ((Int × (List ((Int × Int × Unit) × (List Int) × Unit)) × Unit) × Unit) → Option (Int × Int × Unit)) : FnSpec := ⟨as_i_MeetOfSolutions, [false], (.tup (.pair (.int .i64) (.pair (.int .i64) .unit))), F⟩
noncomputable def i_MeetOfSolutions (K : Nat) (x : ((Int × (List ((Int × Int × Unit) × (List Int) × Unit)) × Unit) × Unit)) : Option (Int × Int × Unit) :=
    (i_solved K (x.1, ())).bind fun y1 =>
    (if (!decide (y1.2.1 = (0 : Int))) = true then
    some ((0 : Int), y1.2.1, ())
    else
    (i_meetOf K (y1.1, ())).bind fun y2 =>
    some (y2, (0 : Int), ()))
noncomputable def rv_i_MeetOfSolutions : Lv := [(2, (.v (.int .i64))), (3, (.v (.int .i64)))]
noncomputable def sg_i_MeetOfSolutions {R : Type} (K : Nat) (k : Nat) : List (Nat × SegS R) := []
noncomputable def su_i_MeetOfSolutions : List (Nat × Unit) := []
noncomputable def en_i_MeetOfSolutions {R : Type} (K : Nat) (k : Nat) : Env R := { L := lk [], X := lk [], S := lk (sg_i_MeetOfSolutions K k), rv := rv_i_MeetOfSolutions }
noncomputable def cf_i_MeetOfSolutions (K : Nat) : Cfg := { ty := lk tys, fn := lk [(84, sp_i_solved (i_solved K)), (85, sp_i_meetOf (i_meetOf K))], prot := 0, nt := Try.f36.ntmps }
theorem e_i_MeetOfSolutions (K : Nat) (x : den as_i_MeetOfSolutions) : i_MeetOfSolutions K x = evFn (cf_i_MeetOfSolutions K) as_i_MeetOfSolutions [false] (.tup (.pair (.int .i64) (.pair (.int .i64) .unit))) (en_i_MeetOfSolutions K K) Try.f36.results.toList (bodyOf Try.f36) x := by kernel_rfl
theorem ok_i_MeetOfSolutions (K : Nat) : FnOk Try.prog 36 (sp_i_MeetOfSolutions (i_MeetOfSolutions K)) :=
  fn_ok (cf := cf_i_MeetOfSolutions K) (en := en_i_MeetOfSolutions K K) (c := bodyOf Try.f36) Try.func36 (by kernel_rfl) (by kernel_rfl) tysOk (fns_ok (l := [(84, sp_i_solved (i_solved K)), (85, sp_i_meetOf (i_meetOf K))]) ⟨ok_i_solved K, ⟨ok_i_meetOf K, trivial⟩⟩) (by kernel_rfl) rfl (Nat.le_of_ble_eq_true (by kernel_rfl)) (by kernel_rfl) (of_decide_eq_true (by kernel_rfl)) (by decide) (fun C hP O => lpOk_of (en := en_i_MeetOfSolutions K K) (S := hasK su_i_MeetOfSolutions) (fun i => hasK_lk (sg_i_MeetOfSolutions K K) i) _ (by rw [show partsOf (hasK su_i_MeetOfSolutions) (bodyOf Try.f36) = [] from by kernel_rfl]; exact trivial)) (fun x y h => by rw [← e_i_MeetOfSolutions]; exact h)
noncomputable def as_w_FnExactMeetOfSolutions : Ty := (.pair (.st (.pair (.int .i64) (.pair (.sl (.st (.pair (.st (.pair (.int .i64) (.pair (.int .i64) .unit))) (.pair (.sl (.int .i64)) .unit)))) .unit))) .unit)
noncomputable def sp_w_FnExactMeetOfSolutions (F : ((Int × (List ((Int × Int × Unit) × (List Int) × Unit)) × Unit) × Unit) → Option Bool) : FnSpec := ⟨as_w_FnExactMeetOfSolutions, [false], .bool, F⟩
noncomputable def w_FnExactMeetOfSolutions_j10 {R : Type} (K : Nat) (k : Nat) (v1 : (Int × (List ((Int × Int × Unit) × (List Int) × Unit)) × Unit)) (v6_0 : Int) (v6_1 : (List ((Int × Int × Unit) × (List Int) × Unit))) (kn : Option R) (kr : (Bool → Option R)) : Option R :=
    (w_toInstance K (v1, ())).bind fun y6 =>
    (w_eqInstance K ((v6_0, v6_1, ()), (y6.1, y6.2.1, ()), ())).bind fun y7 =>
    (if (!y7) = true then
    kr false
    else
    kr true)
noncomputable def w_FnExactMeetOfSolutions (K : Nat) (x : ((Int × (List ((Int × Int × Unit) × (List Int) × Unit)) × Unit) × Unit)) : Option Bool :=
    (w_szInstance K (x.1, (1048576 : Int), ())).bind fun y1 =>
    (if (decide (y1 < (0 : Int))) = true then
    some true
    else
    (w_toInstance K (x.1, ())).bind fun y2 =>
    (s_MeetOfSolutions K ((y2.1, y2.2.1, ()), ())).bind fun y3 =>
    (w_toInstance K (x.1, ())).bind fun y4 =>
    (i_MeetOfSolutions K ((y4.1, y4.2.1, ()), ())).bind fun y5 =>
    (if (!decide (y5.1 = y3.1)) = true then
    some false
    else
    (if (!decide (y5.2.1 = y3.2.1)) = true then
    some false
    else
    w_FnExactMeetOfSolutions_j10 K K x.1 y4.1 y4.2.1 none (fun z8 =>
    some z8))))
noncomputable def lv_w_FnExactMeetOfSolutions_J10 : Lv := [(1, (.bx (.v (.st (.pair (.int .i64) (.pair (.sl (.st (.pair (.st (.pair (.int .i64) (.pair (.int .i64) .unit))) (.pair (.sl (.int .i64)) .unit)))) .unit)))))), (6, (.bx (.st (.pair (.v (.int .i64)) (.pair (.r (.st (.pair (.st (.pair (.int .i64) (.pair (.int .i64) .unit))) (.pair (.sl (.int .i64)) .unit)))) .unit)))))]
noncomputable def lv_w_FnExactMeetOfSolutions_N10 : Lv := []
noncomputable def rv_w_FnExactMeetOfSolutions : Lv := [(2, (.v .bool))]
noncomputable def gw_FnExactMeetOfSolutions_j10 {R : Type} (K : Nat) (k : Nat) (x : den lv_w_FnExactMeetOfSolutions_J10.ty) (kn : den lv_w_FnExactMeetOfSolutions_N10.ty → Option R) (kx : Nat → St → Option R) (kr : St → Option R) : Option R := w_FnExactMeetOfSolutions_j10 K k x.1 x.2.1.1 x.2.1.2.1 (kn ()) (fun z0 => kr (mkSt rv_w_FnExactMeetOfSolutions (z0, ())))
noncomputable def sg_w_FnExactMeetOfSolutions {R : Type} (K : Nat) (k : Nat) : List (Nat × SegS R) := [(10, mkSeg lv_w_FnExactMeetOfSolutions_J10 lv_w_FnExactMeetOfSolutions_N10 (gw_FnExactMeetOfSolutions_j10 K k))]
noncomputable def su_w_FnExactMeetOfSolutions : List (Nat × Unit) := [(10, ())]
noncomputable def en_w_FnExactMeetOfSolutions {R : Type} (K : Nat) (k : Nat) : Env R := { L := lk [], X := lk [], S := lk (sg_w_FnExactMeetOfSolutions K k), rv := rv_w_FnExactMeetOfSolutions }
noncomputable def cf_w_FnExactMeetOfSolutions (K : Nat) : Cfg := { ty := lk tys, fn := lk [(20, sp_w_szInstance (w_szInstance K)), (22, sp_w_toInstance (w_toInstance K)), (24, sp_w_eqInstance (w_eqInstance K)), (35, sp_s_MeetOfSolutions (s_MeetOfSolutions K)), (36, sp_i_MeetOfSolutions (i_MeetOfSolutions K))], prot := 0, nt := Try.f8.ntmps }
noncomputable def c_w_FnExactMeetOfSolutions_J10 : Code := nthC (partsOf (hasK su_w_FnExactMeetOfSolutions) (bodyOf Try.f8)) 0
theorem ew_FnExactMeetOfSolutions_j10 {R : Type} (K : Nat) (k : Nat) (x : den lv_w_FnExactMeetOfSolutions_J10.ty) (kn : den lv_w_FnExactMeetOfSolutions_N10.ty → Option R) (kx : Nat → St → Option R) (kr : St → Option R) : gw_FnExactMeetOfSolutions_j10 K k x kn kx kr = evC (cf_w_FnExactMeetOfSolutions K) (en_w_FnExactMeetOfSolutions K k) c_w_FnExactMeetOfSolutions_J10 (mkSt lv_w_FnExactMeetOfSolutions_J10 x) (cutK lv_w_FnExactMeetOfSolutions_N10 kn) kx kr := by kernel_rfl
theorem sw_FnExactMeetOfSolutions_j10 {R : Type} (K : Nat) (C : Cx) (hP : C.P = Try.prog) (O : CfgOk C (cf_w_FnExactMeetOfSolutions K)) (k : Nat) : SgS C (R := R) (mkSeg lv_w_FnExactMeetOfSolutions_J10 lv_w_FnExactMeetOfSolutions_N10 (gw_FnExactMeetOfSolutions_j10 K k)) c_w_FnExactMeetOfSolutions_J10 :=
  seg_sound O (by rw [hP]; kernel_rfl) (ew_FnExactMeetOfSolutions_j10 K k) (lpOk_of (en := en_w_FnExactMeetOfSolutions K k) (S := hasK su_w_FnExactMeetOfSolutions) (fun i => hasK_lk (sg_w_FnExactMeetOfSolutions K k) i) _ (by rw [show partsOf (hasK su_w_FnExactMeetOfSolutions) c_w_FnExactMeetOfSolutions_J10 = [] from by kernel_rfl]; exact trivial))
theorem e_w_FnExactMeetOfSolutions (K : Nat) (x : den as_w_FnExactMeetOfSolutions) : w_FnExactMeetOfSolutions K x = evFn (cf_w_FnExactMeetOfSolutions K) as_w_FnExactMeetOfSolutions [false] .bool (en_w_FnExactMeetOfSolutions K K) Try.f8.results.toList (bodyOf Try.f8) x := by kernel_rfl
theorem ok_w_FnExactMeetOfSolutions (K : Nat) : FnOk Try.prog 8 (sp_w_FnExactMeetOfSolutions (w_FnExactMeetOfSolutions K)) :=
  fn_ok (cf := cf_w_FnExactMeetOfSolutions K) (en := en_w_FnExactMeetOfSolutions K K) (c := bodyOf Try.f8) Try.func8 (by kernel_rfl) (by kernel_rfl) tysOk (fns_ok (l := [(20, sp_w_szInstance (w_szInstance K)), (22, sp_w_toInstance (w_toInstance K)), (24, sp_w_eqInstance (w_eqInstance K)), (35, sp_s_MeetOfSolutions (s_MeetOfSolutions K)), (36, sp_i_MeetOfSolutions (i_MeetOfSolutions K))]) ⟨ok_w_szInstance K, ⟨ok_w_toInstance K, ⟨ok_w_eqInstance K, ⟨ok_s_MeetOfSolutions K, ⟨ok_i_MeetOfSolutions K, trivial⟩⟩⟩⟩⟩) (by kernel_rfl) rfl (Nat.le_of_ble_eq_true (by kernel_rfl)) (by kernel_rfl) (of_decide_eq_true (by kernel_rfl)) (by decide) (fun C hP O => lpOk_of (en := en_w_FnExactMeetOfSolutions K K) (S := hasK su_w_FnExactMeetOfSolutions) (fun i => hasK_lk (sg_w_FnExactMeetOfSolutions K K) i) _ (by rw [show partsOf (hasK su_w_FnExactMeetOfSolutions) (bodyOf Try.f8) = [(false, c_w_FnExactMeetOfSolutions_J10)] from by kernel_rfl]; exact (lpL_seg (f := mkSeg lv_w_FnExactMeetOfSolutions_J10 lv_w_FnExactMeetOfSolutions_N10 (gw_FnExactMeetOfSolutions_j10 K K)) (by kernel_rfl) (sw_FnExactMeetOfSolutions_j10 K C hP O K) trivial))) (fun x y h => by rw [← e_w_FnExactMeetOfSolutions]; exact h)
noncomputable def as_s_l03Size : Ty := (.pair (.int .i64) .unit)
noncomputable def sp_s_l03Size (F : (Int × Unit) → Option Int) : FnSpec := ⟨as_s_l03Size, [false], (.int .i64), F⟩
noncomputable def s_l03Size_l2 {R : Type} (K : Nat) : Nat → Int → Int → (Int → Option R) → Option R
  | 0, _, _, _ => none
  | k + 1, v0, v3, kx0 =>
    (if (decide (v0 > (0 : Int))) = true then
    s_l03Size_l2 K k (IntKind.i64.wrap (Int.tdiv v0 (2 : Int))) (IntKind.i64.wrap (v3 + (Int.tmod v0 (2 : Int)))) kx0
    else
    kx0 v3)
noncomputable def s_l03Size (K : Nat) (x : (Int × Unit)) : Option Int :=
    s_l03Size_l2 K K x.1 (0 : Int) (fun z1 =>
    some z1)
noncomputable def lv_s_l03Size_L2 : Lv := [(0, (.v (.int .i64))), (3, (.v (.int .i64)))]
noncomputable def lv_s_l03Size_X0 : Lv := [(3, (.v (.int .i64)))]
noncomputable def rv_s_l03Size : Lv := [(2, (.v (.int .i64)))]
noncomputable def gs_l03Size_l2 {R : Type} (K : Nat) (k : Nat) (x : den lv_s_l03Size_L2.ty) (kx : Nat → St → Option R) (kr : St → Option R) : Option R := s_l03Size_l2 K k x.1 x.2.1 (fun z0 => kx 0 (mkSt lv_s_l03Size_X0 (z0, ())))
noncomputable def sg_s_l03Size {R : Type} (K : Nat) (k : Nat) : List (Nat × SegS R) := []
noncomputable def su_s_l03Size : List (Nat × Unit) := []
noncomputable def en_s_l03Size {R : Type} (K : Nat) (k : Nat) : Env R := { L := lk [(2, mkLoop lv_s_l03Size_L2 (gs_l03Size_l2 K k))], X := lk [(0, lv_s_l03Size_X0)], S := lk (sg_s_l03Size K k), rv := rv_s_l03Size }
noncomputable def cf_s_l03Size (K : Nat) : Cfg := { ty := lk tys, fn := lk [], prot := 0, nt := Try.f94.ntmps }
noncomputable def c_s_l03Size_L2 : Code := nthC (partsOf (hasK su_s_l03Size) (bodyOf Try.f94)) 0
theorem es_l03Size_l2 {R : Type} (K : Nat) (k : Nat) (x : den lv_s_l03Size_L2.ty) (kx : Nat → St → Option R) (kr : St → Option R) : gs_l03Size_l2 K (k + 1) x kx kr = evC (cf_s_l03Size K) (en_s_l03Size K k) c_s_l03Size_L2 (mkSt lv_s_l03Size_L2 x) (fun s => mkLoop lv_s_l03Size_L2 (gs_l03Size_l2 K k) s kx kr) kx kr := by kernel_rfl
theorem ss_l03Size_l2 {R : Type} (K : Nat) (C : Cx) (hP : C.P = Try.prog) (O : CfgOk C (cf_s_l03Size K)) (k : Nat) : LpS C (R := R) (mkLoop lv_s_l03Size_L2 (gs_l03Size_l2 K k)) c_s_l03Size_L2 :=
  loop_sound O (by rw [hP]; kernel_rfl) (fun x kx kr => rfl) (es_l03Size_l2 K) (fun k => lpOk_of (en := en_s_l03Size K k) (S := hasK su_s_l03Size) (fun i => hasK_lk (sg_s_l03Size K k) i) _ (by rw [show partsOf (hasK su_s_l03Size) c_s_l03Size_L2 = [] from by kernel_rfl]; exact trivial)) k
theorem e_s_l03Size (K : Nat) (x : den as_s_l03Size) : s_l03Size K x = evFn (cf_s_l03Size K) as_s_l03Size [false] (.int .i64) (en_s_l03Size K K) Try.f94.results.toList (bodyOf Try.f94) x := by kernel_rfl
theorem ok_s_l03Size (K : Nat) : FnOk Try.prog 94 (sp_s_l03Size (s_l03Size K)) :=
  fn_ok (cf := cf_s_l03Size K) (en := en_s_l03Size K K) (c := bodyOf Try.f94) Try.func94 (by kernel_rfl) (by kernel_rfl) tysOk (fns_ok (l := []) trivial) (by kernel_rfl) rfl (Nat.le_of_ble_eq_true (by kernel_rfl)) (by kernel_rfl) (of_decide_eq_true (by kernel_rfl)) (by decide) (fun C hP O => lpOk_of (en := en_s_l03Size K K) (S := hasK su_s_l03Size) (fun i => hasK_lk (sg_s_l03Size K K) i) _ (by rw [show partsOf (hasK su_s_l03Size) (bodyOf Try.f94) = [(true, c_s_l03Size_L2)] from by kernel_rfl]; exact (lpL_loop (f := mkLoop lv_s_l03Size_L2 (gs_l03Size_l2 K K)) (by kernel_rfl) (ss_l03Size_l2 K C hP O K) trivial))) (fun x y h => by rw [← e_s_l03Size]; exact h)
noncomputable def as_s_LeastSolution : Ty := (.pair (.st (.pair (.int .i64) (.pair (.sl (.st (.pair (.st (.pair (.int .i64) (.pair (.int .i64) .unit))) (.pair (.sl (.int .i64)) .unit)))) .unit))) .unit)
noncomputable def sp_s_LeastSolution (F : ((Int × (List ((Int × Int × Unit) × (List Int) × Unit)) × Unit) × Unit) → Option (Int × Int × Unit)) : FnSpec := ⟨as_s_LeastSolution, [false], (.tup (.pair (.int .i64) (.pair (.int .i64) .unit))), F⟩
noncomputable def s_LeastSolution_l6 {R : Type} (K : Nat) : Nat → (List Int) → Int → Int → (Int → Option R) → Option R
  | 0, _, _, _, _ => none
  | k + 1, v4, v6, v7, kx0 =>
    (if (decide (v7 < (v4.length : Int))) = true then
    (if (bnds v7 (v4.length : Int)) = true then
    (s_l03Size K ((v4.getD v7.toNat (0 : Int)), ())).bind fun y2 =>
    (s_l03Size K (v6, ())).bind fun y3 =>
    (if (decide (y2 < y3)) = true then
    (if (bnds v7 (v4.length : Int)) = true then
    s_LeastSolution_l6 K k v4 (v4.getD v7.toNat (0 : Int)) (IntKind.i64.wrap (v7 + (1 : Int))) kx0
    else
    none)
    else
    s_LeastSolution_l6 K k v4 v6 (IntKind.i64.wrap (v7 + (1 : Int))) kx0)
    else
    none)
    else
    kx0 v6)
noncomputable def s_LeastSolution (K : Nat) (x : ((Int × (List ((Int × Int × Unit) × (List Int) × Unit)) × Unit) × Unit)) : Option (Int × Int × Unit) :=
    (s_l09Given K (x.1, ())).bind fun y1 =>
    (if (!decide (y1.2.1 = (0 : Int))) = true then
    some ((0 : Int), y1.2.1, ())
    else
    (if (bnds (0 : Int) (y1.1.length : Int)) = true then
    s_LeastSolution_l6 K K y1.1 (y1.1.getD (0 : Int).toNat (0 : Int)) (1 : Int) (fun z4 =>
    some (z4, (0 : Int), ()))
    else
    none))
noncomputable def lv_s_LeastSolution_L6 : Lv := [(4, (.r (.int .i64))), (6, (.v (.int .i64))), (7, (.v (.int .i64)))]
noncomputable def lv_s_LeastSolution_X0 : Lv := [(6, (.v (.int .i64)))]
noncomputable def rv_s_LeastSolution : Lv := [(2, (.v (.int .i64))), (3, (.v (.int .i64)))]
noncomputable def gs_LeastSolution_l6 {R : Type} (K : Nat) (k : Nat) (x : den lv_s_LeastSolution_L6.ty) (kx : Nat → St → Option R) (kr : St → Option R) : Option R := s_LeastSolution_l6 K k x.1 x.2.1 x.2.2.1 (fun z0 => kx 0 (mkSt lv_s_LeastSolution_X0 (z0, ())))
noncomputable def sg_s_LeastSolution {R : Type} (K : Nat) (k : Nat) : List (Nat × SegS R) := []
noncomputable def su_s_LeastSolution : List (Nat × Unit) := []
noncomputable def en_s_LeastSolution {R : Type} (K : Nat) (k : Nat) : Env R := { L := lk [(6, mkLoop lv_s_LeastSolution_L6 (gs_LeastSolution_l6 K k))], X := lk [(0, lv_s_LeastSolution_X0)], S := lk (sg_s_LeastSolution K k), rv := rv_s_LeastSolution }
noncomputable def cf_s_LeastSolution (K : Nat) : Cfg := { ty := lk tys, fn := lk [(83, sp_s_l09Given (s_l09Given K)), (94, sp_s_l03Size (s_l03Size K))], prot := 0, nt := Try.f42.ntmps }
noncomputable def c_s_LeastSolution_L6 : Code := nthC (partsOf (hasK su_s_LeastSolution) (bodyOf Try.f42)) 0
theorem es_LeastSolution_l6 {R : Type} (K : Nat) (k : Nat) (x : den lv_s_LeastSolution_L6.ty) (kx : Nat → St → Option R) (kr : St → Option R) : gs_LeastSolution_l6 K (k + 1) x kx kr = evC (cf_s_LeastSolution K) (en_s_LeastSolution K k) c_s_LeastSolution_L6 (mkSt lv_s_LeastSolution_L6 x) (fun s => mkLoop lv_s_LeastSolution_L6 (gs_LeastSolution_l6 K k) s kx kr) kx kr := by kernel_rfl
theorem ss_LeastSolution_l6 {R : Type} (K : Nat) (C : Cx) (hP : C.P = Try.prog) (O : CfgOk C (cf_s_LeastSolution K)) (k : Nat) : LpS C (R := R) (mkLoop lv_s_LeastSolution_L6 (gs_LeastSolution_l6 K k)) c_s_LeastSolution_L6 :=
  loop_sound O (by rw [hP]; kernel_rfl) (fun x kx kr => rfl) (es_LeastSolution_l6 K) (fun k => lpOk_of (en := en_s_LeastSolution K k) (S := hasK su_s_LeastSolution) (fun i => hasK_lk (sg_s_LeastSolution K k) i) _ (by rw [show partsOf (hasK su_s_LeastSolution) c_s_LeastSolution_L6 = [] from by kernel_rfl]; exact trivial)) k
theorem e_s_LeastSolution (K : Nat) (x : den as_s_LeastSolution) : s_LeastSolution K x = evFn (cf_s_LeastSolution K) as_s_LeastSolution [false] (.tup (.pair (.int .i64) (.pair (.int .i64) .unit))) (en_s_LeastSolution K K) Try.f42.results.toList (bodyOf Try.f42) x := by kernel_rfl
theorem ok_s_LeastSolution (K : Nat) : FnOk Try.prog 42 (sp_s_LeastSolution (s_LeastSolution K)) :=
  fn_ok (cf := cf_s_LeastSolution K) (en := en_s_LeastSolution K K) (c := bodyOf Try.f42) Try.func42 (by kernel_rfl) (by kernel_rfl) tysOk (fns_ok (l := [(83, sp_s_l09Given (s_l09Given K)), (94, sp_s_l03Size (s_l03Size K))]) ⟨ok_s_l09Given K, ⟨ok_s_l03Size K, trivial⟩⟩) (by kernel_rfl) rfl (Nat.le_of_ble_eq_true (by kernel_rfl)) (by kernel_rfl) (of_decide_eq_true (by kernel_rfl)) (by decide) (fun C hP O => lpOk_of (en := en_s_LeastSolution K K) (S := hasK su_s_LeastSolution) (fun i => hasK_lk (sg_s_LeastSolution K K) i) _ (by rw [show partsOf (hasK su_s_LeastSolution) (bodyOf Try.f42) = [(true, c_s_LeastSolution_L6)] from by kernel_rfl]; exact (lpL_loop (f := mkLoop lv_s_LeastSolution_L6 (gs_LeastSolution_l6 K K)) (by kernel_rfl) (ss_LeastSolution_l6 K C hP O K) trivial))) (fun x y h => by rw [← e_s_LeastSolution]; exact h)
noncomputable def as_math_bits_OnesCount64 : Ty := (.pair (.int .u64) .unit)
noncomputable def sp_math_bits_OnesCount64 (F : (Int × Unit) → Option Int) : FnSpec := ⟨as_math_bits_OnesCount64, [false], (.int .i64), F⟩
noncomputable def math_bits_OnesCount64 (K : Nat) (x : (Int × Unit)) : Option Int :=
    let x1 := (bitI .and .u64 (shrI .u64 x.1 (1 : Int)) (6148914691236517205 : Int))
    let x2 := (IntKind.u64.wrap (x1 + (bitI .and .u64 x.1 (6148914691236517205 : Int))))
    let x3 := (bitI .and .u64 (shrI .u64 x2 (2 : Int)) (3689348814741910323 : Int))
    let x4 := (IntKind.u64.wrap (x3 + (bitI .and .u64 x2 (3689348814741910323 : Int))))
    let x5 := (bitI .and .u64 (IntKind.u64.wrap ((shrI .u64 x4 (4 : Int)) + x4)) (1085102592571150095 : Int))
    let x6 := (shrI .u64 (IntKind.u64.wrap (x5 + (shrI .u64 x5 (8 : Int)))) (16 : Int))
    let x7 := (IntKind.u64.wrap ((IntKind.u64.wrap (x5 + (shrI .u64 x5 (8 : Int)))) + x6))
    let x8 := (IntKind.i64.wrap (IntKind.u64.wrap (x7 + (shrI .u64 x7 (32 : Int)))))
    some (bitI .and .i64 x8 (127 : Int))
noncomputable def rv_math_bits_OnesCount64 : Lv := [(2, (.v (.int .i64)))]
noncomputable def sg_math_bits_OnesCount64 {R : Type} (K : Nat) (k : Nat) : List (Nat × SegS R) := []
noncomputable def su_math_bits_OnesCount64 : List (Nat × Unit) := []
noncomputable def en_math_bits_OnesCount64 {R : Type} (K : Nat) (k : Nat) : Env R := { L := lk [], X := lk [], S := lk (sg_math_bits_OnesCount64 K k), rv := rv_math_bits_OnesCount64 }
noncomputable def cf_math_bits_OnesCount64 (K : Nat) : Cfg := { ty := lk tys, fn := lk [], prot := 0, nt := Try.f127.ntmps }
theorem e_math_bits_OnesCount64 (K : Nat) (x : den as_math_bits_OnesCount64) : math_bits_OnesCount64 K x = evFn (cf_math_bits_OnesCount64 K) as_math_bits_OnesCount64 [false] (.int .i64) (en_math_bits_OnesCount64 K K) Try.f127.results.toList (bodyOf Try.f127) x := by kernel_rfl
theorem ok_math_bits_OnesCount64 (K : Nat) : FnOk Try.prog 127 (sp_math_bits_OnesCount64 (math_bits_OnesCount64 K)) :=
  fn_ok (cf := cf_math_bits_OnesCount64 K) (en := en_math_bits_OnesCount64 K K) (c := bodyOf Try.f127) Try.func127 (by kernel_rfl) (by kernel_rfl) tysOk (fns_ok (l := []) trivial) (by kernel_rfl) rfl (Nat.le_of_ble_eq_true (by kernel_rfl)) (by kernel_rfl) (of_decide_eq_true (by kernel_rfl)) (by decide) (fun C hP O => lpOk_of (en := en_math_bits_OnesCount64 K K) (S := hasK su_math_bits_OnesCount64) (fun i => hasK_lk (sg_math_bits_OnesCount64 K K) i) _ (by rw [show partsOf (hasK su_math_bits_OnesCount64) (bodyOf Try.f127) = [] from by kernel_rfl]; exact trivial)) (fun x y h => by rw [← e_math_bits_OnesCount64]; exact h)
noncomputable def as_i_ones : Ty := (.pair (.int .i64) .unit)
noncomputable def sp_i_ones (F : (Int × Unit) → Option Int) : FnSpec := ⟨as_i_ones, [false], (.int .i64), F⟩
noncomputable def i_ones (K : Nat) (x : (Int × Unit)) : Option Int :=
    (math_bits_OnesCount64 K ((IntKind.u64.wrap x.1), ())).bind fun y1 =>
    some y1
noncomputable def rv_i_ones : Lv := [(2, (.v (.int .i64)))]
noncomputable def sg_i_ones {R : Type} (K : Nat) (k : Nat) : List (Nat × SegS R) := []
noncomputable def su_i_ones : List (Nat × Unit) := []
noncomputable def en_i_ones {R : Type} (K : Nat) (k : Nat) : Env R := { L := lk [], X := lk [], S := lk (sg_i_ones K k), rv := rv_i_ones }
noncomputable def cf_i_ones (K : Nat) : Cfg := { ty := lk tys, fn := lk [(127, sp_math_bits_OnesCount64 (math_bits_OnesCount64 K))], prot := 0, nt := Try.f95.ntmps }
theorem e_i_ones (K : Nat) (x : den as_i_ones) : i_ones K x = evFn (cf_i_ones K) as_i_ones [false] (.int .i64) (en_i_ones K K) Try.f95.results.toList (bodyOf Try.f95) x := by kernel_rfl
theorem ok_i_ones (K : Nat) : FnOk Try.prog 95 (sp_i_ones (i_ones K)) :=
  fn_ok (cf := cf_i_ones K) (en := en_i_ones K K) (c := bodyOf Try.f95) Try.func95 (by kernel_rfl) (by kernel_rfl) tysOk (fns_ok (l := [(127, sp_math_bits_OnesCount64 (math_bits_OnesCount64 K))]) ⟨ok_math_bits_OnesCount64 K, trivial⟩) (by kernel_rfl) rfl (Nat.le_of_ble_eq_true (by kernel_rfl)) (by kernel_rfl) (of_decide_eq_true (by kernel_rfl)) (by decide) (fun C hP O => lpOk_of (en := en_i_ones K K) (S := hasK su_i_ones) (fun i => hasK_lk (sg_i_ones K K) i) _ (by rw [show partsOf (hasK su_i_ones) (bodyOf Try.f95) = [] from by kernel_rfl]; exact trivial)) (fun x y h => by rw [← e_i_ones]; exact h)
noncomputable def as_i_LeastSolution : Ty := (.pair (.st (.pair (.int .i64) (.pair (.sl (.st (.pair (.st (.pair (.int .i64) (.pair (.int .i64) .unit))) (.pair (.sl (.int .i64)) .unit)))) .unit))) .unit)
noncomputable def sp_i_LeastSolution (F : ((Int × (List ((Int × Int × Unit) × (List Int) × Unit)) × Unit) × Unit) → Option (Int × Int × Unit)) : FnSpec := ⟨as_i_LeastSolution, [false], (.tup (.pair (.int .i64) (.pair (.int .i64) .unit))), F⟩
noncomputable def i_LeastSolution_l6 {R : Type} (K : Nat) : Nat → Int → (List Int) → Int → Int → (Int → Option R) → Option R
  | 0, _, _, _, _, _ => none
  | k + 1, v6, v20, v21, v22, kx0 =>
    (if (decide (v22 < v21)) = true then
    (if (bnds v22 (v20.length : Int)) = true then
    (i_ones K ((v20.getD v22.toNat (0 : Int)), ())).bind fun y2 =>
    (i_ones K (v6, ())).bind fun y3 =>
    (if (decide (y2 < y3)) = true then
    i_LeastSolution_l6 K k (v20.getD v22.toNat (0 : Int)) v20 v21 (IntKind.i64.wrap (v22 + (1 : Int))) kx0
    else
    i_LeastSolution_l6 K k v6 v20 v21 (IntKind.i64.wrap (v22 + (1 : Int))) kx0)
    else
    none)
    else
    kx0 v6)
noncomputable def i_LeastSolution (K : Nat) (x : ((Int × (List ((Int × Int × Unit) × (List Int) × Unit)) × Unit) × Unit)) : Option (Int × Int × Unit) :=
    (i_solved K (x.1, ())).bind fun y1 =>
    (if (!decide (y1.2.1 = (0 : Int))) = true then
    some ((0 : Int), y1.2.1, ())
    else
    (if (bnds (0 : Int) (y1.1.length : Int)) = true then
    i_LeastSolution_l6 K K (y1.1.getD (0 : Int).toNat (0 : Int)) y1.1 (y1.1.length : Int) (0 : Int) (fun z4 =>
    some (z4, (0 : Int), ()))
    else
    none))
noncomputable def lv_i_LeastSolution_L6 : Lv := [(6, (.v (.int .i64))), (20, (.r (.int .i64))), (21, (.v (.int .i64))), (22, (.v (.int .i64)))]
noncomputable def lv_i_LeastSolution_X0 : Lv := [(6, (.v (.int .i64)))]
noncomputable def rv_i_LeastSolution : Lv := [(2, (.v (.int .i64))), (3, (.v (.int .i64)))]
noncomputable def gi_LeastSolution_l6 {R : Type} (K : Nat) (k : Nat) (x : den lv_i_LeastSolution_L6.ty) (kx : Nat → St → Option R) (kr : St → Option R) : Option R := i_LeastSolution_l6 K k x.1 x.2.1 x.2.2.1 x.2.2.2.1 (fun z0 => kx 0 (mkSt lv_i_LeastSolution_X0 (z0, ())))
noncomputable def sg_i_LeastSolution {R : Type} (K : Nat) (k : Nat) : List (Nat × SegS R) := []
noncomputable def su_i_LeastSolution : List (Nat × Unit) := []
noncomputable def en_i_LeastSolution {R : Type} (K : Nat) (k : Nat) : Env R := { L := lk [(6, mkLoop lv_i_LeastSolution_L6 (gi_LeastSolution_l6 K k))], X := lk [(0, lv_i_LeastSolution_X0)], S := lk (sg_i_LeastSolution K k), rv := rv_i_LeastSolution }
noncomputable def cf_i_LeastSolution (K : Nat) : Cfg := { ty := lk tys, fn := lk [(84, sp_i_solved (i_solved K)), (95, sp_i_ones (i_ones K))], prot := 0, nt := Try.f43.ntmps }
noncomputable def c_i_LeastSolution_L6 : Code := nthC (partsOf (hasK su_i_LeastSolution) (bodyOf Try.f43)) 0
theorem ei_LeastSolution_l6 {R : Type} (K : Nat) (k : Nat) (x : den lv_i_LeastSolution_L6.ty) (kx : Nat → St → Option R) (kr : St → Option R) : gi_LeastSolution_l6 K (k + 1) x kx kr = evC (cf_i_LeastSolution K) (en_i_LeastSolution K k) c_i_LeastSolution_L6 (mkSt lv_i_LeastSolution_L6 x) (fun s => mkLoop lv_i_LeastSolution_L6 (gi_LeastSolution_l6 K k) s kx kr) kx kr := by kernel_rfl
theorem si_LeastSolution_l6 {R : Type} (K : Nat) (C : Cx) (hP : C.P = Try.prog) (O : CfgOk C (cf_i_LeastSolution K)) (k : Nat) : LpS C (R := R) (mkLoop lv_i_LeastSolution_L6 (gi_LeastSolution_l6 K k)) c_i_LeastSolution_L6 :=
  loop_sound O (by rw [hP]; kernel_rfl) (fun x kx kr => rfl) (ei_LeastSolution_l6 K) (fun k => lpOk_of (en := en_i_LeastSolution K k) (S := hasK su_i_LeastSolution) (fun i => hasK_lk (sg_i_LeastSolution K k) i) _ (by rw [show partsOf (hasK su_i_LeastSolution) c_i_LeastSolution_L6 = [] from by kernel_rfl]; exact trivial)) k
theorem e_i_LeastSolution (K : Nat) (x : den as_i_LeastSolution) : i_LeastSolution K x = evFn (cf_i_LeastSolution K) as_i_LeastSolution [false] (.tup (.pair (.int .i64) (.pair (.int .i64) .unit))) (en_i_LeastSolution K K) Try.f43.results.toList (bodyOf Try.f43) x := by kernel_rfl
theorem ok_i_LeastSolution (K : Nat) : FnOk Try.prog 43 (sp_i_LeastSolution (i_LeastSolution K)) :=
  fn_ok (cf := cf_i_LeastSolution K) (en := en_i_LeastSolution K K) (c := bodyOf Try.f43) Try.func43 (by kernel_rfl) (by kernel_rfl) tysOk (fns_ok (l := [(84, sp_i_solved (i_solved K)), (95, sp_i_ones (i_ones K))]) ⟨ok_i_solved K, ⟨ok_i_ones K, trivial⟩⟩) (by kernel_rfl) rfl (Nat.le_of_ble_eq_true (by kernel_rfl)) (by kernel_rfl) (of_decide_eq_true (by kernel_rfl)) (by decide) (fun C hP O => lpOk_of (en := en_i_LeastSolution K K) (S := hasK su_i_LeastSolution) (fun i => hasK_lk (sg_i_LeastSolution K K) i) _ (by rw [show partsOf (hasK su_i_LeastSolution) (bodyOf Try.f43) = [(true, c_i_LeastSolution_L6)] from by kernel_rfl]; exact (lpL_loop (f := mkLoop lv_i_LeastSolution_L6 (gi_LeastSolution_l6 K K)) (by kernel_rfl) (si_LeastSolution_l6 K C hP O K) trivial))) (fun x y h => by rw [← e_i_LeastSolution]; exact h)
noncomputable def as_w_FnExactLeastSolution : Ty := (.pair (.st (.pair (.int .i64) (.pair (.sl (.st (.pair (.st (.pair (.int .i64) (.pair (.int .i64) .unit))) (.pair (.sl (.int .i64)) .unit)))) .unit))) .unit)
noncomputable def sp_w_FnExactLeastSolution (F : ((Int × (List ((Int × Int × Unit) × (List Int) × Unit)) × Unit) × Unit) → Option Bool) : FnSpec := ⟨as_w_FnExactLeastSolution, [false], .bool, F⟩
noncomputable def w_FnExactLeastSolution_j10 {R : Type} (K : Nat) (k : Nat) (v1 : (Int × (List ((Int × Int × Unit) × (List Int) × Unit)) × Unit)) (v6_0 : Int) (v6_1 : (List ((Int × Int × Unit) × (List Int) × Unit))) (kn : Option R) (kr : (Bool → Option R)) : Option R :=
    (w_toInstance K (v1, ())).bind fun y6 =>
    (w_eqInstance K ((v6_0, v6_1, ()), (y6.1, y6.2.1, ()), ())).bind fun y7 =>
    (if (!y7) = true then
    kr false
    else
    kr true)
noncomputable def w_FnExactLeastSolution (K : Nat) (x : ((Int × (List ((Int × Int × Unit) × (List Int) × Unit)) × Unit) × Unit)) : Option Bool :=
    (w_szInstance K (x.1, (1048576 : Int), ())).bind fun y1 =>
    (if (decide (y1 < (0 : Int))) = true then
    some true
    else
    (w_toInstance K (x.1, ())).bind fun y2 =>
    (s_LeastSolution K ((y2.1, y2.2.1, ()), ())).bind fun y3 =>
    (w_toInstance K (x.1, ())).bind fun y4 =>
    (i_LeastSolution K ((y4.1, y4.2.1, ()), ())).bind fun y5 =>
    (if (!decide (y5.1 = y3.1)) = true then
    some false
    else
    (if (!decide (y5.2.1 = y3.2.1)) = true then
    some false
    else
    w_FnExactLeastSolution_j10 K K x.1 y4.1 y4.2.1 none (fun z8 =>
    some z8))))
noncomputable def lv_w_FnExactLeastSolution_J10 : Lv := [(1, (.bx (.v (.st (.pair (.int .i64) (.pair (.sl (.st (.pair (.st (.pair (.int .i64) (.pair (.int .i64) .unit))) (.pair (.sl (.int .i64)) .unit)))) .unit)))))), (6, (.bx (.st (.pair (.v (.int .i64)) (.pair (.r (.st (.pair (.st (.pair (.int .i64) (.pair (.int .i64) .unit))) (.pair (.sl (.int .i64)) .unit)))) .unit)))))]
noncomputable def lv_w_FnExactLeastSolution_N10 : Lv := []
noncomputable def rv_w_FnExactLeastSolution : Lv := [(2, (.v .bool))]
noncomputable def gw_FnExactLeastSolution_j10 {R : Type} (K : Nat) (k : Nat) (x : den lv_w_FnExactLeastSolution_J10.ty) (kn : den lv_w_FnExactLeastSolution_N10.ty → Option R) (kx : Nat → St → Option R) (kr : St → Option R) : Option R := w_FnExactLeastSolution_j10 K k x.1 x.2.1.1 x.2.1.2.1 (kn ()) (fun z0 => kr (mkSt rv_w_FnExactLeastSolution (z0, ())))
noncomputable def sg_w_FnExactLeastSolution {R : Type} (K : Nat) (k : Nat) : List (Nat × SegS R) := [(10, mkSeg lv_w_FnExactLeastSolution_J10 lv_w_FnExactLeastSolution_N10 (gw_FnExactLeastSolution_j10 K k))]
noncomputable def su_w_FnExactLeastSolution : List (Nat × Unit) := [(10, ())]
noncomputable def en_w_FnExactLeastSolution {R : Type} (K : Nat) (k : Nat) : Env R := { L := lk [], X := lk [], S := lk (sg_w_FnExactLeastSolution K k), rv := rv_w_FnExactLeastSolution }
noncomputable def cf_w_FnExactLeastSolution (K : Nat) : Cfg := { ty := lk tys, fn := lk [(20, sp_w_szInstance (w_szInstance K)), (22, sp_w_toInstance (w_toInstance K)), (24, sp_w_eqInstance (w_eqInstance K)), (42, sp_s_LeastSolution (s_LeastSolution K)), (43, sp_i_LeastSolution (i_LeastSolution K))], prot := 0, nt := Try.f11.ntmps }
noncomputable def c_w_FnExactLeastSolution_J10 : Code := nthC (partsOf (hasK su_w_FnExactLeastSolution) (bodyOf Try.f11)) 0
theorem ew_FnExactLeastSolution_j10 {R : Type} (K : Nat) (k : Nat) (x : den lv_w_FnExactLeastSolution_J10.ty) (kn : den lv_w_FnExactLeastSolution_N10.ty → Option R) (kx : Nat → St → Option R) (kr : St → Option R) : gw_FnExactLeastSolution_j10 K k x kn kx kr = evC (cf_w_FnExactLeastSolution K) (en_w_FnExactLeastSolution K k) c_w_FnExactLeastSolution_J10 (mkSt lv_w_FnExactLeastSolution_J10 x) (cutK lv_w_FnExactLeastSolution_N10 kn) kx kr := by kernel_rfl
theorem sw_FnExactLeastSolution_j10 {R : Type} (K : Nat) (C : Cx) (hP : C.P = Try.prog) (O : CfgOk C (cf_w_FnExactLeastSolution K)) (k : Nat) : SgS C (R := R) (mkSeg lv_w_FnExactLeastSolution_J10 lv_w_FnExactLeastSolution_N10 (gw_FnExactLeastSolution_j10 K k)) c_w_FnExactLeastSolution_J10 :=
  seg_sound O (by rw [hP]; kernel_rfl) (ew_FnExactLeastSolution_j10 K k) (lpOk_of (en := en_w_FnExactLeastSolution K k) (S := hasK su_w_FnExactLeastSolution) (fun i => hasK_lk (sg_w_FnExactLeastSolution K k) i) _ (by rw [show partsOf (hasK su_w_FnExactLeastSolution) c_w_FnExactLeastSolution_J10 = [] from by kernel_rfl]; exact trivial))
theorem e_w_FnExactLeastSolution (K : Nat) (x : den as_w_FnExactLeastSolution) : w_FnExactLeastSolution K x = evFn (cf_w_FnExactLeastSolution K) as_w_FnExactLeastSolution [false] .bool (en_w_FnExactLeastSolution K K) Try.f11.results.toList (bodyOf Try.f11) x := by kernel_rfl
theorem ok_w_FnExactLeastSolution (K : Nat) : FnOk Try.prog 11 (sp_w_FnExactLeastSolution (w_FnExactLeastSolution K)) :=
  fn_ok (cf := cf_w_FnExactLeastSolution K) (en := en_w_FnExactLeastSolution K K) (c := bodyOf Try.f11) Try.func11 (by kernel_rfl) (by kernel_rfl) tysOk (fns_ok (l := [(20, sp_w_szInstance (w_szInstance K)), (22, sp_w_toInstance (w_toInstance K)), (24, sp_w_eqInstance (w_eqInstance K)), (42, sp_s_LeastSolution (s_LeastSolution K)), (43, sp_i_LeastSolution (i_LeastSolution K))]) ⟨ok_w_szInstance K, ⟨ok_w_toInstance K, ⟨ok_w_eqInstance K, ⟨ok_s_LeastSolution K, ⟨ok_i_LeastSolution K, trivial⟩⟩⟩⟩⟩) (by kernel_rfl) rfl (Nat.le_of_ble_eq_true (by kernel_rfl)) (by kernel_rfl) (of_decide_eq_true (by kernel_rfl)) (by decide) (fun C hP O => lpOk_of (en := en_w_FnExactLeastSolution K K) (S := hasK su_w_FnExactLeastSolution) (fun i => hasK_lk (sg_w_FnExactLeastSolution K K) i) _ (by rw [show partsOf (hasK su_w_FnExactLeastSolution) (bodyOf Try.f11) = [(false, c_w_FnExactLeastSolution_J10)] from by kernel_rfl]; exact (lpL_seg (f := mkSeg lv_w_FnExactLeastSolution_J10 lv_w_FnExactLeastSolution_N10 (gw_FnExactLeastSolution_j10 K K)) (by kernel_rfl) (sw_FnExactLeastSolution_j10 K C hP O K) trivial))) (fun x y h => by rw [← e_w_FnExactLeastSolution]; exact h)
noncomputable def as_s_ForcedOf : Ty := (.pair (.st (.pair (.int .i64) (.pair (.sl (.st (.pair (.st (.pair (.int .i64) (.pair (.int .i64) .unit))) (.pair (.sl (.int .i64)) .unit)))) .unit))) .unit)
noncomputable def sp_s_ForcedOf (F : ((Int × (List ((Int × Int × Unit) × (List Int) × Unit)) × Unit) × Unit) → Option ((List Int) × Int × Unit)) : FnSpec := ⟨as_s_ForcedOf, [false], (.tup (.pair (.sl (.int .i64)) (.pair (.int .i64) .unit))), F⟩
noncomputable def s_ForcedOf_l10 {R : Type} (K : Nat) : Nat → (Int × (List ((Int × Int × Unit) × (List Int) × Unit)) × Unit) → (List Int) → (List Int) → Int → Int → Int → ((Int × (List ((Int × Int × Unit) × (List Int) × Unit)) × Unit) → (List Int) → (List Int) → Int → Int → Option R) → Option R
  | 0, _, _, _, _, _, _, _ => none
  | k + 1, v1, v4, v6, v7, v8, v9, kx2 =>
    (if (decide (v9 < (v4.length : Int))) = true then
    (if (bnds v9 (v4.length : Int)) = true then
    (if (decide ((0 : Int) ≤ (IntKind.u64.wrap v7))) = true then
    let x4 := (shrI .i64 (v4.getD v9.toNat (0 : Int)) (IntKind.u64.wrap v7))
    (if (!decide ((bitI .and .i64 x4 (1 : Int)) = v8)) = true then
    kx2 v1 v4 v6 v7 (2 : Int)
    else
    s_ForcedOf_l10 K k v1 v4 v6 v7 v8 (IntKind.i64.wrap (v9 + (1 : Int))) kx2)
    else
    none)
    else
    none)
    else
    kx2 v1 v4 v6 v7 v8)
noncomputable def s_ForcedOf_l6 {R : Type} (K : Nat) : Nat → (Int × (List ((Int × Int × Unit) × (List Int) × Unit)) × Unit) → (List Int) → (List Int) → Int → ((List Int) → Option R) → Option R
  | 0, _, _, _, _, _ => none
  | k + 1, v1, v4, v6, v7, kx0 =>
    (if (decide (v7 < v1.1)) = true then
    (if (bnds (0 : Int) (v4.length : Int)) = true then
    (if (decide ((0 : Int) ≤ (IntKind.u64.wrap v7))) = true then
    let x3 := (shrI .i64 (v4.getD (0 : Int).toNat (0 : Int)) (IntKind.u64.wrap v7))
    s_ForcedOf_l10 K k v1 v4 v6 v7 (bitI .and .i64 x3 (1 : Int)) (1 : Int) (fun z5 z6 z7 z8 z9 =>
    (if (decide (z7.length + ([z9]).length ≤ lim)) = true then
    let l10 := (z7 ++ [z9])
    s_ForcedOf_l6 K k z5 z6 l10 (IntKind.i64.wrap (z8 + (1 : Int))) kx0
    else
    none))
    else
    none)
    else
    none)
    else
    kx0 v6)
noncomputable def s_ForcedOf (K : Nat) (x : ((Int × (List ((Int × Int × Unit) × (List Int) × Unit)) × Unit) × Unit)) : Option ((List Int) × Int × Unit) :=
    (s_l09Given K (x.1, ())).bind fun y1 =>
    (if (!decide (y1.2.1 = (0 : Int))) = true then
    some (([] : List Int), y1.2.1, ())
    else
    let l2 := ([] : List Int)
    s_ForcedOf_l6 K K x.1 y1.1 l2 (0 : Int) (fun z11 =>
    some (z11, (0 : Int), ())))
noncomputable def lv_s_ForcedOf_L6 : Lv := [(1, (.bx (.v (.st (.pair (.int .i64) (.pair (.sl (.st (.pair (.st (.pair (.int .i64) (.pair (.int .i64) .unit))) (.pair (.sl (.int .i64)) .unit)))) .unit)))))), (4, (.r (.int .i64))), (6, (.r (.int .i64))), (7, (.v (.int .i64)))]
noncomputable def lv_s_ForcedOf_L10 : Lv := [(1, (.bx (.v (.st (.pair (.int .i64) (.pair (.sl (.st (.pair (.st (.pair (.int .i64) (.pair (.int .i64) .unit))) (.pair (.sl (.int .i64)) .unit)))) .unit)))))), (4, (.r (.int .i64))), (6, (.r (.int .i64))), (7, (.v (.int .i64))), (8, (.v (.int .i64))), (9, (.v (.int .i64)))]
noncomputable def lv_s_ForcedOf_X0 : Lv := [(6, (.r (.int .i64)))]
noncomputable def lv_s_ForcedOf_X2 : Lv := [(1, (.bx (.v (.st (.pair (.int .i64) (.pair (.sl (.st (.pair (.st (.pair (.int .i64) (.pair (.int .i64) .unit))) (.pair (.sl (.int .i64)) .unit)))) .unit)))))), (4, (.r (.int .i64))), (6, (.r (.int .i64))), (7, (.v (.int .i64))), (8, (.v (.int .i64)))]
noncomputable def rv_s_ForcedOf : Lv := [(2, (.r (.int .i64))), (3, (.v (.int .i64)))]
noncomputable def gs_ForcedOf_l10 {R : Type} (K : Nat) (k : Nat) (x : den lv_s_ForcedOf_L10.ty) (kx : Nat → St → Option R) (kr : St → Option R) : Option R := s_ForcedOf_l10 K k x.1 x.2.1 x.2.2.1 x.2.2.2.1 x.2.2.2.2.1 x.2.2.2.2.2.1 (fun z0 z1 z2 z3 z4 => kx 2 (mkSt lv_s_ForcedOf_X2 (z0, z1, z2, z3, z4, ())))
noncomputable def gs_ForcedOf_l6 {R : Type} (K : Nat) (k : Nat) (x : den lv_s_ForcedOf_L6.ty) (kx : Nat → St → Option R) (kr : St → Option R) : Option R := s_ForcedOf_l6 K k x.1 x.2.1 x.2.2.1 x.2.2.2.1 (fun z0 => kx 0 (mkSt lv_s_ForcedOf_X0 (z0, ())))
noncomputable def sg_s_ForcedOf {R : Type} (K : Nat) (k : Nat) : List (Nat × SegS R) := []
noncomputable def su_s_ForcedOf : List (Nat × Unit) := []
noncomputable def en_s_ForcedOf {R : Type} (K : Nat) (k : Nat) : Env R := { L := lk [(10, mkLoop lv_s_ForcedOf_L10 (gs_ForcedOf_l10 K k)), (6, mkLoop lv_s_ForcedOf_L6 (gs_ForcedOf_l6 K k))], X := lk [(0, lv_s_ForcedOf_X0), (2, lv_s_ForcedOf_X2)], S := lk (sg_s_ForcedOf K k), rv := rv_s_ForcedOf }
noncomputable def cf_s_ForcedOf (K : Nat) : Cfg := { ty := lk tys, fn := lk [(83, sp_s_l09Given (s_l09Given K))], prot := 0, nt := Try.f44.ntmps }
noncomputable def c_s_ForcedOf_L6 : Code := nthC (partsOf (hasK su_s_ForcedOf) (bodyOf Try.f44)) 0
noncomputable def c_s_ForcedOf_L10 : Code := nthC (partsOf (hasK su_s_ForcedOf) c_s_ForcedOf_L6) 0
theorem es_ForcedOf_l10 {R : Type} (K : Nat) (k : Nat) (x : den lv_s_ForcedOf_L10.ty) (kx : Nat → St → Option R) (kr : St → Option R) : gs_ForcedOf_l10 K (k + 1) x kx kr = evC (cf_s_ForcedOf K) (en_s_ForcedOf K k) c_s_ForcedOf_L10 (mkSt lv_s_ForcedOf_L10 x) (fun s => mkLoop lv_s_ForcedOf_L10 (gs_ForcedOf_l10 K k) s kx kr) kx kr := by kernel_rfl
theorem ss_ForcedOf_l10 {R : Type} (K : Nat) (C : Cx) (hP : C.P = Try.prog) (O : CfgOk C (cf_s_ForcedOf K)) (k : Nat) : LpS C (R := R) (mkLoop lv_s_ForcedOf_L10 (gs_ForcedOf_l10 K k)) c_s_ForcedOf_L10 :=
  loop_sound O (by rw [hP]; kernel_rfl) (fun x kx kr => rfl) (es_ForcedOf_l10 K) (fun k => lpOk_of (en := en_s_ForcedOf K k) (S := hasK su_s_ForcedOf) (fun i => hasK_lk (sg_s_ForcedOf K k) i) _ (by rw [show partsOf (hasK su_s_ForcedOf) c_s_ForcedOf_L10 = [] from by kernel_rfl]; exact trivial)) k
theorem es_ForcedOf_l6 {R : Type} (K : Nat) (k : Nat) (x : den lv_s_ForcedOf_L6.ty) (kx : Nat → St → Option R) (kr : St → Option R) : gs_ForcedOf_l6 K (k + 1) x kx kr = evC (cf_s_ForcedOf K) (en_s_ForcedOf K k) c_s_ForcedOf_L6 (mkSt lv_s_ForcedOf_L6 x) (fun s => mkLoop lv_s_ForcedOf_L6 (gs_ForcedOf_l6 K k) s kx kr) kx kr := by kernel_rfl
theorem ss_ForcedOf_l6 {R : Type} (K : Nat) (C : Cx) (hP : C.P = Try.prog) (O : CfgOk C (cf_s_ForcedOf K)) (k : Nat) : LpS C (R := R) (mkLoop lv_s_ForcedOf_L6 (gs_ForcedOf_l6 K k)) c_s_ForcedOf_L6 :=
  loop_sound O (by rw [hP]; kernel_rfl) (fun x kx kr => rfl) (es_ForcedOf_l6 K) (fun k => lpOk_of (en := en_s_ForcedOf K k) (S := hasK su_s_ForcedOf) (fun i => hasK_lk (sg_s_ForcedOf K k) i) _ (by rw [show partsOf (hasK su_s_ForcedOf) c_s_ForcedOf_L6 = [(true, c_s_ForcedOf_L10)] from by kernel_rfl]; exact (lpL_loop (f := mkLoop lv_s_ForcedOf_L10 (gs_ForcedOf_l10 K k)) (by kernel_rfl) (ss_ForcedOf_l10 K C hP O k) trivial))) k
theorem e_s_ForcedOf (K : Nat) (x : den as_s_ForcedOf) : s_ForcedOf K x = evFn (cf_s_ForcedOf K) as_s_ForcedOf [false] (.tup (.pair (.sl (.int .i64)) (.pair (.int .i64) .unit))) (en_s_ForcedOf K K) Try.f44.results.toList (bodyOf Try.f44) x := by kernel_rfl
theorem ok_s_ForcedOf (K : Nat) : FnOk Try.prog 44 (sp_s_ForcedOf (s_ForcedOf K)) :=
  fn_ok (cf := cf_s_ForcedOf K) (en := en_s_ForcedOf K K) (c := bodyOf Try.f44) Try.func44 (by kernel_rfl) (by kernel_rfl) tysOk (fns_ok (l := [(83, sp_s_l09Given (s_l09Given K))]) ⟨ok_s_l09Given K, trivial⟩) (by kernel_rfl) rfl (Nat.le_of_ble_eq_true (by kernel_rfl)) (by kernel_rfl) (of_decide_eq_true (by kernel_rfl)) (by decide) (fun C hP O => lpOk_of (en := en_s_ForcedOf K K) (S := hasK su_s_ForcedOf) (fun i => hasK_lk (sg_s_ForcedOf K K) i) _ (by rw [show partsOf (hasK su_s_ForcedOf) (bodyOf Try.f44) = [(true, c_s_ForcedOf_L6)] from by kernel_rfl]; exact (lpL_loop (f := mkLoop lv_s_ForcedOf_L6 (gs_ForcedOf_l6 K K)) (by kernel_rfl) (ss_ForcedOf_l6 K C hP O K) trivial))) (fun x y h => by rw [← e_s_ForcedOf]; exact h)
noncomputable def as_i_ForcedOf_c1 : Ty := (.pair (.int .i64) (.pair (.ptr (.int .i64)) (.pair (.ptr (.int .i64)) .unit)))
noncomputable def sp_i_ForcedOf_c1 (F : (Int × Int × Int × Unit) → Option Bool) : FnSpec := ⟨as_i_ForcedOf_c1, [false, false, false], .bool, F⟩
noncomputable def i_ForcedOf_c1 (K : Nat) (x : (Int × Int × Int × Unit)) : Option Bool :=
    (i_bit K (x.1, x.2.1, ())).bind fun y1 =>
    some (!decide (y1 = x.2.2.1))
noncomputable def rv_i_ForcedOf_c1 : Lv := [(4, (.v .bool))]
noncomputable def sg_i_ForcedOf_c1 {R : Type} (K : Nat) (k : Nat) : List (Nat × SegS R) := []
noncomputable def su_i_ForcedOf_c1 : List (Nat × Unit) := []
noncomputable def en_i_ForcedOf_c1 {R : Type} (K : Nat) (k : Nat) : Env R := { L := lk [], X := lk [], S := lk (sg_i_ForcedOf_c1 K k), rv := rv_i_ForcedOf_c1 }
noncomputable def cf_i_ForcedOf_c1 (K : Nat) : Cfg := { ty := lk tys, fn := lk [(96, sp_i_bit (i_bit K))], prot := 0, nt := Try.f98.ntmps }
theorem e_i_ForcedOf_c1 (K : Nat) (x : den as_i_ForcedOf_c1) : i_ForcedOf_c1 K x = evFn (cf_i_ForcedOf_c1 K) as_i_ForcedOf_c1 [false, false, false] .bool (en_i_ForcedOf_c1 K K) Try.f98.results.toList (bodyOf Try.f98) x := by kernel_rfl
theorem ok_i_ForcedOf_c1 (K : Nat) : FnOk Try.prog 98 (sp_i_ForcedOf_c1 (i_ForcedOf_c1 K)) :=
  fn_ok (cf := cf_i_ForcedOf_c1 K) (en := en_i_ForcedOf_c1 K K) (c := bodyOf Try.f98) Try.func98 (by kernel_rfl) (by kernel_rfl) tysOk (fns_ok (l := [(96, sp_i_bit (i_bit K))]) ⟨ok_i_bit K, trivial⟩) (by kernel_rfl) rfl (Nat.le_of_ble_eq_true (by kernel_rfl)) (by kernel_rfl) (of_decide_eq_true (by kernel_rfl)) (by decide) (fun C hP O => lpOk_of (en := en_i_ForcedOf_c1 K K) (S := hasK su_i_ForcedOf_c1) (fun i => hasK_lk (sg_i_ForcedOf_c1 K K) i) _ (by rw [show partsOf (hasK su_i_ForcedOf_c1) (bodyOf Try.f98) = [] from by kernel_rfl]; exact trivial)) (fun x y h => by rw [← e_i_ForcedOf_c1]; exact h)
noncomputable def as_i_ForcedOf : Ty := (.pair (.st (.pair (.int .i64) (.pair (.sl (.st (.pair (.st (.pair (.int .i64) (.pair (.int .i64) .unit))) (.pair (.sl (.int .i64)) .unit)))) .unit))) .unit)
noncomputable def sp_i_ForcedOf (F : ((Int × (List ((Int × Int × Unit) × (List Int) × Unit)) × Unit) × Unit) → Option ((List Int) × Int × Unit)) : FnSpec := ⟨as_i_ForcedOf, [false], (.tup (.pair (.sl (.int .i64)) (.pair (.int .i64) .unit))), F⟩
noncomputable def i_ForcedOf_l6 {R : Type} (K : Nat) : Nat → (List Int) → (List Int) → Int → Int → ((List Int) → Option R) → Option R
  | 0, _, _, _, _, _ => none
  | k + 1, v4, v6, v18, v19, kx0 =>
    (if (decide (v19 < v18)) = true then
    (if (bnds (0 : Int) (v4.length : Int)) = true then
    (i_bit K ((v4.getD (0 : Int).toNat (0 : Int)), v19, ())).bind fun y2 =>
    (slices_ContainsFunc_int64 K (v4, (fun y4 => i_ForcedOf_c1 K (y4.1, v19, y2, ())), ())).bind fun y3 =>
    (if y3 = true then
    let l5 := [(2 : Int)]
    (if (decide (v6.length + l5.length ≤ lim)) = true then
    let l6 := (v6 ++ l5)
    i_ForcedOf_l6 K k v4 l6 v18 (IntKind.i64.wrap (v19 + (1 : Int))) kx0
    else
    none)
    else
    (if (decide (v6.length + ([y2]).length ≤ lim)) = true then
    let l7 := (v6 ++ [y2])
    i_ForcedOf_l6 K k v4 l7 v18 (IntKind.i64.wrap (v19 + (1 : Int))) kx0
    else
    none))
    else
    none)
    else
    kx0 v6)
noncomputable def i_ForcedOf (K : Nat) (x : ((Int × (List ((Int × Int × Unit) × (List Int) × Unit)) × Unit) × Unit)) : Option ((List Int) × Int × Unit) :=
    (i_solved K (x.1, ())).bind fun y1 =>
    (if (!decide (y1.2.1 = (0 : Int))) = true then
    some (([] : List Int), y1.2.1, ())
    else
    i_ForcedOf_l6 K K y1.1 ([] : List Int) x.1.1 (0 : Int) (fun z8 =>
    some (z8, (0 : Int), ())))
noncomputable def lv_i_ForcedOf_L6 : Lv := [(4, (.r (.int .i64))), (6, (.r (.int .i64))), (18, (.v (.int .i64))), (19, (.v (.int .i64)))]
noncomputable def lv_i_ForcedOf_X0 : Lv := [(6, (.r (.int .i64)))]
noncomputable def rv_i_ForcedOf : Lv := [(2, (.r (.int .i64))), (3, (.v (.int .i64)))]
noncomputable def gi_ForcedOf_l6 {R : Type} (K : Nat) (k : Nat) (x : den lv_i_ForcedOf_L6.ty) (kx : Nat → St → Option R) (kr : St → Option R) : Option R := i_ForcedOf_l6 K k x.1 x.2.1 x.2.2.1 x.2.2.2.1 (fun z0 => kx 0 (mkSt lv_i_ForcedOf_X0 (z0, ())))
noncomputable def sg_i_ForcedOf {R : Type} (K : Nat) (k : Nat) : List (Nat × SegS R) := []
noncomputable def su_i_ForcedOf : List (Nat × Unit) := []
noncomputable def en_i_ForcedOf {R : Type} (K : Nat) (k : Nat) : Env R := { L := lk [(6, mkLoop lv_i_ForcedOf_L6 (gi_ForcedOf_l6 K k))], X := lk [(0, lv_i_ForcedOf_X0)], S := lk (sg_i_ForcedOf K k), rv := rv_i_ForcedOf }
noncomputable def cf_i_ForcedOf (K : Nat) : Cfg := { ty := lk tys, fn := lk [(84, sp_i_solved (i_solved K)), (96, sp_i_bit (i_bit K)), (97, sp_slices_ContainsFunc_int64 (slices_ContainsFunc_int64 K)), (98, sp_i_ForcedOf_c1 (i_ForcedOf_c1 K))], prot := 0, nt := Try.f45.ntmps }
noncomputable def c_i_ForcedOf_L6 : Code := nthC (partsOf (hasK su_i_ForcedOf) (bodyOf Try.f45)) 0
theorem ei_ForcedOf_l6 {R : Type} (K : Nat) (k : Nat) (x : den lv_i_ForcedOf_L6.ty) (kx : Nat → St → Option R) (kr : St → Option R) : gi_ForcedOf_l6 K (k + 1) x kx kr = evC (cf_i_ForcedOf K) (en_i_ForcedOf K k) c_i_ForcedOf_L6 (mkSt lv_i_ForcedOf_L6 x) (fun s => mkLoop lv_i_ForcedOf_L6 (gi_ForcedOf_l6 K k) s kx kr) kx kr := by kernel_rfl
theorem si_ForcedOf_l6 {R : Type} (K : Nat) (C : Cx) (hP : C.P = Try.prog) (O : CfgOk C (cf_i_ForcedOf K)) (k : Nat) : LpS C (R := R) (mkLoop lv_i_ForcedOf_L6 (gi_ForcedOf_l6 K k)) c_i_ForcedOf_L6 :=
  loop_sound O (by rw [hP]; kernel_rfl) (fun x kx kr => rfl) (ei_ForcedOf_l6 K) (fun k => lpOk_of (en := en_i_ForcedOf K k) (S := hasK su_i_ForcedOf) (fun i => hasK_lk (sg_i_ForcedOf K k) i) _ (by rw [show partsOf (hasK su_i_ForcedOf) c_i_ForcedOf_L6 = [] from by kernel_rfl]; exact trivial)) k
theorem e_i_ForcedOf (K : Nat) (x : den as_i_ForcedOf) : i_ForcedOf K x = evFn (cf_i_ForcedOf K) as_i_ForcedOf [false] (.tup (.pair (.sl (.int .i64)) (.pair (.int .i64) .unit))) (en_i_ForcedOf K K) Try.f45.results.toList (bodyOf Try.f45) x := by kernel_rfl
theorem ok_i_ForcedOf (K : Nat) : FnOk Try.prog 45 (sp_i_ForcedOf (i_ForcedOf K)) :=
  fn_ok (cf := cf_i_ForcedOf K) (en := en_i_ForcedOf K K) (c := bodyOf Try.f45) Try.func45 (by kernel_rfl) (by kernel_rfl) tysOk (fns_ok (l := [(84, sp_i_solved (i_solved K)), (96, sp_i_bit (i_bit K)), (97, sp_slices_ContainsFunc_int64 (slices_ContainsFunc_int64 K)), (98, sp_i_ForcedOf_c1 (i_ForcedOf_c1 K))]) ⟨ok_i_solved K, ⟨ok_i_bit K, ⟨ok_slices_ContainsFunc_int64 K, ⟨ok_i_ForcedOf_c1 K, trivial⟩⟩⟩⟩) (by kernel_rfl) rfl (Nat.le_of_ble_eq_true (by kernel_rfl)) (by kernel_rfl) (of_decide_eq_true (by kernel_rfl)) (by decide) (fun C hP O => lpOk_of (en := en_i_ForcedOf K K) (S := hasK su_i_ForcedOf) (fun i => hasK_lk (sg_i_ForcedOf K K) i) _ (by rw [show partsOf (hasK su_i_ForcedOf) (bodyOf Try.f45) = [(true, c_i_ForcedOf_L6)] from by kernel_rfl]; exact (lpL_loop (f := mkLoop lv_i_ForcedOf_L6 (gi_ForcedOf_l6 K K)) (by kernel_rfl) (si_ForcedOf_l6 K C hP O K) trivial))) (fun x y h => by rw [← e_i_ForcedOf]; exact h)
noncomputable def as_w_FnExactForcedOf : Ty := (.pair (.st (.pair (.int .i64) (.pair (.sl (.st (.pair (.st (.pair (.int .i64) (.pair (.int .i64) .unit))) (.pair (.sl (.int .i64)) .unit)))) .unit))) .unit)
noncomputable def sp_w_FnExactForcedOf (F : ((Int × (List ((Int × Int × Unit) × (List Int) × Unit)) × Unit) × Unit) → Option Bool) : FnSpec := ⟨as_w_FnExactForcedOf, [false], .bool, F⟩
noncomputable def w_FnExactForcedOf_j27 {R : Type} (K : Nat) (k : Nat) (v7 : (List Int)) (v10 : Int) (kn : Option R) (kr : (Bool → Option R)) : Option R :=
    (w_heldInt64S K (v7, (1 : Int), ())).bind fun y16 =>
    (if (decide (y16 < (0 : Int))) = true then
    kr false
    else
    (if (!decide (y16 = v10)) = true then
    kr false
    else
    kr true))
noncomputable def w_FnExactForcedOf_j16 {R : Type} (K : Nat) (k : Nat) (v1 : (Int × (List ((Int × Int × Unit) × (List Int) × Unit)) × Unit)) (v4 : (List Int)) (v5 : Int) (v7 : (List Int)) (kn : Option R) (kr : (Bool → Option R)) : Option R :=
    (w_markInt64S K (v7, (1 : Int), ())).bind fun y11 =>
    (w_heldInt64S K (y11.2.1, (1 : Int), ())).bind fun y12 =>
    (if (decide (y12 < (0 : Int))) = true then
    kr false
    else
    (if (!decide (y12 = y11.1)) = true then
    kr false
    else
    (w_toInstance K (v1, ())).bind fun y13 =>
    (i_ForcedOf K ((y13.1, y13.2.1, ()), ())).bind fun y14 =>
    (w_eqInt64S K (y14.1, v4, ())).bind fun y15 =>
    (if (!y15) = true then
    kr false
    else
    (if (!decide (y14.2.1 = v5)) = true then
    kr false
    else
    w_FnExactForcedOf_j27 K k y11.2.1 y11.1 none (fun z17 =>
    kr z17)))))
noncomputable def w_FnExactForcedOf_j10 {R : Type} (K : Nat) (k : Nat) (v1 : (Int × (List ((Int × Int × Unit) × (List Int) × Unit)) × Unit)) (v4 : (List Int)) (v5 : Int) (v6_0 : Int) (v6_1 : (List ((Int × Int × Unit) × (List Int) × Unit))) (v7 : (List Int)) (v8 : Int) (kn : Option R) (kr : (Bool → Option R)) : Option R :=
    (w_toInstance K (v1, ())).bind fun y7 =>
    (w_eqInstance K ((v6_0, v6_1, ()), (y7.1, y7.2.1, ()), ())).bind fun y8 =>
    (if (!y8) = true then
    kr false
    else
    (w_markInstance K ((v6_0, v6_1, ()), (1 : Int), ())).bind fun y9 =>
    (if (decide (y9.1 < (0 : Int))) = true then
    kr false
    else
    (w_eqInt64S K (v7, v4, ())).bind fun y10 =>
    (if (!y10) = true then
    kr false
    else
    (if (!decide (v8 = v5)) = true then
    kr false
    else
    w_FnExactForcedOf_j16 K k v1 v4 v5 v7 none (fun z18 =>
    kr z18)))))
noncomputable def w_FnExactForcedOf (K : Nat) (x : ((Int × (List ((Int × Int × Unit) × (List Int) × Unit)) × Unit) × Unit)) : Option Bool :=
    (w_szInstance K (x.1, (1048576 : Int), ())).bind fun y1 =>
    (if (decide (y1 < (0 : Int))) = true then
    some true
    else
    (w_toInstance K (x.1, ())).bind fun y2 =>
    (s_ForcedOf K ((y2.1, y2.2.1, ()), ())).bind fun y3 =>
    (w_toInstance K (x.1, ())).bind fun y4 =>
    (i_ForcedOf K ((y4.1, y4.2.1, ()), ())).bind fun y5 =>
    (w_eqInt64S K (y5.1, y3.1, ())).bind fun y6 =>
    (if (!y6) = true then
    some false
    else
    (if (!decide (y5.2.1 = y3.2.1)) = true then
    some false
    else
    w_FnExactForcedOf_j10 K K x.1 y3.1 y3.2.1 y4.1 y4.2.1 y5.1 y5.2.1 none (fun z19 =>
    some z19))))
noncomputable def lv_w_FnExactForcedOf_J10 : Lv := [(1, (.bx (.v (.st (.pair (.int .i64) (.pair (.sl (.st (.pair (.st (.pair (.int .i64) (.pair (.int .i64) .unit))) (.pair (.sl (.int .i64)) .unit)))) .unit)))))), (4, (.r (.int .i64))), (5, (.v (.int .i64))), (6, (.bx (.st (.pair (.v (.int .i64)) (.pair (.r (.st (.pair (.st (.pair (.int .i64) (.pair (.int .i64) .unit))) (.pair (.sl (.int .i64)) .unit)))) .unit))))), (7, (.r (.int .i64))), (8, (.v (.int .i64)))]
noncomputable def lv_w_FnExactForcedOf_J16 : Lv := [(1, (.bx (.v (.st (.pair (.int .i64) (.pair (.sl (.st (.pair (.st (.pair (.int .i64) (.pair (.int .i64) .unit))) (.pair (.sl (.int .i64)) .unit)))) .unit)))))), (4, (.r (.int .i64))), (5, (.v (.int .i64))), (7, (.r (.int .i64)))]
noncomputable def lv_w_FnExactForcedOf_J27 : Lv := [(7, (.r (.int .i64))), (10, (.v (.int .i64)))]
noncomputable def lv_w_FnExactForcedOf_N10 : Lv := []
noncomputable def lv_w_FnExactForcedOf_N16 : Lv := []
noncomputable def lv_w_FnExactForcedOf_N27 : Lv := []
noncomputable def rv_w_FnExactForcedOf : Lv := [(2, (.v .bool))]
noncomputable def gw_FnExactForcedOf_j27 {R : Type} (K : Nat) (k : Nat) (x : den lv_w_FnExactForcedOf_J27.ty) (kn : den lv_w_FnExactForcedOf_N27.ty → Option R) (kx : Nat → St → Option R) (kr : St → Option R) : Option R := w_FnExactForcedOf_j27 K k x.1 x.2.1 (kn ()) (fun z0 => kr (mkSt rv_w_FnExactForcedOf (z0, ())))
noncomputable def gw_FnExactForcedOf_j16 {R : Type} (K : Nat) (k : Nat) (x : den lv_w_FnExactForcedOf_J16.ty) (kn : den lv_w_FnExactForcedOf_N16.ty → Option R) (kx : Nat → St → Option R) (kr : St → Option R) : Option R := w_FnExactForcedOf_j16 K k x.1 x.2.1 x.2.2.1 x.2.2.2.1 (kn ()) (fun z0 => kr (mkSt rv_w_FnExactForcedOf (z0, ())))
noncomputable def gw_FnExactForcedOf_j10 {R : Type} (K : Nat) (k : Nat) (x : den lv_w_FnExactForcedOf_J10.ty) (kn : den lv_w_FnExactForcedOf_N10.ty → Option R) (kx : Nat → St → Option R) (kr : St → Option R) : Option R := w_FnExactForcedOf_j10 K k x.1 x.2.1 x.2.2.1 x.2.2.2.1.1 x.2.2.2.1.2.1 x.2.2.2.2.1 x.2.2.2.2.2.1 (kn ()) (fun z0 => kr (mkSt rv_w_FnExactForcedOf (z0, ())))
noncomputable def sg_w_FnExactForcedOf {R : Type} (K : Nat) (k : Nat) : List (Nat × SegS R) := [(27, mkSeg lv_w_FnExactForcedOf_J27 lv_w_FnExactForcedOf_N27 (gw_FnExactForcedOf_j27 K k)), (16, mkSeg lv_w_FnExactForcedOf_J16 lv_w_FnExactForcedOf_N16 (gw_FnExactForcedOf_j16 K k)), (10, mkSeg lv_w_FnExactForcedOf_J10 lv_w_FnExactForcedOf_N10 (gw_FnExactForcedOf_j10 K k))]
noncomputable def su_w_FnExactForcedOf : List (Nat × Unit) := [(27, ()), (16, ()), (10, ())]
noncomputable def en_w_FnExactForcedOf {R : Type} (K : Nat) (k : Nat) : Env R := { L := lk [], X := lk [], S := lk (sg_w_FnExactForcedOf K k), rv := rv_w_FnExactForcedOf }
noncomputable def cf_w_FnExactForcedOf (K : Nat) : Cfg := { ty := lk tys, fn := lk [(17, sp_w_eqInt64S (w_eqInt64S K)), (18, sp_w_markInt64S (w_markInt64S K)), (19, sp_w_heldInt64S (w_heldInt64S K)), (20, sp_w_szInstance (w_szInstance K)), (22, sp_w_toInstance (w_toInstance K)), (24, sp_w_eqInstance (w_eqInstance K)), (32, sp_w_markInstance (w_markInstance K)), (44, sp_s_ForcedOf (s_ForcedOf K)), (45, sp_i_ForcedOf (i_ForcedOf K))], prot := 0, nt := Try.f12.ntmps }
noncomputable def c_w_FnExactForcedOf_J10 : Code := nthC (partsOf (hasK su_w_FnExactForcedOf) (bodyOf Try.f12)) 0
noncomputable def c_w_FnExactForcedOf_J16 : Code := nthC (partsOf (hasK su_w_FnExactForcedOf) c_w_FnExactForcedOf_J10) 0
noncomputable def c_w_FnExactForcedOf_J27 : Code := nthC (partsOf (hasK su_w_FnExactForcedOf) c_w_FnExactForcedOf_J16) 0
theorem ew_FnExactForcedOf_j27 {R : Type} (K : Nat) (k : Nat) (x : den lv_w_FnExactForcedOf_J27.ty) (kn : den lv_w_FnExactForcedOf_N27.ty → Option R) (kx : Nat → St → Option R) (kr : St → Option R) : gw_FnExactForcedOf_j27 K k x kn kx kr = evC (cf_w_FnExactForcedOf K) (en_w_FnExactForcedOf K k) c_w_FnExactForcedOf_J27 (mkSt lv_w_FnExactForcedOf_J27 x) (cutK lv_w_FnExactForcedOf_N27 kn) kx kr := by kernel_rfl
theorem sw_FnExactForcedOf_j27 {R : Type} (K : Nat) (C : Cx) (hP : C.P = Try.prog) (O : CfgOk C (cf_w_FnExactForcedOf K)) (k : Nat) : SgS C (R := R) (mkSeg lv_w_FnExactForcedOf_J27 lv_w_FnExactForcedOf_N27 (gw_FnExactForcedOf_j27 K k)) c_w_FnExactForcedOf_J27 :=
  seg_sound O (by rw [hP]; kernel_rfl) (ew_FnExactForcedOf_j27 K k) (lpOk_of (en := en_w_FnExactForcedOf K k) (S := hasK su_w_FnExactForcedOf) (fun i => hasK_lk (sg_w_FnExactForcedOf K k) i) _ (by rw [show partsOf (hasK su_w_FnExactForcedOf) c_w_FnExactForcedOf_J27 = [] from by kernel_rfl]; exact trivial))
theorem ew_FnExactForcedOf_j16 {R : Type} (K : Nat) (k : Nat) (x : den lv_w_FnExactForcedOf_J16.ty) (kn : den lv_w_FnExactForcedOf_N16.ty → Option R) (kx : Nat → St → Option R) (kr : St → Option R) : gw_FnExactForcedOf_j16 K k x kn kx kr = evC (cf_w_FnExactForcedOf K) (en_w_FnExactForcedOf K k) c_w_FnExactForcedOf_J16 (mkSt lv_w_FnExactForcedOf_J16 x) (cutK lv_w_FnExactForcedOf_N16 kn) kx kr := by kernel_rfl
theorem sw_FnExactForcedOf_j16 {R : Type} (K : Nat) (C : Cx) (hP : C.P = Try.prog) (O : CfgOk C (cf_w_FnExactForcedOf K)) (k : Nat) : SgS C (R := R) (mkSeg lv_w_FnExactForcedOf_J16 lv_w_FnExactForcedOf_N16 (gw_FnExactForcedOf_j16 K k)) c_w_FnExactForcedOf_J16 :=
  seg_sound O (by rw [hP]; kernel_rfl) (ew_FnExactForcedOf_j16 K k) (lpOk_of (en := en_w_FnExactForcedOf K k) (S := hasK su_w_FnExactForcedOf) (fun i => hasK_lk (sg_w_FnExactForcedOf K k) i) _ (by rw [show partsOf (hasK su_w_FnExactForcedOf) c_w_FnExactForcedOf_J16 = [(false, c_w_FnExactForcedOf_J27)] from by kernel_rfl]; exact (lpL_seg (f := mkSeg lv_w_FnExactForcedOf_J27 lv_w_FnExactForcedOf_N27 (gw_FnExactForcedOf_j27 K k)) (by kernel_rfl) (sw_FnExactForcedOf_j27 K C hP O k) trivial)))
theorem ew_FnExactForcedOf_j10 {R : Type} (K : Nat) (k : Nat) (x : den lv_w_FnExactForcedOf_J10.ty) (kn : den lv_w_FnExactForcedOf_N10.ty → Option R) (kx : Nat → St → Option R) (kr : St → Option R) : gw_FnExactForcedOf_j10 K k x kn kx kr = evC (cf_w_FnExactForcedOf K) (en_w_FnExactForcedOf K k) c_w_FnExactForcedOf_J10 (mkSt lv_w_FnExactForcedOf_J10 x) (cutK lv_w_FnExactForcedOf_N10 kn) kx kr := by kernel_rfl
theorem sw_FnExactForcedOf_j10 {R : Type} (K : Nat) (C : Cx) (hP : C.P = Try.prog) (O : CfgOk C (cf_w_FnExactForcedOf K)) (k : Nat) : SgS C (R := R) (mkSeg lv_w_FnExactForcedOf_J10 lv_w_FnExactForcedOf_N10 (gw_FnExactForcedOf_j10 K k)) c_w_FnExactForcedOf_J10 :=
  seg_sound O (by rw [hP]; kernel_rfl) (ew_FnExactForcedOf_j10 K k) (lpOk_of (en := en_w_FnExactForcedOf K k) (S := hasK su_w_FnExactForcedOf) (fun i => hasK_lk (sg_w_FnExactForcedOf K k) i) _ (by rw [show partsOf (hasK su_w_FnExactForcedOf) c_w_FnExactForcedOf_J10 = [(false, c_w_FnExactForcedOf_J16)] from by kernel_rfl]; exact (lpL_seg (f := mkSeg lv_w_FnExactForcedOf_J16 lv_w_FnExactForcedOf_N16 (gw_FnExactForcedOf_j16 K k)) (by kernel_rfl) (sw_FnExactForcedOf_j16 K C hP O k) trivial)))
theorem e_w_FnExactForcedOf (K : Nat) (x : den as_w_FnExactForcedOf) : w_FnExactForcedOf K x = evFn (cf_w_FnExactForcedOf K) as_w_FnExactForcedOf [false] .bool (en_w_FnExactForcedOf K K) Try.f12.results.toList (bodyOf Try.f12) x := by kernel_rfl
theorem ok_w_FnExactForcedOf (K : Nat) : FnOk Try.prog 12 (sp_w_FnExactForcedOf (w_FnExactForcedOf K)) :=
  fn_ok (cf := cf_w_FnExactForcedOf K) (en := en_w_FnExactForcedOf K K) (c := bodyOf Try.f12) Try.func12 (by kernel_rfl) (by kernel_rfl) tysOk (fns_ok (l := [(17, sp_w_eqInt64S (w_eqInt64S K)), (18, sp_w_markInt64S (w_markInt64S K)), (19, sp_w_heldInt64S (w_heldInt64S K)), (20, sp_w_szInstance (w_szInstance K)), (22, sp_w_toInstance (w_toInstance K)), (24, sp_w_eqInstance (w_eqInstance K)), (32, sp_w_markInstance (w_markInstance K)), (44, sp_s_ForcedOf (s_ForcedOf K)), (45, sp_i_ForcedOf (i_ForcedOf K))]) ⟨ok_w_eqInt64S K, ⟨ok_w_markInt64S K, ⟨ok_w_heldInt64S K, ⟨ok_w_szInstance K, ⟨ok_w_toInstance K, ⟨ok_w_eqInstance K, ⟨ok_w_markInstance K, ⟨ok_s_ForcedOf K, ⟨ok_i_ForcedOf K, trivial⟩⟩⟩⟩⟩⟩⟩⟩⟩) (by kernel_rfl) rfl (Nat.le_of_ble_eq_true (by kernel_rfl)) (by kernel_rfl) (of_decide_eq_true (by kernel_rfl)) (by decide) (fun C hP O => lpOk_of (en := en_w_FnExactForcedOf K K) (S := hasK su_w_FnExactForcedOf) (fun i => hasK_lk (sg_w_FnExactForcedOf K K) i) _ (by rw [show partsOf (hasK su_w_FnExactForcedOf) (bodyOf Try.f12) = [(false, c_w_FnExactForcedOf_J10)] from by kernel_rfl]; exact (lpL_seg (f := mkSeg lv_w_FnExactForcedOf_J10 lv_w_FnExactForcedOf_N10 (gw_FnExactForcedOf_j10 K K)) (by kernel_rfl) (sw_FnExactForcedOf_j10 K C hP O K) trivial))) (fun x y h => by rw [← e_w_FnExactForcedOf]; exact h)
noncomputable def as_s_l01Own : Ty := (.pair (.sl (.int .i64)) .unit)
noncomputable def sp_s_l01Own (F : ((List Int) × Unit) → Option (List Int)) : FnSpec := ⟨as_s_l01Own, [false], (.sl (.int .i64)), F⟩
noncomputable def s_l01Own (K : Nat) (x : ((List Int) × Unit)) : Option (List Int) :=
    let l1 := ([] : List Int)
    (if (decide (l1.length + x.1.length ≤ lim)) = true then
    let l2 := (l1 ++ x.1)
    some l2
    else
    none)
noncomputable def rv_s_l01Own : Lv := [(2, (.r (.int .i64)))]
noncomputable def sg_s_l01Own {R : Type} (K : Nat) (k : Nat) : List (Nat × SegS R) := []
noncomputable def su_s_l01Own : List (Nat × Unit) := []
noncomputable def en_s_l01Own {R : Type} (K : Nat) (k : Nat) : Env R := { L := lk [], X := lk [], S := lk (sg_s_l01Own K k), rv := rv_s_l01Own }
noncomputable def cf_s_l01Own (K : Nat) : Cfg := { ty := lk tys, fn := lk [], prot := 0, nt := Try.f99.ntmps }
theorem e_s_l01Own (K : Nat) (x : den as_s_l01Own) : s_l01Own K x = evFn (cf_s_l01Own K) as_s_l01Own [false] (.sl (.int .i64)) (en_s_l01Own K K) Try.f99.results.toList (bodyOf Try.f99) x := by kernel_rfl
theorem ok_s_l01Own (K : Nat) : FnOk Try.prog 99 (sp_s_l01Own (s_l01Own K)) :=
  fn_ok (cf := cf_s_l01Own K) (en := en_s_l01Own K K) (c := bodyOf Try.f99) Try.func99 (by kernel_rfl) (by kernel_rfl) tysOk (fns_ok (l := []) trivial) (by kernel_rfl) rfl (Nat.le_of_ble_eq_true (by kernel_rfl)) (by kernel_rfl) (of_decide_eq_true (by kernel_rfl)) (by decide) (fun C hP O => lpOk_of (en := en_s_l01Own K K) (S := hasK su_s_l01Own) (fun i => hasK_lk (sg_s_l01Own K K) i) _ (by rw [show partsOf (hasK su_s_l01Own) (bodyOf Try.f99) = [] from by kernel_rfl]; exact trivial)) (fun x y h => by rw [← e_s_l01Own]; exact h)
noncomputable def as_s_l09Copy : Ty := (.pair (.st (.pair (.int .i64) (.pair (.sl (.st (.pair (.st (.pair (.int .i64) (.pair (.int .i64) .unit))) (.pair (.sl (.int .i64)) .unit)))) .unit))) .unit)
noncomputable def sp_s_l09Copy (F : ((Int × (List ((Int × Int × Unit) × (List Int) × Unit)) × Unit) × Unit) → Option (List ((Int × Int × Unit) × (List Int) × Unit))) : FnSpec := ⟨as_s_l09Copy, [false], (.sl (.st (.pair (.st (.pair (.int .i64) (.pair (.int .i64) .unit))) (.pair (.sl (.int .i64)) .unit)))), F⟩
noncomputable def s_l09Copy_l3 {R : Type} (K : Nat) : Nat → (Int × (List ((Int × Int × Unit) × (List Int) × Unit)) × Unit) → (List ((Int × Int × Unit) × (List Int) × Unit)) → Int → ((List ((Int × Int × Unit) × (List Int) × Unit)) → Option R) → Option R
  | 0, _, _, _, _ => none
  | k + 1, v1, v3, v4, kx0 =>
    (if (decide (v4 < (v1.2.1.length : Int))) = true then
    (if (bnds v4 (v1.2.1.length : Int)) = true then
    let x2 := (v1.2.1.getD v4.toNat (((0 : Int), (0 : Int), ()), ([] : List Int), ()))
    (if (bnds v4 (v1.2.1.length : Int)) = true then
    let x3 := (v1.2.1.getD v4.toNat (((0 : Int), (0 : Int), ()), ([] : List Int), ()))
    (s_l01Own K (x3.2.1, ())).bind fun y4 =>
    let l5 := [(x2.1, y4, ())]
    (if (decide (v3.length + l5.length ≤ lim)) = true then
    let l6 := (v3 ++ l5)
    s_l09Copy_l3 K k v1 l6 (IntKind.i64.wrap (v4 + (1 : Int))) kx0
    else
    none)
    else
    none)
    else
    none)
    else
    kx0 v3)
noncomputable def s_l09Copy (K : Nat) (x : ((Int × (List ((Int × Int × Unit) × (List Int) × Unit)) × Unit) × Unit)) : Option (List ((Int × Int × Unit) × (List Int) × Unit)) :=
    let l1 := ([] : List ((Int × Int × Unit) × (List Int) × Unit))
    s_l09Copy_l3 K K x.1 l1 (0 : Int) (fun z7 =>
    some z7)
noncomputable def lv_s_l09Copy_L3 : Lv := [(1, (.bx (.v (.st (.pair (.int .i64) (.pair (.sl (.st (.pair (.st (.pair (.int .i64) (.pair (.int .i64) .unit))) (.pair (.sl (.int .i64)) .unit)))) .unit)))))), (3, (.r (.st (.pair (.st (.pair (.int .i64) (.pair (.int .i64) .unit))) (.pair (.sl (.int .i64)) .unit))))), (4, (.v (.int .i64)))]
noncomputable def lv_s_l09Copy_X0 : Lv := [(3, (.r (.st (.pair (.st (.pair (.int .i64) (.pair (.int .i64) .unit))) (.pair (.sl (.int .i64)) .unit)))))]
noncomputable def rv_s_l09Copy : Lv := [(2, (.r (.st (.pair (.st (.pair (.int .i64) (.pair (.int .i64) .unit))) (.pair (.sl (.int .i64)) .unit)))))]
noncomputable def gs_l09Copy_l3 {R : Type} (K : Nat) (k : Nat) (x : den lv_s_l09Copy_L3.ty) (kx : Nat → St → Option R) (kr : St → Option R) : Option R := s_l09Copy_l3 K k x.1 x.2.1 x.2.2.1 (fun z0 => kx 0 (mkSt lv_s_l09Copy_X0 (z0, ())))
noncomputable def sg_s_l09Copy {R : Type} (K : Nat) (k : Nat) : List (Nat × SegS R) := []
noncomputable def su_s_l09Copy : List (Nat × Unit) := []
noncomputable def en_s_l09Copy {R : Type} (K : Nat) (k : Nat) : Env R := { L := lk [(3, mkLoop lv_s_l09Copy_L3 (gs_l09Copy_l3 K k))], X := lk [(0, lv_s_l09Copy_X0)], S := lk (sg_s_l09Copy K k), rv := rv_s_l09Copy }
noncomputable def cf_s_l09Copy (K : Nat) : Cfg := { ty := lk tys, fn := lk [(99, sp_s_l01Own (s_l01Own K))], prot := 0, nt := Try.f86.ntmps }
noncomputable def c_s_l09Copy_L3 : Code := nthC (partsOf (hasK su_s_l09Copy) (bodyOf Try.f86)) 0
theorem es_l09Copy_l3 {R : Type} (K : Nat) (k : Nat) (x : den lv_s_l09Copy_L3.ty) (kx : Nat → St → Option R) (kr : St → Option R) : gs_l09Copy_l3 K (k + 1) x kx kr = evC (cf_s_l09Copy K) (en_s_l09Copy K k) c_s_l09Copy_L3 (mkSt lv_s_l09Copy_L3 x) (fun s => mkLoop lv_s_l09Copy_L3 (gs_l09Copy_l3 K k) s kx kr) kx kr := by kernel_rfl
theorem ss_l09Copy_l3 {R : Type} (K : Nat) (C : Cx) (hP : C.P = Try.prog) (O : CfgOk C (cf_s_l09Copy K)) (k : Nat) : LpS C (R := R) (mkLoop lv_s_l09Copy_L3 (gs_l09Copy_l3 K k)) c_s_l09Copy_L3 :=
  loop_sound O (by rw [hP]; kernel_rfl) (fun x kx kr => rfl) (es_l09Copy_l3 K) (fun k => lpOk_of (en := en_s_l09Copy K k) (S := hasK su_s_l09Copy) (fun i => hasK_lk (sg_s_l09Copy K k) i) _ (by rw [show partsOf (hasK su_s_l09Copy) c_s_l09Copy_L3 = [] from by kernel_rfl]; exact trivial)) k
theorem e_s_l09Copy (K : Nat) (x : den as_s_l09Copy) : s_l09Copy K x = evFn (cf_s_l09Copy K) as_s_l09Copy [false] (.sl (.st (.pair (.st (.pair (.int .i64) (.pair (.int .i64) .unit))) (.pair (.sl (.int .i64)) .unit)))) (en_s_l09Copy K K) Try.f86.results.toList (bodyOf Try.f86) x := by kernel_rfl
theorem ok_s_l09Copy (K : Nat) : FnOk Try.prog 86 (sp_s_l09Copy (s_l09Copy K)) :=
  fn_ok (cf := cf_s_l09Copy K) (en := en_s_l09Copy K K) (c := bodyOf Try.f86) Try.func86 (by kernel_rfl) (by kernel_rfl) tysOk (fns_ok (l := [(99, sp_s_l01Own (s_l01Own K))]) ⟨ok_s_l01Own K, trivial⟩) (by kernel_rfl) rfl (Nat.le_of_ble_eq_true (by kernel_rfl)) (by kernel_rfl) (of_decide_eq_true (by kernel_rfl)) (by decide) (fun C hP O => lpOk_of (en := en_s_l09Copy K K) (S := hasK su_s_l09Copy) (fun i => hasK_lk (sg_s_l09Copy K K) i) _ (by rw [show partsOf (hasK su_s_l09Copy) (bodyOf Try.f86) = [(true, c_s_l09Copy_L3)] from by kernel_rfl]; exact (lpL_loop (f := mkLoop lv_s_l09Copy_L3 (gs_l09Copy_l3 K K)) (by kernel_rfl) (ss_l09Copy_l3 K C hP O K) trivial))) (fun x y h => by rw [← e_s_l09Copy]; exact h)
noncomputable def as_s_FixVar : Ty := (.pair (.st (.pair (.int .i64) (.pair (.sl (.st (.pair (.st (.pair (.int .i64) (.pair (.int .i64) .unit))) (.pair (.sl (.int .i64)) .unit)))) .unit))) (.pair (.int .i64) (.pair (.int .i64) .unit)))
noncomputable def sp_s_FixVar (F : ((Int × (List ((Int × Int × Unit) × (List Int) × Unit)) × Unit) × Int × Int × Unit) → Option ((Int × (List ((Int × Int × Unit) × (List Int) × Unit)) × Unit) × Int × Unit)) : FnSpec := ⟨as_s_FixVar, [false, false, false], (.tup (.pair (.st (.pair (.int .i64) (.pair (.sl (.st (.pair (.st (.pair (.int .i64) (.pair (.int .i64) .unit))) (.pair (.sl (.int .i64)) .unit)))) .unit))) (.pair (.int .i64) .unit))), F⟩
noncomputable def s_FixVar_j7 {R : Type} (K : Nat) (k : Nat) (v1 : Int) (v2 : Int) (v3 : (Int × (List ((Int × Int × Unit) × (List Int) × Unit)) × Unit)) (v6_0 : Int) (v6_1 : (List ((Int × Int × Unit) × (List Int) × Unit))) (kn : Option R) (kr : (Int → (List ((Int × Int × Unit) × (List Int) × Unit)) → Int → Option R)) : Option R :=
    let x4 := (((1 : Int), ((0 : Int), (0 : Int), ()).2.1, ()).1, (IntKind.i64.wrap ((1 : Int) + v2)), ())
    (s_l09Copy K (v3, ())).bind fun y5 =>
    let l6 := [(x4, [v1], ())]
    (if (decide (y5.length + l6.length ≤ lim)) = true then
    let l7 := (y5 ++ l6)
    kr v3.1 l7 (0 : Int)
    else
    none)
noncomputable def s_FixVar (K : Nat) (x : ((Int × (List ((Int × Int × Unit) × (List Int) × Unit)) × Unit) × Int × Int × Unit)) : Option ((Int × (List ((Int × Int × Unit) × (List Int) × Unit)) × Unit) × Int × Unit) :=
    (s_l09Is K (x.1, ())).bind fun y1 =>
    (if (!y1) = true then
    some (((0 : Int), ([] : List ((Int × Int × Unit) × (List Int) × Unit)), ()), (1 : Int), ())
    else
    (s_l01In K (x.2.1, (0 : Int), (IntKind.i64.wrap (x.1.1 - (1 : Int))), ())).bind fun y2 =>
    (if (!y2) = true then
    some (((0 : Int), ([] : List ((Int × Int × Unit) × (List Int) × Unit)), ()), (2 : Int), ())
    else
    (s_l01In K (x.2.2.1, (0 : Int), (1 : Int), ())).bind fun y3 =>
    (if (!y3) = true then
    some (((0 : Int), ([] : List ((Int × Int × Unit) × (List Int) × Unit)), ()), (2 : Int), ())
    else
    (if (decide ((x.1.2.1.length : Int) = (12 : Int))) = true then
    some (((0 : Int), ([] : List ((Int × Int × Unit) × (List Int) × Unit)), ()), (3 : Int), ())
    else
    s_FixVar_j7 K K x.2.1 x.2.2.1 x.1 (0 : Int) ([] : List ((Int × Int × Unit) × (List Int) × Unit)) none (fun z8 z9 z10 =>
    some ((z8, z9, ()), z10, ()))))))
noncomputable def lv_s_FixVar_J7 : Lv := [(1, (.v (.int .i64))), (2, (.v (.int .i64))), (3, (.bx (.v (.st (.pair (.int .i64) (.pair (.sl (.st (.pair (.st (.pair (.int .i64) (.pair (.int .i64) .unit))) (.pair (.sl (.int .i64)) .unit)))) .unit)))))), (6, (.bx (.st (.pair (.v (.int .i64)) (.pair (.r (.st (.pair (.st (.pair (.int .i64) (.pair (.int .i64) .unit))) (.pair (.sl (.int .i64)) .unit)))) .unit)))))]
noncomputable def lv_s_FixVar_N7 : Lv := []
noncomputable def rv_s_FixVar : Lv := [(6, (.bx (.st (.pair (.v (.int .i64)) (.pair (.r (.st (.pair (.st (.pair (.int .i64) (.pair (.int .i64) .unit))) (.pair (.sl (.int .i64)) .unit)))) .unit))))), (7, (.v (.int .i64)))]
noncomputable def gs_FixVar_j7 {R : Type} (K : Nat) (k : Nat) (x : den lv_s_FixVar_J7.ty) (kn : den lv_s_FixVar_N7.ty → Option R) (kx : Nat → St → Option R) (kr : St → Option R) : Option R := s_FixVar_j7 K k x.1 x.2.1 x.2.2.1 x.2.2.2.1.1 x.2.2.2.1.2.1 (kn ()) (fun z0 z1 z2 => kr (mkSt rv_s_FixVar ((z0, z1, ()), z2, ())))
noncomputable def sg_s_FixVar {R : Type} (K : Nat) (k : Nat) : List (Nat × SegS R) := [(7, mkSeg lv_s_FixVar_J7 lv_s_FixVar_N7 (gs_FixVar_j7 K k))]
noncomputable def su_s_FixVar : List (Nat × Unit) := [(7, ())]
noncomputable def en_s_FixVar {R : Type} (K : Nat) (k : Nat) : Env R := { L := lk [], X := lk [], S := lk (sg_s_FixVar K k), rv := rv_s_FixVar }
noncomputable def cf_s_FixVar (K : Nat) : Cfg := { ty := lk tys, fn := lk [(52, sp_s_l01In (s_l01In K)), (64, sp_s_l09Is (s_l09Is K)), (86, sp_s_l09Copy (s_l09Copy K))], prot := 0, nt := Try.f37.ntmps }
noncomputable def c_s_FixVar_J7 : Code := nthC (partsOf (hasK su_s_FixVar) (bodyOf Try.f37)) 0
theorem es_FixVar_j7 {R : Type} (K : Nat) (k : Nat) (x : den lv_s_FixVar_J7.ty) (kn : den lv_s_FixVar_N7.ty → Option R) (kx : Nat → St → Option R) (kr : St → Option R) : gs_FixVar_j7 K k x kn kx kr = evC (cf_s_FixVar K) (en_s_FixVar K k) c_s_FixVar_J7 (mkSt lv_s_FixVar_J7 x) (cutK lv_s_FixVar_N7 kn) kx kr := by kernel_rfl
theorem ss_FixVar_j7 {R : Type} (K : Nat) (C : Cx) (hP : C.P = Try.prog) (O : CfgOk C (cf_s_FixVar K)) (k : Nat) : SgS C (R := R) (mkSeg lv_s_FixVar_J7 lv_s_FixVar_N7 (gs_FixVar_j7 K k)) c_s_FixVar_J7 :=
  seg_sound O (by rw [hP]; kernel_rfl) (es_FixVar_j7 K k) (lpOk_of (en := en_s_FixVar K k) (S := hasK su_s_FixVar) (fun i => hasK_lk (sg_s_FixVar K k) i) _ (by rw [show partsOf (hasK su_s_FixVar) c_s_FixVar_J7 = [] from by kernel_rfl]; exact trivial))
theorem e_s_FixVar (K : Nat) (x : den as_s_FixVar) : s_FixVar K x = evFn (cf_s_FixVar K) as_s_FixVar [false, false, false] (.tup (.pair (.st (.pair (.int .i64) (.pair (.sl (.st (.pair (.st (.pair (.int .i64) (.pair (.int .i64) .unit))) (.pair (.sl (.int .i64)) .unit)))) .unit))) (.pair (.int .i64) .unit))) (en_s_FixVar K K) Try.f37.results.toList (bodyOf Try.f37) x := by kernel_rfl
theorem ok_s_FixVar (K : Nat) : FnOk Try.prog 37 (sp_s_FixVar (s_FixVar K)) :=
  fn_ok (cf := cf_s_FixVar K) (en := en_s_FixVar K K) (c := bodyOf Try.f37) Try.func37 (by kernel_rfl) (by kernel_rfl) tysOk (fns_ok (l := [(52, sp_s_l01In (s_l01In K)), (64, sp_s_l09Is (s_l09Is K)), (86, sp_s_l09Copy (s_l09Copy K))]) ⟨ok_s_l01In K, ⟨ok_s_l09Is K, ⟨ok_s_l09Copy K, trivial⟩⟩⟩) (by kernel_rfl) rfl (Nat.le_of_ble_eq_true (by kernel_rfl)) (by kernel_rfl) (of_decide_eq_true (by kernel_rfl)) (by decide) (fun C hP O => lpOk_of (en := en_s_FixVar K K) (S := hasK su_s_FixVar) (fun i => hasK_lk (sg_s_FixVar K K) i) _ (by rw [show partsOf (hasK su_s_FixVar) (bodyOf Try.f37) = [(false, c_s_FixVar_J7)] from by kernel_rfl]; exact (lpL_seg (f := mkSeg lv_s_FixVar_J7 lv_s_FixVar_N7 (gs_FixVar_j7 K K)) (by kernel_rfl) (ss_FixVar_j7 K C hP O K) trivial))) (fun x y h => by rw [← e_s_FixVar]; exact h)
noncomputable def as_slices_Clone_int64 : Ty := (.pair (.sl (.int .i64)) .unit)
noncomputable def sp_slices_Clone_int64 (F : ((List Int) × Unit) → Option (List Int)) : FnSpec := ⟨as_slices_Clone_int64, [false], (.sl (.int .i64)), F⟩
noncomputable def slices_Clone_int64 (K : Nat) (x : List Int × Unit) : Option (List Int) := if x.1.length ≤ lim then some x.1 else none
noncomputable def ren_slices_Clone_int64 : Go.Shelf.Ren := ⟨fun _ => 103, fun k => bif Nat.beq k 22 then 22 else bif Nat.beq k 23 then 2 else 4, fun k => k⟩
theorem lays_slices_Clone_int64 : SlLaysE0.n41 Try.prog ren_slices_Clone_int64 :=
  ⟨by kernel_rfl, ⟨Try.f103.name, by kernel_rfl, by kernel_rfl⟩, Try.underlying4, Try.isAgg4, Try.sizeOf4, Try.zeroValue4, Try.underlying22, Try.isAgg22, Try.sizeOf22, Try.zeroValue22⟩
theorem ok_slices_Clone_int64 (K : Nat) : FnOk Try.prog 103 (sp_slices_Clone_int64 (slices_Clone_int64 K)) := clone_ok (ty := lk tys) lays_slices_Clone_int64 (tysOk 2 _ rfl) rfl (z := .val (.int .i64) (0 : Int)) rfl rfl (by decide)
noncomputable def as_i_copied : Ty := (.pair (.sl (.st (.pair (.st (.pair (.int .i64) (.pair (.int .i64) .unit))) (.pair (.sl (.int .i64)) .unit)))) .unit)
noncomputable def sp_i_copied (F : ((List ((Int × Int × Unit) × (List Int) × Unit)) × Unit) → Option (List ((Int × Int × Unit) × (List Int) × Unit))) : FnSpec := ⟨as_i_copied, [false], (.sl (.st (.pair (.st (.pair (.int .i64) (.pair (.int .i64) .unit))) (.pair (.sl (.int .i64)) .unit)))), F⟩
noncomputable def i_copied_l3 {R : Type} (K : Nat) : Nat → (List ((Int × Int × Unit) × (List Int) × Unit)) → (List ((Int × Int × Unit) × (List Int) × Unit)) → Int → Int → ((List ((Int × Int × Unit) × (List Int) × Unit)) → Option R) → Option R
  | 0, _, _, _, _, _ => none
  | k + 1, v3, v6, v7, v8, kx0 =>
    (if (decide (v8 < v7)) = true then
    (if (bnds v8 (v6.length : Int)) = true then
    let x1 := (v6.getD v8.toNat (((0 : Int), (0 : Int), ()), ([] : List Int), ()))
    (slices_Clone_int64 K (x1.2.1, ())).bind fun y2 =>
    let l3 := [(x1.1, y2, ())]
    (if (decide (v3.length + l3.length ≤ lim)) = true then
    let l4 := (v3 ++ l3)
    i_copied_l3 K k l4 v6 v7 (IntKind.i64.wrap (v8 + (1 : Int))) kx0
    else
    none)
    else
    none)
    else
    kx0 v3)
noncomputable def i_copied (K : Nat) (x : ((List ((Int × Int × Unit) × (List Int) × Unit)) × Unit)) : Option (List ((Int × Int × Unit) × (List Int) × Unit)) :=
    i_copied_l3 K K ([] : List ((Int × Int × Unit) × (List Int) × Unit)) x.1 (x.1.length : Int) (0 : Int) (fun z5 =>
    some z5)
noncomputable def lv_i_copied_L3 : Lv := [(3, (.r (.st (.pair (.st (.pair (.int .i64) (.pair (.int .i64) .unit))) (.pair (.sl (.int .i64)) .unit))))), (6, (.v (.sl (.st (.pair (.st (.pair (.int .i64) (.pair (.int .i64) .unit))) (.pair (.sl (.int .i64)) .unit)))))), (7, (.v (.int .i64))), (8, (.v (.int .i64)))]
noncomputable def lv_i_copied_X0 : Lv := [(3, (.r (.st (.pair (.st (.pair (.int .i64) (.pair (.int .i64) .unit))) (.pair (.sl (.int .i64)) .unit)))))]
noncomputable def rv_i_copied : Lv := [(2, (.r (.st (.pair (.st (.pair (.int .i64) (.pair (.int .i64) .unit))) (.pair (.sl (.int .i64)) .unit)))))]
noncomputable def gi_copied_l3 {R : Type} (K : Nat) (k : Nat) (x : den lv_i_copied_L3.ty) (kx : Nat → St → Option R) (kr : St → Option R) : Option R := i_copied_l3 K k x.1 x.2.1 x.2.2.1 x.2.2.2.1 (fun z0 => kx 0 (mkSt lv_i_copied_X0 (z0, ())))
noncomputable def sg_i_copied {R : Type} (K : Nat) (k : Nat) : List (Nat × SegS R) := []
noncomputable def su_i_copied : List (Nat × Unit) := []
noncomputable def en_i_copied {R : Type} (K : Nat) (k : Nat) : Env R := { L := lk [(3, mkLoop lv_i_copied_L3 (gi_copied_l3 K k))], X := lk [(0, lv_i_copied_X0)], S := lk (sg_i_copied K k), rv := rv_i_copied }
noncomputable def cf_i_copied (K : Nat) : Cfg := { ty := lk tys, fn := lk [(103, sp_slices_Clone_int64 (slices_Clone_int64 K))], prot := 0, nt := Try.f87.ntmps }
noncomputable def c_i_copied_L3 : Code := nthC (partsOf (hasK su_i_copied) (bodyOf Try.f87)) 0
theorem ei_copied_l3 {R : Type} (K : Nat) (k : Nat) (x : den lv_i_copied_L3.ty) (kx : Nat → St → Option R) (kr : St → Option R) : gi_copied_l3 K (k + 1) x kx kr = evC (cf_i_copied K) (en_i_copied K k) c_i_copied_L3 (mkSt lv_i_copied_L3 x) (fun s => mkLoop lv_i_copied_L3 (gi_copied_l3 K k) s kx kr) kx kr := by kernel_rfl
theorem si_copied_l3 {R : Type} (K : Nat) (C : Cx) (hP : C.P = Try.prog) (O : CfgOk C (cf_i_copied K)) (k : Nat) : LpS C (R := R) (mkLoop lv_i_copied_L3 (gi_copied_l3 K k)) c_i_copied_L3 :=
  loop_sound O (by rw [hP]; kernel_rfl) (fun x kx kr => rfl) (ei_copied_l3 K) (fun k => lpOk_of (en := en_i_copied K k) (S := hasK su_i_copied) (fun i => hasK_lk (sg_i_copied K k) i) _ (by rw [show partsOf (hasK su_i_copied) c_i_copied_L3 = [] from by kernel_rfl]; exact trivial)) k
theorem e_i_copied (K : Nat) (x : den as_i_copied) : i_copied K x = evFn (cf_i_copied K) as_i_copied [false] (.sl (.st (.pair (.st (.pair (.int .i64) (.pair (.int .i64) .unit))) (.pair (.sl (.int .i64)) .unit)))) (en_i_copied K K) Try.f87.results.toList (bodyOf Try.f87) x := by kernel_rfl
theorem ok_i_copied (K : Nat) : FnOk Try.prog 87 (sp_i_copied (i_copied K)) :=
  fn_ok (cf := cf_i_copied K) (en := en_i_copied K K) (c := bodyOf Try.f87) Try.func87 (by kernel_rfl) (by kernel_rfl) tysOk (fns_ok (l := [(103, sp_slices_Clone_int64 (slices_Clone_int64 K))]) ⟨ok_slices_Clone_int64 K, trivial⟩) (by kernel_rfl) rfl (Nat.le_of_ble_eq_true (by kernel_rfl)) (by kernel_rfl) (of_decide_eq_true (by kernel_rfl)) (by decide) (fun C hP O => lpOk_of (en := en_i_copied K K) (S := hasK su_i_copied) (fun i => hasK_lk (sg_i_copied K K) i) _ (by rw [show partsOf (hasK su_i_copied) (bodyOf Try.f87) = [(true, c_i_copied_L3)] from by kernel_rfl]; exact (lpL_loop (f := mkLoop lv_i_copied_L3 (gi_copied_l3 K K)) (by kernel_rfl) (si_copied_l3 K C hP O K) trivial))) (fun x y h => by rw [← e_i_copied]; exact h)
noncomputable def as_i_FixVar : Ty := (.pair (.st (.pair (.int .i64) (.pair (.sl (.st (.pair (.st (.pair (.int .i64) (.pair (.int .i64) .unit))) (.pair (.sl (.int .i64)) .unit)))) .unit))) (.pair (.int .i64) (.pair (.int .i64) .unit)))
noncomputable def sp_i_FixVar (F : ((Int × (List ((Int × Int × Unit) × (List Int) × Unit)) × Unit) × Int × Int × Unit) → Option ((Int × (List ((Int × Int × Unit) × (List Int) × Unit)) × Unit) × Int × Unit)) : FnSpec := ⟨as_i_FixVar, [false, false, false], (.tup (.pair (.st (.pair (.int .i64) (.pair (.sl (.st (.pair (.st (.pair (.int .i64) (.pair (.int .i64) .unit))) (.pair (.sl (.int .i64)) .unit)))) .unit))) (.pair (.int .i64) .unit))), F⟩
noncomputable def i_FixVar_j7 {R : Type} (K : Nat) (k : Nat) (v1 : Int) (v2 : Int) (v3 : (Int × (List ((Int × Int × Unit) × (List Int) × Unit)) × Unit)) (v6_0 : Int) (v6_1 : (List ((Int × Int × Unit) × (List Int) × Unit))) (kn : Option R) (kr : (Int → (List ((Int × Int × Unit) × (List Int) × Unit)) → Int → Option R)) : Option R :=
    (i_copied K (v3.2.1, ())).bind fun y4 =>
    (if (decide ((0 : Int) ≤ v2)) = true then
    let x5 := (((1 : Int), ((0 : Int), (0 : Int), ()).2.1, ()).1, (shlI .i64 (1 : Int) v2), ())
    let l6 := [(x5, [v1], ())]
    (if (decide (y4.length + l6.length ≤ lim)) = true then
    let l7 := (y4 ++ l6)
    kr v3.1 l7 (0 : Int)
    else
    none)
    else
    none)
noncomputable def i_FixVar (K : Nat) (x : ((Int × (List ((Int × Int × Unit) × (List Int) × Unit)) × Unit) × Int × Int × Unit)) : Option ((Int × (List ((Int × Int × Unit) × (List Int) × Unit)) × Unit) × Int × Unit) :=
    (i_IsInstance K (x.1, ())).bind fun y1 =>
    (if (!y1) = true then
    some (((0 : Int), ([] : List ((Int × Int × Unit) × (List Int) × Unit)), ()), (1 : Int), ())
    else
    (i_within K (x.2.1, (0 : Int), (IntKind.i64.wrap (x.1.1 - (1 : Int))), ())).bind fun y2 =>
    (if (!y2) = true then
    some (((0 : Int), ([] : List ((Int × Int × Unit) × (List Int) × Unit)), ()), (2 : Int), ())
    else
    (i_within K (x.2.2.1, (0 : Int), (1 : Int), ())).bind fun y3 =>
    (if (!y3) = true then
    some (((0 : Int), ([] : List ((Int × Int × Unit) × (List Int) × Unit)), ()), (2 : Int), ())
    else
    (if (decide ((x.1.2.1.length : Int) = (12 : Int))) = true then
    some (((0 : Int), ([] : List ((Int × Int × Unit) × (List Int) × Unit)), ()), (3 : Int), ())
    else
    i_FixVar_j7 K K x.2.1 x.2.2.1 x.1 (0 : Int) ([] : List ((Int × Int × Unit) × (List Int) × Unit)) none (fun z8 z9 z10 =>
    some ((z8, z9, ()), z10, ()))))))
noncomputable def lv_i_FixVar_J7 : Lv := [(1, (.v (.int .i64))), (2, (.v (.int .i64))), (3, (.bx (.v (.st (.pair (.int .i64) (.pair (.sl (.st (.pair (.st (.pair (.int .i64) (.pair (.int .i64) .unit))) (.pair (.sl (.int .i64)) .unit)))) .unit)))))), (6, (.bx (.st (.pair (.v (.int .i64)) (.pair (.r (.st (.pair (.st (.pair (.int .i64) (.pair (.int .i64) .unit))) (.pair (.sl (.int .i64)) .unit)))) .unit)))))]
noncomputable def lv_i_FixVar_N7 : Lv := []
noncomputable def rv_i_FixVar : Lv := [(6, (.bx (.st (.pair (.v (.int .i64)) (.pair (.r (.st (.pair (.st (.pair (.int .i64) (.pair (.int .i64) .unit))) (.pair (.sl (.int .i64)) .unit)))) .unit))))), (7, (.v (.int .i64)))]
noncomputable def gi_FixVar_j7 {R : Type} (K : Nat) (k : Nat) (x : den lv_i_FixVar_J7.ty) (kn : den lv_i_FixVar_N7.ty → Option R) (kx : Nat → St → Option R) (kr : St → Option R) : Option R := i_FixVar_j7 K k x.1 x.2.1 x.2.2.1 x.2.2.2.1.1 x.2.2.2.1.2.1 (kn ()) (fun z0 z1 z2 => kr (mkSt rv_i_FixVar ((z0, z1, ()), z2, ())))
noncomputable def sg_i_FixVar {R : Type} (K : Nat) (k : Nat) : List (Nat × SegS R) := [(7, mkSeg lv_i_FixVar_J7 lv_i_FixVar_N7 (gi_FixVar_j7 K k))]
noncomputable def su_i_FixVar : List (Nat × Unit) := [(7, ())]
noncomputable def en_i_FixVar {R : Type} (K : Nat) (k : Nat) : Env R := { L := lk [], X := lk [], S := lk (sg_i_FixVar K k), rv := rv_i_FixVar }
noncomputable def cf_i_FixVar (K : Nat) : Cfg := { ty := lk tys, fn := lk [(78, sp_i_IsInstance (i_IsInstance K)), (79, sp_i_within (i_within K)), (87, sp_i_copied (i_copied K))], prot := 0, nt := Try.f38.ntmps }
noncomputable def c_i_FixVar_J7 : Code := nthC (partsOf (hasK su_i_FixVar) (bodyOf Try.f38)) 0
theorem ei_FixVar_j7 {R : Type} (K : Nat) (k : Nat) (x : den lv_i_FixVar_J7.ty) (kn : den lv_i_FixVar_N7.ty → Option R) (kx : Nat → St → Option R) (kr : St → Option R) : gi_FixVar_j7 K k x kn kx kr = evC (cf_i_FixVar K) (en_i_FixVar K k) c_i_FixVar_J7 (mkSt lv_i_FixVar_J7 x) (cutK lv_i_FixVar_N7 kn) kx kr := by kernel_rfl
theorem si_FixVar_j7 {R : Type} (K : Nat) (C : Cx) (hP : C.P = Try.prog) (O : CfgOk C (cf_i_FixVar K)) (k : Nat) : SgS C (R := R) (mkSeg lv_i_FixVar_J7 lv_i_FixVar_N7 (gi_FixVar_j7 K k)) c_i_FixVar_J7 :=
  seg_sound O (by rw [hP]; kernel_rfl) (ei_FixVar_j7 K k) (lpOk_of (en := en_i_FixVar K k) (S := hasK su_i_FixVar) (fun i => hasK_lk (sg_i_FixVar K k) i) _ (by rw [show partsOf (hasK su_i_FixVar) c_i_FixVar_J7 = [] from by kernel_rfl]; exact trivial))
theorem e_i_FixVar (K : Nat) (x : den as_i_FixVar) : i_FixVar K x = evFn (cf_i_FixVar K) as_i_FixVar [false, false, false] (.tup (.pair (.st (.pair (.int .i64) (.pair (.sl (.st (.pair (.st (.pair (.int .i64) (.pair (.int .i64) .unit))) (.pair (.sl (.int .i64)) .unit)))) .unit))) (.pair (.int .i64) .unit))) (en_i_FixVar K K) Try.f38.results.toList (bodyOf Try.f38) x := by kernel_rfl
theorem ok_i_FixVar (K : Nat) : FnOk Try.prog 38 (sp_i_FixVar (i_FixVar K)) :=
  fn_ok (cf := cf_i_FixVar K) (en := en_i_FixVar K K) (c := bodyOf Try.f38) Try.func38 (by kernel_rfl) (by kernel_rfl) tysOk (fns_ok (l := [(78, sp_i_IsInstance (i_IsInstance K)), (79, sp_i_within (i_within K)), (87, sp_i_copied (i_copied K))]) ⟨ok_i_IsInstance K, ⟨ok_i_within K, ⟨ok_i_copied K, trivial⟩⟩⟩) (by kernel_rfl) rfl (Nat.le_of_ble_eq_true (by kernel_rfl)) (by kernel_rfl) (of_decide_eq_true (by kernel_rfl)) (by decide) (fun C hP O => lpOk_of (en := en_i_FixVar K K) (S := hasK su_i_FixVar) (fun i => hasK_lk (sg_i_FixVar K K) i) _ (by rw [show partsOf (hasK su_i_FixVar) (bodyOf Try.f38) = [(false, c_i_FixVar_J7)] from by kernel_rfl]; exact (lpL_seg (f := mkSeg lv_i_FixVar_J7 lv_i_FixVar_N7 (gi_FixVar_j7 K K)) (by kernel_rfl) (si_FixVar_j7 K C hP O K) trivial))) (fun x y h => by rw [← e_i_FixVar]; exact h)
noncomputable def as_w_FnExactFixVar : Ty := (.pair (.st (.pair (.int .i64) (.pair (.sl (.st (.pair (.st (.pair (.int .i64) (.pair (.int .i64) .unit))) (.pair (.sl (.int .i64)) .unit)))) .unit))) (.pair (.int .i64) (.pair (.int .i64) .unit)))
noncomputable def sp_w_FnExactFixVar (F : ((Int × (List ((Int × Int × Unit) × (List Int) × Unit)) × Unit) × Int × Int × Unit) → Option Bool) : FnSpec := ⟨as_w_FnExactFixVar, [false, false, false], .bool, F⟩
noncomputable def w_FnExactFixVar_j27 {R : Type} (K : Nat) (k : Nat) (v11_0 : Int) (v11_1 : (List ((Int × Int × Unit) × (List Int) × Unit))) (v14 : Int) (kn : Option R) (kr : (Bool → Option R)) : Option R :=
    (w_heldInstance K ((v11_0, v11_1, ()), (1 : Int), ())).bind fun y16 =>
    (if (decide (y16 < (0 : Int))) = true then
    kr false
    else
    (if (!decide (y16 = v14)) = true then
    kr false
    else
    kr true))
noncomputable def w_FnExactFixVar_j16 {R : Type} (K : Nat) (k : Nat) (v1 : Int) (v2 : Int) (v3 : (Int × (List ((Int × Int × Unit) × (List Int) × Unit)) × Unit)) (v8_0 : Int) (v8_1 : (List ((Int × Int × Unit) × (List Int) × Unit))) (v9 : Int) (v11_0 : Int) (v11_1 : (List ((Int × Int × Unit) × (List Int) × Unit))) (kn : Option R) (kr : (Bool → Option R)) : Option R :=
    (w_markInstance K ((v11_0, v11_1, ()), (1 : Int), ())).bind fun y11 =>
    (w_heldInstance K ((v11_0, y11.2.1.2.1, ()), (1 : Int), ())).bind fun y12 =>
    (if (decide (y12 < (0 : Int))) = true then
    kr false
    else
    (if (!decide (y12 = y11.1)) = true then
    kr false
    else
    (w_toInstance K (v3, ())).bind fun y13 =>
    (i_FixVar K ((y13.1, y13.2.1, ()), v1, v2, ())).bind fun y14 =>
    (w_eqInstance K ((y14.1.1, y14.1.2.1, ()), (v8_0, v8_1, ()), ())).bind fun y15 =>
    (if (!y15) = true then
    kr false
    else
    (if (!decide (y14.2.1 = v9)) = true then
    kr false
    else
    w_FnExactFixVar_j27 K k v11_0 y11.2.1.2.1 y11.1 none (fun z17 =>
    kr z17)))))
noncomputable def w_FnExactFixVar_j10 {R : Type} (K : Nat) (k : Nat) (v1 : Int) (v2 : Int) (v3 : (Int × (List ((Int × Int × Unit) × (List Int) × Unit)) × Unit)) (v8_0 : Int) (v8_1 : (List ((Int × Int × Unit) × (List Int) × Unit))) (v9 : Int) (v10_0 : Int) (v10_1 : (List ((Int × Int × Unit) × (List Int) × Unit))) (v11_0 : Int) (v11_1 : (List ((Int × Int × Unit) × (List Int) × Unit))) (v12 : Int) (kn : Option R) (kr : (Bool → Option R)) : Option R :=
    (w_toInstance K (v3, ())).bind fun y7 =>
    (w_eqInstance K ((v10_0, v10_1, ()), (y7.1, y7.2.1, ()), ())).bind fun y8 =>
    (if (!y8) = true then
    kr false
    else
    (w_markInstance K ((v10_0, v10_1, ()), (1 : Int), ())).bind fun y9 =>
    (if (decide (y9.1 < (0 : Int))) = true then
    kr false
    else
    (w_eqInstance K ((v11_0, v11_1, ()), (v8_0, v8_1, ()), ())).bind fun y10 =>
    (if (!y10) = true then
    kr false
    else
    (if (!decide (v12 = v9)) = true then
    kr false
    else
    w_FnExactFixVar_j16 K k v1 v2 v3 v8_0 v8_1 v9 v11_0 v11_1 none (fun z18 =>
    kr z18)))))
noncomputable def w_FnExactFixVar (K : Nat) (x : ((Int × (List ((Int × Int × Unit) × (List Int) × Unit)) × Unit) × Int × Int × Unit)) : Option Bool :=
    (w_szInstance K (x.1, (1048576 : Int), ())).bind fun y1 =>
    (if (decide (y1 < (0 : Int))) = true then
    some true
    else
    (w_toInstance K (x.1, ())).bind fun y2 =>
    (s_FixVar K ((y2.1, y2.2.1, ()), x.2.1, x.2.2.1, ())).bind fun y3 =>
    (w_toInstance K (x.1, ())).bind fun y4 =>
    (i_FixVar K ((y4.1, y4.2.1, ()), x.2.1, x.2.2.1, ())).bind fun y5 =>
    (w_eqInstance K ((y5.1.1, y5.1.2.1, ()), (y3.1.1, y3.1.2.1, ()), ())).bind fun y6 =>
    (if (!y6) = true then
    some false
    else
    (if (!decide (y5.2.1 = y3.2.1)) = true then
    some false
    else
    w_FnExactFixVar_j10 K K x.2.1 x.2.2.1 x.1 y3.1.1 y3.1.2.1 y3.2.1 y4.1 y4.2.1 y5.1.1 y5.1.2.1 y5.2.1 none (fun z19 =>
    some z19))))
noncomputable def lv_w_FnExactFixVar_J10 : Lv := [(1, (.v (.int .i64))), (2, (.v (.int .i64))), (3, (.bx (.v (.st (.pair (.int .i64) (.pair (.sl (.st (.pair (.st (.pair (.int .i64) (.pair (.int .i64) .unit))) (.pair (.sl (.int .i64)) .unit)))) .unit)))))), (8, (.bx (.st (.pair (.v (.int .i64)) (.pair (.r (.st (.pair (.st (.pair (.int .i64) (.pair (.int .i64) .unit))) (.pair (.sl (.int .i64)) .unit)))) .unit))))), (9, (.v (.int .i64))), (10, (.bx (.st (.pair (.v (.int .i64)) (.pair (.r (.st (.pair (.st (.pair (.int .i64) (.pair (.int .i64) .unit))) (.pair (.sl (.int .i64)) .unit)))) .unit))))), (11, (.bx (.st (.pair (.v (.int .i64)) (.pair (.r (.st (.pair (.st (.pair (.int .i64) (.pair (.int .i64) .unit))) (.pair (.sl (.int .i64)) .unit)))) .unit))))), (12, (.v (.int .i64)))]
noncomputable def lv_w_FnExactFixVar_J16 : Lv := [(1, (.v (.int .i64))), (2, (.v (.int .i64))), (3, (.bx (.v (.st (.pair (.int .i64) (.pair (.sl (.st (.pair (.st (.pair (.int .i64) (.pair (.int .i64) .unit))) (.pair (.sl (.int .i64)) .unit)))) .unit)))))), (8, (.bx (.st (.pair (.v (.int .i64)) (.pair (.r (.st (.pair (.st (.pair (.int .i64) (.pair (.int .i64) .unit))) (.pair (.sl (.int .i64)) .unit)))) .unit))))), (9, (.v (.int .i64))), (11, (.bx (.st (.pair (.v (.int .i64)) (.pair (.r (.st (.pair (.st (.pair (.int .i64) (.pair (.int .i64) .unit))) (.pair (.sl (.int .i64)) .unit)))) .unit)))))]
noncomputable def lv_w_FnExactFixVar_J27 : Lv := [(11, (.bx (.st (.pair (.v (.int .i64)) (.pair (.r (.st (.pair (.st (.pair (.int .i64) (.pair (.int .i64) .unit))) (.pair (.sl (.int .i64)) .unit)))) .unit))))), (14, (.v (.int .i64)))]
noncomputable def lv_w_FnExactFixVar_N10 : Lv := []
noncomputable def lv_w_FnExactFixVar_N16 : Lv := []
noncomputable def lv_w_FnExactFixVar_N27 : Lv := []
noncomputable def rv_w_FnExactFixVar : Lv := [(6, (.v .bool))]
noncomputable def gw_FnExactFixVar_j27 {R : Type} (K : Nat) (k : Nat) (x : den lv_w_FnExactFixVar_J27.ty) (kn : den lv_w_FnExactFixVar_N27.ty → Option R) (kx : Nat → St → Option R) (kr : St → Option R) : Option R := w_FnExactFixVar_j27 K k x.1.1 x.1.2.1 x.2.1 (kn ()) (fun z0 => kr (mkSt rv_w_FnExactFixVar (z0, ())))
noncomputable def gw_FnExactFixVar_j16 {R : Type} (K : Nat) (k : Nat) (x : den lv_w_FnExactFixVar_J16.ty) (kn : den lv_w_FnExactFixVar_N16.ty → Option R) (kx : Nat → St → Option R) (kr : St → Option R) : Option R := w_FnExactFixVar_j16 K k x.1 x.2.1 x.2.2.1 x.2.2.2.1.1 x.2.2.2.1.2.1 x.2.2.2.2.1 x.2.2.2.2.2.1.1 x.2.2.2.2.2.1.2.1 (kn ()) (fun z0 => kr (mkSt rv_w_FnExactFixVar (z0, ())))
noncomputable def gw_FnExactFixVar_j10 {R : Type} (K : Nat) (k : Nat) (x : den lv_w_FnExactFixVar_J10.ty) (kn : den lv_w_FnExactFixVar_N10.ty → Option R) (kx : Nat → St → Option R) (kr : St → Option R) : Option R := w_FnExactFixVar_j10 K k x.1 x.2.1 x.2.2.1 x.2.2.2.1.1 x.2.2.2.1.2.1 x.2.2.2.2.1 x.2.2.2.2.2.1.1 x.2.2.2.2.2.1.2.1 x.2.2.2.2.2.2.1.1 x.2.2.2.2.2.2.1.2.1 x.2.2.2.2.2.2.2.1 (kn ()) (fun z0 => kr (mkSt rv_w_FnExactFixVar (z0, ())))
noncomputable def sg_w_FnExactFixVar {R : Type} (K : Nat) (k : Nat) : List (Nat × SegS R) := [(27, mkSeg lv_w_FnExactFixVar_J27 lv_w_FnExactFixVar_N27 (gw_FnExactFixVar_j27 K k)), (16, mkSeg lv_w_FnExactFixVar_J16 lv_w_FnExactFixVar_N16 (gw_FnExactFixVar_j16 K k)), (10, mkSeg lv_w_FnExactFixVar_J10 lv_w_FnExactFixVar_N10 (gw_FnExactFixVar_j10 K k))]
noncomputable def su_w_FnExactFixVar : List (Nat × Unit) := [(27, ()), (16, ()), (10, ())]
noncomputable def en_w_FnExactFixVar {R : Type} (K : Nat) (k : Nat) : Env R := { L := lk [], X := lk [], S := lk (sg_w_FnExactFixVar K k), rv := rv_w_FnExactFixVar }
noncomputable def cf_w_FnExactFixVar (K : Nat) : Cfg := { ty := lk tys, fn := lk [(20, sp_w_szInstance (w_szInstance K)), (22, sp_w_toInstance (w_toInstance K)), (24, sp_w_eqInstance (w_eqInstance K)), (32, sp_w_markInstance (w_markInstance K)), (37, sp_s_FixVar (s_FixVar K)), (38, sp_i_FixVar (i_FixVar K)), (39, sp_w_heldInstance (w_heldInstance K))], prot := 0, nt := Try.f9.ntmps }
noncomputable def c_w_FnExactFixVar_J10 : Code := nthC (partsOf (hasK su_w_FnExactFixVar) (bodyOf Try.f9)) 0
noncomputable def c_w_FnExactFixVar_J16 : Code := nthC (partsOf (hasK su_w_FnExactFixVar) c_w_FnExactFixVar_J10) 0
noncomputable def c_w_FnExactFixVar_J27 : Code := nthC (partsOf (hasK su_w_FnExactFixVar) c_w_FnExactFixVar_J16) 0
theorem ew_FnExactFixVar_j27 {R : Type} (K : Nat) (k : Nat) (x : den lv_w_FnExactFixVar_J27.ty) (kn : den lv_w_FnExactFixVar_N27.ty → Option R) (kx : Nat → St → Option R) (kr : St → Option R) : gw_FnExactFixVar_j27 K k x kn kx kr = evC (cf_w_FnExactFixVar K) (en_w_FnExactFixVar K k) c_w_FnExactFixVar_J27 (mkSt lv_w_FnExactFixVar_J27 x) (cutK lv_w_FnExactFixVar_N27 kn) kx kr := by kernel_rfl
theorem sw_FnExactFixVar_j27 {R : Type} (K : Nat) (C : Cx) (hP : C.P = Try.prog) (O : CfgOk C (cf_w_FnExactFixVar K)) (k : Nat) : SgS C (R := R) (mkSeg lv_w_FnExactFixVar_J27 lv_w_FnExactFixVar_N27 (gw_FnExactFixVar_j27 K k)) c_w_FnExactFixVar_J27 :=
  seg_sound O (by rw [hP]; kernel_rfl) (ew_FnExactFixVar_j27 K k) (lpOk_of (en := en_w_FnExactFixVar K k) (S := hasK su_w_FnExactFixVar) (fun i => hasK_lk (sg_w_FnExactFixVar K k) i) _ (by rw [show partsOf (hasK su_w_FnExactFixVar) c_w_FnExactFixVar_J27 = [] from by kernel_rfl]; exact trivial))
theorem ew_FnExactFixVar_j16 {R : Type} (K : Nat) (k : Nat) (x : den lv_w_FnExactFixVar_J16.ty) (kn : den lv_w_FnExactFixVar_N16.ty → Option R) (kx : Nat → St → Option R) (kr : St → Option R) : gw_FnExactFixVar_j16 K k x kn kx kr = evC (cf_w_FnExactFixVar K) (en_w_FnExactFixVar K k) c_w_FnExactFixVar_J16 (mkSt lv_w_FnExactFixVar_J16 x) (cutK lv_w_FnExactFixVar_N16 kn) kx kr := by kernel_rfl
theorem sw_FnExactFixVar_j16 {R : Type} (K : Nat) (C : Cx) (hP : C.P = Try.prog) (O : CfgOk C (cf_w_FnExactFixVar K)) (k : Nat) : SgS C (R := R) (mkSeg lv_w_FnExactFixVar_J16 lv_w_FnExactFixVar_N16 (gw_FnExactFixVar_j16 K k)) c_w_FnExactFixVar_J16 :=
  seg_sound O (by rw [hP]; kernel_rfl) (ew_FnExactFixVar_j16 K k) (lpOk_of (en := en_w_FnExactFixVar K k) (S := hasK su_w_FnExactFixVar) (fun i => hasK_lk (sg_w_FnExactFixVar K k) i) _ (by rw [show partsOf (hasK su_w_FnExactFixVar) c_w_FnExactFixVar_J16 = [(false, c_w_FnExactFixVar_J27)] from by kernel_rfl]; exact (lpL_seg (f := mkSeg lv_w_FnExactFixVar_J27 lv_w_FnExactFixVar_N27 (gw_FnExactFixVar_j27 K k)) (by kernel_rfl) (sw_FnExactFixVar_j27 K C hP O k) trivial)))
theorem ew_FnExactFixVar_j10 {R : Type} (K : Nat) (k : Nat) (x : den lv_w_FnExactFixVar_J10.ty) (kn : den lv_w_FnExactFixVar_N10.ty → Option R) (kx : Nat → St → Option R) (kr : St → Option R) : gw_FnExactFixVar_j10 K k x kn kx kr = evC (cf_w_FnExactFixVar K) (en_w_FnExactFixVar K k) c_w_FnExactFixVar_J10 (mkSt lv_w_FnExactFixVar_J10 x) (cutK lv_w_FnExactFixVar_N10 kn) kx kr := by kernel_rfl
theorem sw_FnExactFixVar_j10 {R : Type} (K : Nat) (C : Cx) (hP : C.P = Try.prog) (O : CfgOk C (cf_w_FnExactFixVar K)) (k : Nat) : SgS C (R := R) (mkSeg lv_w_FnExactFixVar_J10 lv_w_FnExactFixVar_N10 (gw_FnExactFixVar_j10 K k)) c_w_FnExactFixVar_J10 :=
  seg_sound O (by rw [hP]; kernel_rfl) (ew_FnExactFixVar_j10 K k) (lpOk_of (en := en_w_FnExactFixVar K k) (S := hasK su_w_FnExactFixVar) (fun i => hasK_lk (sg_w_FnExactFixVar K k) i) _ (by rw [show partsOf (hasK su_w_FnExactFixVar) c_w_FnExactFixVar_J10 = [(false, c_w_FnExactFixVar_J16)] from by kernel_rfl]; exact (lpL_seg (f := mkSeg lv_w_FnExactFixVar_J16 lv_w_FnExactFixVar_N16 (gw_FnExactFixVar_j16 K k)) (by kernel_rfl) (sw_FnExactFixVar_j16 K C hP O k) trivial)))
theorem e_w_FnExactFixVar (K : Nat) (x : den as_w_FnExactFixVar) : w_FnExactFixVar K x = evFn (cf_w_FnExactFixVar K) as_w_FnExactFixVar [false, false, false] .bool (en_w_FnExactFixVar K K) Try.f9.results.toList (bodyOf Try.f9) x := by kernel_rfl
theorem ok_w_FnExactFixVar (K : Nat) : FnOk Try.prog 9 (sp_w_FnExactFixVar (w_FnExactFixVar K)) :=
  fn_ok (cf := cf_w_FnExactFixVar K) (en := en_w_FnExactFixVar K K) (c := bodyOf Try.f9) Try.func9 (by kernel_rfl) (by kernel_rfl) tysOk (fns_ok (l := [(20, sp_w_szInstance (w_szInstance K)), (22, sp_w_toInstance (w_toInstance K)), (24, sp_w_eqInstance (w_eqInstance K)), (32, sp_w_markInstance (w_markInstance K)), (37, sp_s_FixVar (s_FixVar K)), (38, sp_i_FixVar (i_FixVar K)), (39, sp_w_heldInstance (w_heldInstance K))]) ⟨ok_w_szInstance K, ⟨ok_w_toInstance K, ⟨ok_w_eqInstance K, ⟨ok_w_markInstance K, ⟨ok_s_FixVar K, ⟨ok_i_FixVar K, ⟨ok_w_heldInstance K, trivial⟩⟩⟩⟩⟩⟩⟩) (by kernel_rfl) rfl (Nat.le_of_ble_eq_true (by kernel_rfl)) (by kernel_rfl) (of_decide_eq_true (by kernel_rfl)) (by decide) (fun C hP O => lpOk_of (en := en_w_FnExactFixVar K K) (S := hasK su_w_FnExactFixVar) (fun i => hasK_lk (sg_w_FnExactFixVar K K) i) _ (by rw [show partsOf (hasK su_w_FnExactFixVar) (bodyOf Try.f9) = [(false, c_w_FnExactFixVar_J10)] from by kernel_rfl]; exact (lpL_seg (f := mkSeg lv_w_FnExactFixVar_J10 lv_w_FnExactFixVar_N10 (gw_FnExactFixVar_j10 K K)) (by kernel_rfl) (sw_FnExactFixVar_j10 K C hP O K) trivial))) (fun x y h => by rw [← e_w_FnExactFixVar]; exact h)
end Go.Proofs.Ytieiajeggahipaa.E
namespace Go.Proofs.Ytieiajeggahipaa.E
open Go Go.Proofs
set_option linter.unusedVariables false
set_option linter.unusedSimpArgs false
variable {K : Nat} {R : Type}
theorem lim_app {α : Type} {l m : List α} (h : l.length + m.length ≤ 1099511627776) : decide (l.length + m.length ≤ lim) = true := decide_eq_true h
/-! satisfied clauses -/
def one01 (b : Bool) : Int := if b = true then 1 else 0
theorem i_satBy_l (x : DX) (h : okX x = true) (a : Nat) (ha : a < 9223372036854775808) (hK : 4611686018427387904 ≤ K) (kx : List Int → Option R) : ∀ (r p : List DC) (k : Nat), x.2.1 = p ++ r → r.length < k →
    i_SatisfiedBy_l7 K k (a : Int) (p.map fun c => one01 (satC c a)) x.2.1 (x.2.1.length : Int) (p.length : Int) kx = kx (x.2.1.map fun c => one01 (satC c a))
  | [], p, k + 1, e, _ => by simp only [i_SatisfiedBy_l7]; rw [e, ite_f nlt_len]; simp
  | y :: r, p, k + 1, e, hk => by
    obtain ⟨h1, h2, h3, h4⟩ := okX_h h
    have hy := h4 y (by rw [e]; simp)
    have hpl : p.length < 13 := by rw [e] at h3; simp at h3; omega
    simp only [i_SatisfiedBy_l7]
    have ih := i_satBy_l x h a ha hK kx r (p ++ [y]) k (by rw [e, mid_app]) (by simp at hk; omega)
    rw [e] at ih ⊢
    rw [ite_t lt_len, ite_t bnds_mid, getD_midI, i_satisfied_eq hy h2 ha hK, some_bind', i_one_eq, some_bind', ite_t (lim_app (by simp; omega)), next_i (by rw [← e]; omega)]
    rw [List.map_append] at ih
    exact ih
theorem s_satBy_l (x : DX) (h : okX x = true) (a : Nat) (ha : a < 9223372036854775808) (hK : 4611686018427387904 ≤ K) (kx : List Int → Option R) : ∀ (r p : List DC) (k : Nat), x.2.1 = p ++ r → r.length < k →
    s_SatisfiedBy_l7 K k (a : Int) x (p.map fun c => one01 (satC c a)) (p.length : Int) kx = kx (x.2.1.map fun c => one01 (satC c a))
  | [], p, k + 1, e, _ => by simp only [s_SatisfiedBy_l7]; rw [e, ite_f nlt_len]; simp
  | y :: r, p, k + 1, e, hk => by
    obtain ⟨h1, h2, h3, h4⟩ := okX_h h
    have hy := h4 y (by rw [e]; simp)
    have hpl : p.length < 13 := by rw [e] at h3; simp at h3; omega
    simp only [s_SatisfiedBy_l7]
    have ih := s_satBy_l x h a ha hK kx r (p ++ [y]) k (by rw [e, mid_app]) (by simp at hk; omega)
    rw [e] at ih ⊢
    rw [ite_t lt_len, ite_t bnds_mid, ite_t bnds_mid, getD_midI, s_l09Tuple_eq hy h2 ha hK, some_bind', s_has_tuple hy h2, some_bind', next_i (by rw [← e]; omega)]
    rw [List.map_append] at ih
    cases hb : satC y a
    · rw [if_neg (by decide), ite_t (lim_app (by simp; omega))]
      simp only [List.map_cons, List.map_nil, hb, one01, if_neg (show ¬ (false = true) by decide)] at ih
      exact ih
    · rw [if_pos rfl, ite_t (lim_app (by simp; omega))]
      simp only [List.map_cons, List.map_nil, hb, one01, if_pos (show (true = true) by rfl)] at ih
      exact ih
def satBy (x : DX) (a : Int) : List Int × Int × Unit := if okX x = true then (if 0 ≤ a ∧ a ≤ ((2 ^ x.1.toNat : Nat) : Int) - 1 then (x.2.1.map fun c => one01 (satC c a.toNat), 0, ()) else ([], 2, ())) else ([], 1, ())
theorem and_decF {a b : Prop} [Decidable a] [Decidable b] (h : ¬ (a ∧ b)) : (decide a && decide b) = false := by
  cases hb : (decide a && decide b); rfl; exact absurd (and_dec.1 hb) h
theorem i_SatisfiedBy_eq {x : DX} {a : Int} (hx : shX x) (hK : 9223372036854775808 ≤ K) : i_SatisfiedBy K (x, a, ()) = some (satBy x a) := by
  simp only [i_SatisfiedBy, i_IsInstance_eq hx (show 4611686018427387904 ≤ K by omega), some_bind', satBy]
  cases h : okX x
  · rfl
  · obtain ⟨n, e, hn⟩ := okX_nat h
    have hp := pw8 hn
    rw [ite_f (by rfl), e, ite_t (nn n), shl1 (by omega), w64m1 (by omega), i_within_eq, some_bind', if_pos rfl, Int.toNat_natCast]
    by_cases ha : 0 ≤ a ∧ a ≤ ((2 ^ n : Nat) : Int) - 1
    · rw [and_dec.2 ha, ite_f (by rfl), if_pos ha]
      obtain ⟨m, rfl⟩ := Int.eq_ofNat_of_zero_le ha.1
      have := i_satBy_l (K := K) x h m (by omega) (by omega) (fun z7 => some (z7, (0 : Int), ())) x.2.1 [] K rfl (by have := hx.1; omega)
      exact this
    · rw [and_decF ha, ite_t (by rfl), if_neg ha]
theorem s_SatisfiedBy_eq {x : DX} {a : Int} (hx : shX x) (hK : 9223372036854775808 ≤ K) : s_SatisfiedBy K (x, a, ()) = some (satBy x a) := by
  simp only [s_SatisfiedBy, s_l09Is_eq hx hK, some_bind', satBy]
  cases h : okX x
  · rfl
  · obtain ⟨n, e, hn⟩ := okX_nat h
    have hp := pw8 hn
    rw [ite_f (by rfl), e, s_l01Rows_eq (by omega), some_bind', w64m1 (by omega), s_l01In_eq, some_bind', if_pos rfl, Int.toNat_natCast]
    by_cases ha : 0 ≤ a ∧ a ≤ ((2 ^ n : Nat) : Int) - 1
    · rw [and_dec.2 ha, ite_f (by rfl), if_pos ha]
      obtain ⟨m, rfl⟩ := Int.eq_ofNat_of_zero_le ha.1
      have := s_satBy_l (K := K) x h m (by omega) (by omega) (fun z7 => some (z7, (0 : Int), ())) x.2.1 [] K rfl (by have := hx.1; omega)
      exact this
    · rw [and_decF ha, ite_t (by rfl), if_neg ha]
theorem satBy_len {x : DX} {a : Int} (h : x.2.1.length ≤ 1048576) : (satBy x a).1.length ≤ 1099511627776 := by
  unfold satBy; split
  · split
    · simp; omega
    · simp
  · simp
theorem law_SatisfiedBy (hK : 9223372036854775808 ≤ K) {x : DX} {a : Int} (hx : okD TX x) : w_FnExactSatisfiedBy K (x, a, ()) = some true := by
  have hK2 : 4611686018427387904 ≤ K := by omega
  simp only [w_FnExactSatisfiedBy]
  refine sz_guard hx hK2 _ (fun hs y hy => ?_) (fun y hy => by rw [ite_t (decide_eq_true hy)])
  have hsh := smX_sh hs
  rw [ite_f (decide_eq_false hy)]
  obtain ⟨q, hq, hi, hp⟩ : ∃ q : List Int × Int × Unit, q.1.length ≤ 1099511627776 ∧ i_SatisfiedBy K (x, a, ()) = some q ∧ s_SatisfiedBy K (x, a, ()) = some q := ⟨_, satBy_len (smX_h hs).1, i_SatisfiedBy_eq hsh hK, s_SatisfiedBy_eq hsh hK⟩
  obtain ⟨h1, h2⟩ := mk_held hq hK2
  have h3 : w_eqInt64S K (q.1, q.1, ()) = some true := w_eqInt64S_refl (by omega) hK2
  simp only [smX_to hs hK2, hi, hp, h3, some_bind', w_FnExactSatisfiedBy_j10, w_FnExactSatisfiedBy_j16, w_FnExactSatisfiedBy_j27, smX_to hs hK2, smX_eq hs hK2, smX_mark hs hK2, mark_pos, h1, h2, decide_true, Bool.not_true, Bool.false_eq_true, if_false]
/-! meets -/
def solN (x : DX) : List Nat := (List.range (2 ^ x.1.toNat)).filter (satX x)
theorem solX_map (x : DX) : solX x = (solN x).map fun (a : Nat) => (a : Int) := rfl
theorem solN_lt {x : DX} (h : okX x = true) : ∀ a ∈ solN x, a < 256 := fun a ha => by
  obtain ⟨n, e, hn⟩ := okX_nat h
  have h2 := pw8 hn
  have := List.mem_range.1 (List.mem_filter.1 ha).1
  rw [e, Int.toNat_natCast] at this; omega
theorem solN_len {x : DX} (h : okX x = true) : (solN x).length ≤ 256 := by
  have := solX_len x h
  rw [solX_map, List.length_map] at this; exact this
theorem fold_and_le (r : List Nat) : ∀ a : Nat, r.foldl (· &&& ·) a ≤ a := by
  induction r with
  | nil => intro a; exact Nat.le_refl _
  | cons b r ih => intro a; exact Nat.le_trans (ih _) Nat.and_le_left
theorem map_mid (p r : List Nat) (y : Nat) : (p ++ y :: r).map (fun (a : Nat) => (a : Int)) = p.map (fun (a : Nat) => (a : Int)) ++ (y : Int) :: r.map (fun (a : Nat) => (a : Int)) := by simp
theorem getD_map (l : List Nat) (i : Nat) : (l.map fun (a : Nat) => (a : Int)).getD ((i : Int)).toNat 0 = ((l.getD i 0 : Nat) : Int) := by
  rw [Int.toNat_natCast]
  simp only [List.getD, List.getElem?_map]
  cases l[i]? <;> rfl
theorem i_meet_l (l : List Nat) (hl : l.length < 4611686018427387904) (h : ∀ a ∈ l, a < 256) (kx : Int → Option R) : ∀ (r p : List Nat) (k a : Nat), l = p ++ r → r.length < k → a < 256 →
    i_meetOf_l3 K k (a : Int) (l.map fun (a : Nat) => (a : Int)) ((l.map fun (a : Nat) => (a : Int)).length : Int) (p.length : Int) kx = kx ((r.foldl (· &&& ·) a : Nat) : Int)
  | [], p, k + 1, a, e, _, _ => by simp only [i_meetOf_l3]; rw [ite_f (decide_eq_false (by rw [e]; simp))]; rfl
  | y :: r, p, k + 1, a, e, hk, ha => by
    have hy := h y (by rw [e]; simp)
    have hlt : p.length < l.length := by rw [e]; simp
    simp only [i_meetOf_l3]
    rw [ite_t (decide_eq_true (by simp; omega)), ite_t (bnds_n (by simpa using hlt)), getD_map, show l.getD p.length 0 = y from by rw [e]; exact getD_mid p r y 0, bitI_and (by omega) (by omega), w64s (by omega)]
    have := i_meet_l l hl h kx r (p ++ [y]) k (a &&& y) (by rw [e, mid_app]) (by simp at hk; omega) (by have : a &&& y ≤ a := Nat.and_le_left; omega)
    rw [snoc_len] at this
    exact this
theorem s_meet_l (l : List Nat) (hl : l.length < 4611686018427387904) (h : ∀ a ∈ l, a < 256) (kx : Int → Option R) : ∀ (r p : List Nat) (k a : Nat), l = p ++ r → r.length < k → a < 256 →
    s_MeetOfSolutions_l6 K k (l.map fun (a : Nat) => (a : Int)) (a : Int) (p.length : Int) kx = kx ((r.foldl (· &&& ·) a : Nat) : Int)
  | [], p, k + 1, a, e, _, _ => by simp only [s_MeetOfSolutions_l6]; rw [ite_f (decide_eq_false (by rw [e]; simp))]; rfl
  | y :: r, p, k + 1, a, e, hk, ha => by
    have hy := h y (by rw [e]; simp)
    have hlt : p.length < l.length := by rw [e]; simp
    simp only [s_MeetOfSolutions_l6]
    rw [ite_t (decide_eq_true (by simp; omega)), ite_t (bnds_n (by simpa using hlt)), getD_map, show l.getD p.length 0 = y from by rw [e]; exact getD_mid p r y 0, bitI_and (by omega) (by omega), w64s (by omega)]
    have := s_meet_l l hl h kx r (p ++ [y]) k (a &&& y) (by rw [e, mid_app]) (by simp at hk; omega) (by have : a &&& y ≤ a := Nat.and_le_left; omega)
    rw [snoc_len] at this
    exact this
theorem i_solved_eq {x : DX} (hx : shX x) (hK : 9223372036854775808 ≤ K) : i_solved K (x, ()) = some (if okX x = true then (solX x, if solX x = [] then 4 else 0, ()) else ([], 1, ())) := by
  simp only [i_solved, i_SolutionsOf_eq hx hK, some_bind']
  cases h : okX x
  · rfl
  · simp only [if_pos, decide_true]
    cases hs : solX x
    · rfl
    · rw [ite_f (decide_eq_false (by simp; omega)), if_neg (by simp)]; rfl
theorem s_given_eq {x : DX} (hx : shX x) (hK : 9223372036854775808 ≤ K) : s_l09Given K (x, ()) = some (if okX x = true then (solX x, if solX x = [] then 4 else 0, ()) else ([], 1, ())) := by
  simp only [s_l09Given, s_l09Is_eq hx hK, some_bind']
  cases h : okX x
  · rfl
  · rw [ite_f (by rfl), s_l09Solutions_eq h (by omega), some_bind', if_pos rfl]
    cases hs : solX x
    · rfl
    · rw [ite_f (decide_eq_false (by simp; omega)), if_neg (by simp)]
variable {K : Nat} {R : Type}
/-! how many digits are 1 -/
def pc : Nat → Nat → Nat
  | 0, _ => 0
  | n + 1, a => a % 2 + pc n (a / 2)
theorem pc_le : ∀ (n a : Nat), pc n a ≤ n
  | 0, _ => Nat.le_refl _
  | n + 1, a => by have := pc_le n (a / 2); simp only [pc]; omega
theorem ones_256 : ∀ a : Nat, a < 256 → math_bits_OnesCount64 0 (IntKind.u64.wrap (a : Int), ()) = some (pc 16 a : Int) := by decide +kernel
theorem i_ones_256 {a : Nat} (h : a < 256) : i_ones K ((a : Int), ()) = some (pc 16 a : Int) := by
  simp only [i_ones]
  have := ones_256 a h
  rw [show math_bits_OnesCount64 K (IntKind.u64.wrap (a : Int), ()) = some (pc 16 a : Int) from this]; rfl
theorem size_l (kx : Int → Option R) : ∀ (n a b k : Nat), a < 2 ^ n → n ≤ 32 → b + n < 4611686018427387904 → n < k → s_l03Size_l2 K k (a : Int) (b : Int) kx = kx ((b + pc n a : Nat) : Int)
  | 0, a, b, k + 1, ha, _, _, _ => by
    have h0 : a = 0 := by simpa using ha
    subst h0
    simp only [s_l03Size_l2]; rw [ite_f (by decide)]; rfl
  | n + 1, a, b, k + 1, ha, hn, hb, hk => by
    have hp : 2 ^ (n + 1) ≤ 4294967296 := Nat.le_trans (Nat.pow_le_pow_right (by decide) hn) (by decide)
    have hs := Nat.pow_succ 2 n
    simp only [s_l03Size_l2, pc]
    by_cases h0 : a = 0
    · subst h0
      rw [ite_f (by decide)]
      have : pc n (0 / 2) = 0 := by
        clear ha hn hb hk hp hs
        induction n with
        | zero => rfl
        | succ n ih => simp only [pc] at ih ⊢; simpa using ih
      rw [this]; rfl
    · rw [ite_t (decide_eq_true (by omega))]
      have e1 : Int.tdiv (a : Int) 2 = ((a / 2 : Nat) : Int) := by rw [Int.tdiv_eq_ediv_of_nonneg (by omega)]; rfl
      have e2 : Int.tmod (a : Int) 2 = ((a % 2 : Nat) : Int) := by rw [Int.tmod_eq_emod_of_nonneg (by omega)]; rfl
      rw [e1, e2, w64n (by omega), ← Int.natCast_add, w64n (by omega), size_l kx n (a / 2) (b + a % 2) k (by omega) (by omega) (by omega) (by omega)]
      congr 2; omega
theorem s_l03Size_256 {a : Nat} (h : a < 256) (hK : 4611686018427387904 ≤ K) : s_l03Size K ((a : Int), ()) = some (pc 16 a : Int) := by
  simp only [s_l03Size]
  have := size_l (K := K) (fun z => some z) 16 a 0 K (Nat.lt_of_lt_of_le h (by decide)) (by decide) (by decide) (by omega)
  rw [show ((0 : Nat) : Int) = 0 from rfl] at this
  rw [this]; simp
/-! meets -/
theorem sol_cases (x : DX) : solX x = [] ∨ ∃ y r, solN x = y :: r ∧ solX x = (y : Int) :: r.map fun (a : Nat) => (a : Int) := by
  rw [solX_map]
  cases h : solN x with
  | nil => left; rfl
  | cons y r => right; exact ⟨y, r, rfl, rfl⟩
/-- What is handed back of solutions that there are. -/
def meetX (x : DX) (f : Nat → List Nat → Int) : Int × Int × Unit := if okX x = true then (match solN x with | [] => (0, 4, ()) | y :: r => (f y r, 0, ())) else (0, 1, ())
theorem i_Meet_eq {x : DX} (hx : shX x) (hK : 9223372036854775808 ≤ K) : i_MeetOfSolutions K (x, ()) = some (meetX x fun y r => ((r.foldl (· &&& ·) y : Nat) : Int)) := by
  simp only [i_MeetOfSolutions, i_solved_eq hx hK, some_bind', meetX]
  cases h : okX x
  · rfl
  · rcases sol_cases x with h0 | ⟨y, r, h1, h2⟩
    · rw [solX_map, List.map_eq_nil_iff] at h0
      simp only [if_pos, solX_map, h0]; rfl
    · have hl := solN_len h
      have hlt := solN_lt h
      rw [h1] at hl hlt
      simp only [if_pos, solX_map, h1, if_neg (show ¬ ((y :: r).map fun (a : Nat) => (a : Int)) = [] by simp)]
      rw [ite_f (by rfl)]
      simp only [i_meetOf]
      rw [ite_t (bnds_t (by decide) (by simp only [List.length_map, List.length_cons]; omega))]
      have := i_meet_l (K := K) (y :: r) (by omega) hlt (fun z => some z) (y :: r) [] K y rfl (by omega) (hlt y (by simp))
      simp only [List.length_nil] at this
      rw [show ((0 : Nat) : Int) = 0 from rfl] at this
      rw [show ((y :: r).map fun (a : Nat) => (a : Int)).getD (0 : Int).toNat 0 = (y : Int) from rfl, this, some_bind', List.foldl_cons, Nat.and_self]
theorem s_Meet_eq {x : DX} (hx : shX x) (hK : 9223372036854775808 ≤ K) : s_MeetOfSolutions K (x, ()) = some (meetX x fun y r => ((r.foldl (· &&& ·) y : Nat) : Int)) := by
  simp only [s_MeetOfSolutions, s_given_eq hx hK, some_bind', meetX]
  cases h : okX x
  · rfl
  · rcases sol_cases x with h0 | ⟨y, r, h1, h2⟩
    · rw [solX_map, List.map_eq_nil_iff] at h0
      simp only [if_pos, solX_map, h0]; rfl
    · have hl := solN_len h
      have hlt := solN_lt h
      rw [h1] at hl hlt
      simp only [if_pos, solX_map, h1, if_neg (show ¬ ((y :: r).map fun (a : Nat) => (a : Int)) = [] by simp)]
      rw [ite_f (by rfl), ite_t (bnds_t (by decide) (by simp only [List.length_map, List.length_cons]; omega))]
      have := s_meet_l (K := K) (y :: r) (by omega) hlt (fun z2 => some (z2, (0 : Int), ())) r [y] K y rfl (by simp at hl; omega) (hlt y (by simp))
      simp only [List.length_cons, List.length_nil] at this
      exact this
theorem law_MeetOfSolutions (hK : 9223372036854775808 ≤ K) {x : DX} (hx : okD TX x) : w_FnExactMeetOfSolutions K (x, ()) = some true := by
  have hK2 : 4611686018427387904 ≤ K := by omega
  simp only [w_FnExactMeetOfSolutions]
  refine sz_guard hx hK2 _ (fun hs y hy => ?_) (fun y hy => by rw [ite_t (decide_eq_true hy)])
  have hsh := smX_sh hs
  rw [ite_f (decide_eq_false hy)]
  simp only [smX_to hs hK2, some_bind', i_Meet_eq hsh hK, s_Meet_eq hsh hK, w_FnExactMeetOfSolutions_j10, smX_eq hs hK2, decide_true, Bool.not_true, Bool.false_eq_true, if_false]
/-! least solutions -/
def lst (r : List Nat) (y : Nat) : Nat := r.foldl (fun b a => if pc 16 a < pc 16 b then a else b) y
theorem i_least_l (l : List Nat) (hl : l.length < 4611686018427387904) (h : ∀ a ∈ l, a < 256) (kx : Int → Option R) : ∀ (r p : List Nat) (k a : Nat), l = p ++ r → r.length < k → a < 256 →
    i_LeastSolution_l6 K k (a : Int) (l.map fun (a : Nat) => (a : Int)) ((l.map fun (a : Nat) => (a : Int)).length : Int) (p.length : Int) kx = kx ((lst r a : Nat) : Int)
  | [], p, k + 1, a, e, _, _ => by simp only [i_LeastSolution_l6]; rw [ite_f (decide_eq_false (by rw [e]; simp))]; rfl
  | y :: r, p, k + 1, a, e, hk, ha => by
    have hy := h y (by rw [e]; simp)
    have hlt : p.length < l.length := by rw [e]; simp
    simp only [i_LeastSolution_l6]
    rw [ite_t (decide_eq_true (by simp; omega)), ite_t (bnds_n (by simpa using hlt)), getD_map, show l.getD p.length 0 = y from by rw [e]; exact getD_mid p r y 0, i_ones_256 hy, some_bind', i_ones_256 ha, some_bind', w64s (by omega)]
    have ih := fun b hb => i_least_l l hl h kx r (p ++ [y]) k b (by rw [e, mid_app]) (by simp at hk; omega) hb
    simp only [snoc_len] at ih
    simp only [lst, List.foldl_cons]
    by_cases hc : pc 16 y < pc 16 a
    · rw [ite_t (decide_eq_true (by omega)), if_pos hc]; exact ih y hy
    · rw [ite_f (decide_eq_false (by omega)), if_neg hc]; exact ih a ha
theorem s_least_l (hK : 4611686018427387904 ≤ K) (l : List Nat) (hl : l.length < 4611686018427387904) (h : ∀ a ∈ l, a < 256) (kx : Int → Option R) : ∀ (r p : List Nat) (k a : Nat), l = p ++ r → r.length < k → a < 256 →
    s_LeastSolution_l6 K k (l.map fun (a : Nat) => (a : Int)) (a : Int) (p.length : Int) kx = kx ((lst r a : Nat) : Int)
  | [], p, k + 1, a, e, _, _ => by simp only [s_LeastSolution_l6]; rw [ite_f (decide_eq_false (by rw [e]; simp))]; rfl
  | y :: r, p, k + 1, a, e, hk, ha => by
    have hy := h y (by rw [e]; simp)
    have hlt : p.length < l.length := by rw [e]; simp
    simp only [s_LeastSolution_l6]
    rw [ite_t (decide_eq_true (by simp; omega)), ite_t (bnds_n (by simpa using hlt)), ite_t (bnds_n (by simpa using hlt)), getD_map, show l.getD p.length 0 = y from by rw [e]; exact getD_mid p r y 0, s_l03Size_256 hy hK, some_bind', s_l03Size_256 ha hK, some_bind', w64s (by omega)]
    have ih := fun b hb => s_least_l hK l hl h kx r (p ++ [y]) k b (by rw [e, mid_app]) (by simp at hk; omega) hb
    simp only [snoc_len] at ih
    simp only [lst, List.foldl_cons]
    by_cases hc : pc 16 y < pc 16 a
    · rw [ite_t (decide_eq_true (by omega)), if_pos hc]; exact ih y hy
    · rw [ite_f (decide_eq_false (by omega)), if_neg hc]; exact ih a ha
theorem i_Least_eq {x : DX} (hx : shX x) (hK : 9223372036854775808 ≤ K) : i_LeastSolution K (x, ()) = some (meetX x fun y r => ((lst r y : Nat) : Int)) := by
  simp only [i_LeastSolution, i_solved_eq hx hK, some_bind', meetX]
  cases h : okX x
  · rfl
  · rcases sol_cases x with h0 | ⟨y, r, h1, h2⟩
    · rw [solX_map, List.map_eq_nil_iff] at h0
      simp only [if_pos, solX_map, h0]; rfl
    · have hl := solN_len h
      have hlt := solN_lt h
      rw [h1] at hl hlt
      simp only [if_pos, solX_map, h1, if_neg (show ¬ ((y :: r).map fun (a : Nat) => (a : Int)) = [] by simp)]
      rw [ite_f (by rfl), ite_t (bnds_t (by decide) (by simp only [List.length_map, List.length_cons]; omega))]
      have := i_least_l (K := K) (y :: r) (by omega) hlt (fun z => some (z, (0 : Int), ())) (y :: r) [] K y rfl (by omega) (hlt y (by simp))
      simp only [List.length_nil] at this
      rw [show ((0 : Nat) : Int) = 0 from rfl] at this
      rw [show ((y :: r).map fun (a : Nat) => (a : Int)).getD (0 : Int).toNat 0 = (y : Int) from rfl, this]
      simp only [lst, List.foldl_cons, Nat.lt_irrefl, if_false]
theorem s_Least_eq {x : DX} (hx : shX x) (hK : 9223372036854775808 ≤ K) : s_LeastSolution K (x, ()) = some (meetX x fun y r => ((lst r y : Nat) : Int)) := by
  simp only [s_LeastSolution, s_given_eq hx hK, some_bind', meetX]
  cases h : okX x
  · rfl
  · rcases sol_cases x with h0 | ⟨y, r, h1, h2⟩
    · rw [solX_map, List.map_eq_nil_iff] at h0
      simp only [if_pos, solX_map, h0]; rfl
    · have hl := solN_len h
      have hlt := solN_lt h
      rw [h1] at hl hlt
      simp only [if_pos, solX_map, h1, if_neg (show ¬ ((y :: r).map fun (a : Nat) => (a : Int)) = [] by simp)]
      rw [ite_f (by rfl), ite_t (bnds_t (by decide) (by simp only [List.length_map, List.length_cons]; omega))]
      have := s_least_l (K := K) (by omega) (y :: r) (by omega) hlt (fun z2 => some (z2, (0 : Int), ())) r [y] K y rfl (by simp at hl; omega) (hlt y (by simp))
      simp only [List.length_cons, List.length_nil] at this
      exact this
theorem law_LeastSolution (hK : 9223372036854775808 ≤ K) {x : DX} (hx : okD TX x) : w_FnExactLeastSolution K (x, ()) = some true := by
  have hK2 : 4611686018427387904 ≤ K := by omega
  simp only [w_FnExactLeastSolution]
  refine sz_guard hx hK2 _ (fun hs y hy => ?_) (fun y hy => by rw [ite_t (decide_eq_true hy)])
  have hsh := smX_sh hs
  rw [ite_f (decide_eq_false hy)]
  simp only [smX_to hs hK2, some_bind', i_Least_eq hsh hK, s_Least_eq hsh hK, w_FnExactLeastSolution_j10, smX_eq hs hK2, decide_true, Bool.not_true, Bool.false_eq_true, if_false]
variable {K : Nat} {R : Type}
theorem map_range_succ {α : Type} (f : Nat → α) (i : Nat) : (List.range (i + 1)).map f = (List.range i).map f ++ [f i] := by rw [List.range_succ, List.map_append]; rfl
def frc (y : Nat) (r : List Nat) (v : Nat) : Int := if (r.any fun a => a.testBit v != y.testBit v) = true then 2 else bt y v
theorem bt_ne (a y v : Nat) : (!decide (bt a v = bt y v)) = (a.testBit v != y.testBit v) := by
  unfold bt; cases a.testBit v <;> cases y.testBit v <;> rfl
theorem any_map {α β : Type} (f : α → β) (l : List α) (g : β → Bool) : (l.map f).any g = l.any fun a => g (f a) := by
  induction l with
  | nil => rfl
  | cons a l ih => simp [ih]
theorem i_forced_l (y : Nat) (r : List Nat) (n : Nat) (hn : n ≤ 8) (hl : (y :: r).length ≤ 256) (h : ∀ a ∈ y :: r, a < 256) (hK : 4611686018427387904 ≤ K) (kx : List Int → Option R) : ∀ (m i k : Nat), i + m = n → m < k →
    i_ForcedOf_l6 K k ((y :: r).map fun (a : Nat) => (a : Int)) ((List.range i).map (frc y r)) (n : Int) (i : Int) kx = kx ((List.range n).map (frc y r))
  | 0, i, k + 1, e, _ => by
    obtain rfl : i = n := by omega
    simp only [i_ForcedOf_l6]; rw [ite_f (by simp)]
  | m + 1, i, k + 1, e, hk => by
    have hy := h y (by simp)
    simp only [i_ForcedOf_l6]
    have hc : slices_ContainsFunc_int64 K ((y :: r).map fun (a : Nat) => (a : Int), (fun y4 => i_ForcedOf_c1 K (y4.1, (i : Int), bt y i, ())), ()) = some (r.any fun a => a.testBit i != y.testBit i) := by
      rw [slices_ContainsFunc_int64_eq _ (fun a => a.toNat.testBit i != y.testBit i) (by simp only [List.length_map]; omega) hK (fun z hz => by
        obtain ⟨a, ha, rfl⟩ := List.mem_map.1 hz
        simp only [i_ForcedOf_c1, i_bit_eq i (show a < 9223372036854775808 by have := h a ha; omega), some_bind', bt_ne, Int.toNat_natCast])]
      rw [any_map, List.any_cons]; simp
    rw [ite_t (decide_eq_true (by omega)), ite_t (bnds_t (by decide) (by simp only [List.length_map, List.length_cons]; omega)), show ((y :: r).map fun (a : Nat) => (a : Int)).getD (0 : Int).toNat 0 = (y : Int) from rfl, i_bit_eq i (by omega), some_bind', hc, some_bind', w64s (by omega)]
    have ih := i_forced_l y r n hn hl h hK kx m (i + 1) k (by omega) (by omega)
    rw [map_range_succ] at ih
    have hlim : decide (((List.range i).map (frc y r)).length + [(2 : Int)].length ≤ lim) = true := lim_app (by simp; omega)
    have hlim2 : decide (((List.range i).map (frc y r)).length + [bt y i].length ≤ lim) = true := lim_app (by simp; omega)
    cases hb : (r.any fun a => a.testBit i != y.testBit i)
    · rw [if_neg (by decide), ite_t hlim2]
      rw [show frc y r i = bt y i from by rw [frc, hb]; rfl] at ih
      exact ih
    · rw [if_pos rfl, ite_t hlim]
      rw [show frc y r i = 2 from by rw [frc, hb]; rfl] at ih
      exact ih
theorem s_forced_l10 (x : DX) (l : List Nat) (z : List Int) (hl : l.length ≤ 256) (h : ∀ a ∈ l, a < 256) (v : Nat) (hv : v ≤ 8) (y : Nat) (kx : DX → List Int → List Int → Int → Int → Option R) : ∀ (r p : List Nat) (k : Nat), l = p ++ r → r.length < k →
    s_ForcedOf_l10 K k x (l.map fun (a : Nat) => (a : Int)) z (v : Int) (bt y v) (p.length : Int) kx = kx x (l.map fun (a : Nat) => (a : Int)) z (v : Int) (frc y r v)
  | [], p, k + 1, e, _ => by simp only [s_ForcedOf_l10]; rw [ite_f (decide_eq_false (by rw [e]; simp))]; rfl
  | a :: r, p, k + 1, e, hk => by
    have ha := h a (by rw [e]; simp)
    have hlt : p.length < l.length := by rw [e]; simp
    simp only [s_ForcedOf_l10]
    have hg : l.getD p.length 0 = a := by rw [e]; exact getD_mid p r a 0
    have ih := s_forced_l10 x l z hl h v hv y kx r (p ++ [a]) k (by rw [e, mid_app]) (by simp at hk; omega)
    rw [snoc_len] at ih
    rw [ite_t (decide_eq_true (by simp; omega)), ite_t (bnds_n (by simpa using hlt)), ite_t (u64_dec _), getD_map, hg, u64n (by omega), bitI_bt v (by omega), bt_ne, w64s (by omega)]
    cases hb : (a.testBit v != y.testBit v)
    · rw [if_neg (by decide), ih, frc, frc, List.any_cons, hb, Bool.false_or]
    · rw [if_pos rfl, frc, List.any_cons, hb]; rfl
theorem s_forced_l (x : DX) (y : Nat) (r : List Nat) (n : Nat) (e1 : x.1 = n) (hn : n ≤ 8) (hl : (y :: r).length ≤ 256) (h : ∀ a ∈ y :: r, a < 256) (kx : List Int → Option R) : ∀ (m i k : Nat), i + m = n → 1000 + m < k →
    s_ForcedOf_l6 K k x ((y :: r).map fun (a : Nat) => (a : Int)) ((List.range i).map (frc y r)) (i : Int) kx = kx ((List.range n).map (frc y r))
  | 0, i, k + 1, e, _ => by
    obtain rfl : i = n := by omega
    simp only [s_ForcedOf_l6]; rw [e1, ite_f (by simp)]
  | m + 1, i, k + 1, e, hk => by
    have hy := h y (by simp)
    simp only [s_ForcedOf_l6]
    rw [ite_t (decide_eq_true (by omega)), ite_t (bnds_t (by decide) (by simp only [List.length_map, List.length_cons]; omega)), ite_t (u64_dec _), show ((y :: r).map fun (a : Nat) => (a : Int)).getD (0 : Int).toNat 0 = (y : Int) from rfl, u64n (by omega), bitI_bt i (by omega)]
    have h10 := fun kx2 => s_forced_l10 (K := K) (R := R) x (y :: r) ((List.range i).map (frc y r)) hl h i (by omega) y kx2 r [y] k rfl (by simp at hl; omega)
    simp only [List.length_cons, List.length_nil, Nat.zero_add, Int.ofNat_one] at h10
    rw [h10]
    have ih := s_forced_l x y r n e1 hn hl h kx m (i + 1) k (by omega) (by omega)
    rw [map_range_succ] at ih
    rw [ite_t (lim_app (by simp; omega)), w64s (by omega)]
    exact ih
/-- What is handed back of solutions that there are, a list. -/
def forcedX (x : DX) : List Int × Int × Unit := if okX x = true then (match solN x with | [] => ([], 4, ()) | y :: r => ((List.range x.1.toNat).map (frc y r), 0, ())) else ([], 1, ())
theorem i_Forced_eq {x : DX} (hx : shX x) (hK : 9223372036854775808 ≤ K) : i_ForcedOf K (x, ()) = some (forcedX x) := by
  simp only [i_ForcedOf, i_solved_eq hx hK, some_bind', forcedX]
  cases h : okX x
  · rfl
  · rcases sol_cases x with h0 | ⟨y, r, h1, h2⟩
    · rw [solX_map, List.map_eq_nil_iff] at h0
      simp only [if_pos, solX_map, h0]; rfl
    · have hl := solN_len h
      have hlt := solN_lt h
      rw [h1] at hl hlt
      obtain ⟨n, e, hn⟩ := okX_nat h
      simp only [if_pos, solX_map, h1, if_neg (show ¬ ((y :: r).map fun (a : Nat) => (a : Int)) = [] by simp)]
      rw [ite_f (by rfl), e, Int.toNat_natCast]
      have := i_forced_l (K := K) y r n hn hl hlt (by omega) (fun z => some (z, (0 : Int), ())) n 0 K (by omega) (by omega)
      exact this
theorem s_Forced_eq {x : DX} (hx : shX x) (hK : 9223372036854775808 ≤ K) : s_ForcedOf K (x, ()) = some (forcedX x) := by
  simp only [s_ForcedOf, s_given_eq hx hK, some_bind', forcedX]
  cases h : okX x
  · rfl
  · rcases sol_cases x with h0 | ⟨y, r, h1, h2⟩
    · rw [solX_map, List.map_eq_nil_iff] at h0
      simp only [if_pos, solX_map, h0]; rfl
    · have hl := solN_len h
      have hlt := solN_lt h
      rw [h1] at hl hlt
      obtain ⟨n, e, hn⟩ := okX_nat h
      simp only [if_pos, solX_map, h1, if_neg (show ¬ ((y :: r).map fun (a : Nat) => (a : Int)) = [] by simp)]
      rw [ite_f (by rfl)]
      have := s_forced_l (K := K) x y r n e hn hl hlt (fun z => some (z, (0 : Int), ())) n 0 K (by omega) (by omega)
      rw [e, Int.toNat_natCast]
      exact this
theorem forcedX_len {x : DX} : (forcedX x).1.length ≤ 1099511627776 := by
  unfold forcedX
  cases h : okX x
  · simp
  · obtain ⟨n, e, hn⟩ := okX_nat h
    rw [if_pos rfl]
    split
    · simp
    · simp [e]; omega
theorem law_ForcedOf (hK : 9223372036854775808 ≤ K) {x : DX} (hx : okD TX x) : w_FnExactForcedOf K (x, ()) = some true := by
  have hK2 : 4611686018427387904 ≤ K := by omega
  simp only [w_FnExactForcedOf]
  refine sz_guard hx hK2 _ (fun hs y hy => ?_) (fun y hy => by rw [ite_t (decide_eq_true hy)])
  have hsh := smX_sh hs
  rw [ite_f (decide_eq_false hy)]
  obtain ⟨q, hq, hi, hp⟩ : ∃ q : List Int × Int × Unit, q.1.length ≤ 1099511627776 ∧ i_ForcedOf K (x, ()) = some q ∧ s_ForcedOf K (x, ()) = some q := ⟨_, forcedX_len, i_Forced_eq hsh hK, s_Forced_eq hsh hK⟩
  obtain ⟨h1, h2⟩ := mk_held hq hK2
  have h3 : w_eqInt64S K (q.1, q.1, ()) = some true := w_eqInt64S_refl (by omega) hK2
  simp only [smX_to hs hK2, hi, hp, h3, some_bind', w_FnExactForcedOf_j10, w_FnExactForcedOf_j16, w_FnExactForcedOf_j27, smX_to hs hK2, smX_eq hs hK2, smX_mark hs hK2, mark_pos, h1, h2, decide_true, Bool.not_true, Bool.false_eq_true, if_false]
/-! copies -/
theorem slices_Clone_int64_eq {l : List Int} (h : l.length ≤ 1099511627776) : slices_Clone_int64 K (l, ()) = some l := if_pos h
theorem s_l01Own_eq {l : List Int} (h : l.length ≤ 1099511627776) : s_l01Own K (l, ()) = some l := by
  simp only [s_l01Own]; rw [ite_t (lim_app (by simp; omega))]; rfl
theorem i_copied_l (l : List DC) (hl : l.length ≤ 1000000000) (h : ∀ c ∈ l, c.2.1.length ≤ 1099511627776) (kx : List DC → Option R) : ∀ (r p : List DC) (k : Nat), l = p ++ r → r.length < k →
    i_copied_l3 K k p l (l.length : Int) (p.length : Int) kx = kx l
  | [], p, k + 1, e, _ => by simp only [i_copied_l3]; rw [e, ite_f nlt_len]; simp
  | y :: r, p, k + 1, e, hk => by
    have hp : p.length < l.length := by rw [e]; simp
    simp only [i_copied_l3]
    have ih := i_copied_l l hl h kx r (p ++ [y]) k (by rw [e, mid_app]) (by simp at hk; omega)
    have hy := h y (by rw [e]; simp)
    rw [e] at ih ⊢
    rw [ite_t lt_len, ite_t bnds_mid, getD_midI, slices_Clone_int64_eq hy, some_bind', ite_t (lim_app (by simp; omega)), next_i (by rw [← e]; omega)]
    exact ih
theorem i_copied_eq {l : List DC} (hl : l.length ≤ 1000000000) (h : ∀ c ∈ l, c.2.1.length ≤ 1099511627776) (hK : 4611686018427387904 ≤ K) : i_copied K (l, ()) = some l := by
  simp only [i_copied]
  exact i_copied_l l hl h _ l [] K rfl (by omega)
theorem s_copy_l (x : DX) (hl : x.2.1.length ≤ 1000000000) (h : ∀ c ∈ x.2.1, c.2.1.length ≤ 1099511627776) (kx : List DC → Option R) : ∀ (r p : List DC) (k : Nat), x.2.1 = p ++ r → r.length < k →
    s_l09Copy_l3 K k x p (p.length : Int) kx = kx x.2.1
  | [], p, k + 1, e, _ => by simp only [s_l09Copy_l3]; rw [e, ite_f nlt_len]; simp
  | y :: r, p, k + 1, e, hk => by
    have hp : p.length < x.2.1.length := by rw [e]; simp
    simp only [s_l09Copy_l3]
    have ih := s_copy_l x hl h kx r (p ++ [y]) k (by rw [e, mid_app]) (by simp at hk; omega)
    have hy := h y (by rw [e]; simp)
    rw [e] at ih ⊢
    rw [ite_t lt_len, ite_t bnds_mid, ite_t bnds_mid, getD_midI, s_l01Own_eq hy, some_bind', ite_t (lim_app (by simp; omega)), next_i (by rw [← e]; omega)]
    exact ih
theorem s_l09Copy_eq {x : DX} (hl : x.2.1.length ≤ 1000000000) (h : ∀ c ∈ x.2.1, c.2.1.length ≤ 1099511627776) (hK : 4611686018427387904 ≤ K) : s_l09Copy K (x, ()) = some x.2.1 := by
  simp only [s_l09Copy]
  exact s_copy_l x hl h _ x.2.1 [] K rfl (by omega)
theorem okX_cp {x : DX} (h : okX x = true) : x.2.1.length ≤ 12 ∧ ∀ c ∈ x.2.1, c.2.1.length ≤ 4 := by
  obtain ⟨h1, h2, h3, h4⟩ := okX_h h
  exact ⟨h3, fun c hc => (okC_v (h4 c hc) h2).2.1⟩
/-- An instance with a variable fixed. -/
def fixX (x : DX) (v b : Int) : DX × Int × Unit :=
  if okX x = true then (if (decide (0 ≤ v) && decide (v ≤ x.1 - 1)) = true then (if (decide (0 ≤ b) && decide (b ≤ 1)) = true then (if x.2.1.length = 12 then ((0, [], ()), 3, ()) else ((x.1, x.2.1 ++ [((1, 1 + b, ()), [v], ())], ()), 0, ()))
    else ((0, [], ()), 2, ())) else ((0, [], ()), 2, ())) else ((0, [], ()), 1, ())
theorem i_FixVar_eq {x : DX} {v b : Int} (hx : shX x) (hK : 9223372036854775808 ≤ K) : i_FixVar K (x, v, b, ()) = some (fixX x v b) := by
  simp only [i_FixVar, i_IsInstance_eq hx (show 4611686018427387904 ≤ K by omega), some_bind', fixX]
  cases h : okX x
  · rfl
  · obtain ⟨h1, h2, _⟩ := okX_h h
    obtain ⟨h3, h4⟩ := okX_cp h
    rw [ite_f (by rfl), w64 (by omega) (by omega), i_within_eq, some_bind', if_pos rfl]
    cases hv : (decide (0 ≤ v) && decide (v ≤ x.1 - 1))
    · rfl
    · rw [ite_f (by rfl), i_within_eq, some_bind', if_pos rfl]
      cases hb : (decide (0 ≤ b) && decide (b ≤ 1))
      · rfl
      · rw [ite_f (by rfl), if_pos rfl]
        by_cases h12 : x.2.1.length = 12
        · rw [ite_t (decide_eq_true (by omega)), if_pos h12]
        · have hb2 := and_dec.1 hb
          rw [ite_f (decide_eq_false (by omega)), if_neg h12]
          simp only [i_FixVar_j7]
          rw [i_copied_eq (by omega) (fun c hc => by have := h4 c hc; omega) (by omega), some_bind', ite_t (decide_eq_true hb2.1), ite_t (lim_app (by simp; omega))]
          have e : shlI .i64 (1 : Int) b = 1 + b := by
            rcases (show b = 0 ∨ b = 1 by omega) with rfl | rfl <;> rfl
          rw [e]
theorem s_FixVar_eq {x : DX} {v b : Int} (hx : shX x) (hK : 9223372036854775808 ≤ K) : s_FixVar K (x, v, b, ()) = some (fixX x v b) := by
  simp only [s_FixVar, s_l09Is_eq hx hK, some_bind', fixX]
  cases h : okX x
  · rfl
  · obtain ⟨h1, h2, _⟩ := okX_h h
    obtain ⟨h3, h4⟩ := okX_cp h
    rw [ite_f (by rfl), w64 (by omega) (by omega), s_l01In_eq, some_bind', if_pos rfl]
    cases hv : (decide (0 ≤ v) && decide (v ≤ x.1 - 1))
    · rfl
    · rw [ite_f (by rfl), s_l01In_eq, some_bind', if_pos rfl]
      cases hb : (decide (0 ≤ b) && decide (b ≤ 1))
      · rfl
      · rw [ite_f (by rfl), if_pos rfl]
        by_cases h12 : x.2.1.length = 12
        · rw [ite_t (decide_eq_true (by omega)), if_pos h12]
        · have hb2 := and_dec.1 hb
          rw [ite_f (decide_eq_false (by omega)), if_neg h12]
          simp only [s_FixVar_j7]
          rw [s_l09Copy_eq (by omega) (fun c hc => by have := h4 c hc; omega) (by omega), some_bind', ite_t (lim_app (by simp; omega)), w64 (by omega) (by omega)]
theorem fixX_sm {x : DX} {v b : Int} : smX (fixX x v b).1 := by
  have h0 : smX ((0, [], ()) : DX) := by unfold smX; simp [lenC]
  unfold fixX
  cases h : okX x
  · exact h0
  · obtain ⟨h3, h4⟩ := okX_cp h
    rw [if_pos rfl]
    split
    · split
      · split
        · exact h0
        · have key : ∀ l : List DC, (∀ c ∈ l, c.2.1.length ≤ 4) → lenC l ≤ 4 * l.length := by
            intro l
            induction l with
            | nil => intro _; simp [lenC]
            | cons c l ih => intro hc; have := ih (fun d hd => hc d (by simp [hd])); have := hc c (by simp); simp only [lenC, List.length_cons]; omega
          have := key (x.2.1 ++ [((1, 1 + b, ()), [v], ())]) (fun c hc => by
            rcases List.mem_append.1 hc with hc | hc
            · exact h4 c hc
            · simp only [List.mem_singleton] at hc; subst hc; simp)
          unfold smX
          simp only [List.length_append, List.length_cons, List.length_nil] at this ⊢
          omega
      · exact h0
    · exact h0
theorem law_FixVar (hK : 9223372036854775808 ≤ K) {x : DX} {v b : Int} (hx : okD TX x) : w_FnExactFixVar K (x, v, b, ()) = some true := by
  have hK2 : 4611686018427387904 ≤ K := by omega
  simp only [w_FnExactFixVar]
  refine sz_guard hx hK2 _ (fun hs y hy => ?_) (fun y hy => by rw [ite_t (decide_eq_true hy)])
  have hsh := smX_sh hs
  rw [ite_f (decide_eq_false hy)]
  obtain ⟨q, hq, hi, hp⟩ : ∃ q : DX × Int × Unit, smX q.1 ∧ i_FixVar K (x, v, b, ()) = some q ∧ s_FixVar K (x, v, b, ()) = some q := ⟨_, fixX_sm, i_FixVar_eq hsh hK, s_FixVar_eq hsh hK⟩
  have h3 := smX_eq hq hK2
  have h1 := smX_mark hq hK2
  have h2 : w_heldInstance K ((q.1.1, markC q.1.2.1 1, ()), (1 : Int), ()) = some (1 + (szC q.1.2.1 : Int)) := w_heldInstance_eq hK2 (by decide) (by have := (smX_h hq).2.2; omega)
  simp only [smX_to hs hK2, hi, hp, h3, some_bind', w_FnExactFixVar_j10, w_FnExactFixVar_j16, w_FnExactFixVar_j27, smX_to hs hK2, smX_eq hs hK2, smX_mark hs hK2, mark_pos, h1, h2, decide_true, Bool.not_true, Bool.false_eq_true, if_false]
end Go.Proofs.Ytieiajeggahipaa.E
namespace Go.Proofs.Ytieiajeggahipaa.E
open Go Go.Proofs Go.Proofs.Ytieiajeggahipaa
set_option maxRecDepth 100000
set_option linter.unusedVariables false
noncomputable def as_s_l09Flip : Ty := (.pair (.st (.pair (.int .i64) (.pair (.int .i64) .unit))) .unit)
noncomputable def sp_s_l09Flip (F : ((Int × Int × Unit) × Unit) → Option (Int × Int × Unit)) : FnSpec := ⟨as_s_l09Flip, [false], (.st (.pair (.int .i64) (.pair (.int .i64) .unit))), F⟩
noncomputable def s_l09Flip_l3 {R : Type} (K : Nat) : Nat → (Int × Int × Unit) → (Int × Int × Unit) → (Int × Int × Unit) → Int → Int → ((Int × Int × Unit) → (Int × Int × Unit) → Option R) → Option R
  | 0, _, _, _, _, _, _ => none
  | k + 1, v1, v2, v3, v4, v5, kx0 =>
    (if (decide (v5 < v4)) = true then
    (s_l09Has K (v1, v5, ())).bind fun y2 =>
    (if y2 = true then
    let x3 := (IntKind.i64.wrap ((IntKind.i64.wrap (v4 - (1 : Int))) - v5))
    (if (decide ((0 : Int) ≤ (IntKind.u64.wrap x3))) = true then
    let x4 := (IntKind.i64.wrap (v3.2.1 + (shlI .i64 (1 : Int) (IntKind.u64.wrap x3))))
    s_l09Flip_l3 K k v1 v2 (v3.1, x4, ()) v4 (IntKind.i64.wrap (v5 + (1 : Int))) kx0
    else
    none)
    else
    s_l09Flip_l3 K k v1 v2 v3 v4 (IntKind.i64.wrap (v5 + (1 : Int))) kx0)
    else
    kx0 v2 v3)
noncomputable def s_l09Flip (K : Nat) (x : ((Int × Int × Unit) × Unit)) : Option (Int × Int × Unit) :=
    (s_l01Rows K (x.1.1, ())).bind fun y1 =>
    s_l09Flip_l3 K K x.1 ((0 : Int), (0 : Int), ()) (x.1.1, ((0 : Int), (0 : Int), ()).2.1, ()) y1 (0 : Int) (fun z5 z6 =>
    some z6)
noncomputable def lv_s_l09Flip_L3 : Lv := [(1, (.bx (.v (.st (.pair (.int .i64) (.pair (.int .i64) .unit)))))), (2, (.bx (.v (.st (.pair (.int .i64) (.pair (.int .i64) .unit)))))), (3, (.bx (.v (.st (.pair (.int .i64) (.pair (.int .i64) .unit)))))), (4, (.v (.int .i64))), (5, (.v (.int .i64)))]
noncomputable def lv_s_l09Flip_X0 : Lv := [(2, (.bx (.v (.st (.pair (.int .i64) (.pair (.int .i64) .unit)))))), (3, (.bx (.v (.st (.pair (.int .i64) (.pair (.int .i64) .unit))))))]
noncomputable def rv_s_l09Flip : Lv := [(2, (.bx (.v (.st (.pair (.int .i64) (.pair (.int .i64) .unit))))))]
noncomputable def gs_l09Flip_l3 {R : Type} (K : Nat) (k : Nat) (x : den lv_s_l09Flip_L3.ty) (kx : Nat → St → Option R) (kr : St → Option R) : Option R := s_l09Flip_l3 K k x.1 x.2.1 x.2.2.1 x.2.2.2.1 x.2.2.2.2.1 (fun z0 z1 => kx 0 (mkSt lv_s_l09Flip_X0 (z0, z1, ())))
noncomputable def sg_s_l09Flip {R : Type} (K : Nat) (k : Nat) : List (Nat × SegS R) := []
noncomputable def su_s_l09Flip : List (Nat × Unit) := []
noncomputable def en_s_l09Flip {R : Type} (K : Nat) (k : Nat) : Env R := { L := lk [(3, mkLoop lv_s_l09Flip_L3 (gs_l09Flip_l3 K k))], X := lk [(0, lv_s_l09Flip_X0)], S := lk (sg_s_l09Flip K k), rv := rv_s_l09Flip }
noncomputable def cf_s_l09Flip (K : Nat) : Cfg := { ty := lk tys, fn := lk [(75, sp_s_l01Rows (s_l01Rows K)), (76, sp_s_l09Has (s_l09Has K))], prot := 0, nt := Try.f89.ntmps }
noncomputable def c_s_l09Flip_L3 : Code := nthC (partsOf (hasK su_s_l09Flip) (bodyOf Try.f89)) 0
theorem es_l09Flip_l3 {R : Type} (K : Nat) (k : Nat) (x : den lv_s_l09Flip_L3.ty) (kx : Nat → St → Option R) (kr : St → Option R) : gs_l09Flip_l3 K (k + 1) x kx kr = evC (cf_s_l09Flip K) (en_s_l09Flip K k) c_s_l09Flip_L3 (mkSt lv_s_l09Flip_L3 x) (fun s => mkLoop lv_s_l09Flip_L3 (gs_l09Flip_l3 K k) s kx kr) kx kr := by kernel_rfl
theorem ss_l09Flip_l3 {R : Type} (K : Nat) (C : Cx) (hP : C.P = Try.prog) (O : CfgOk C (cf_s_l09Flip K)) (k : Nat) : LpS C (R := R) (mkLoop lv_s_l09Flip_L3 (gs_l09Flip_l3 K k)) c_s_l09Flip_L3 :=
  loop_sound O (by rw [hP]; kernel_rfl) (fun x kx kr => rfl) (es_l09Flip_l3 K) (fun k => lpOk_of (en := en_s_l09Flip K k) (S := hasK su_s_l09Flip) (fun i => hasK_lk (sg_s_l09Flip K k) i) _ (by rw [show partsOf (hasK su_s_l09Flip) c_s_l09Flip_L3 = [] from by kernel_rfl]; exact trivial)) k
theorem e_s_l09Flip (K : Nat) (x : den as_s_l09Flip) : s_l09Flip K x = evFn (cf_s_l09Flip K) as_s_l09Flip [false] (.st (.pair (.int .i64) (.pair (.int .i64) .unit))) (en_s_l09Flip K K) Try.f89.results.toList (bodyOf Try.f89) x := by kernel_rfl
theorem ok_s_l09Flip (K : Nat) : FnOk Try.prog 89 (sp_s_l09Flip (s_l09Flip K)) :=
  fn_ok (cf := cf_s_l09Flip K) (en := en_s_l09Flip K K) (c := bodyOf Try.f89) Try.func89 (by kernel_rfl) (by kernel_rfl) tysOk (fns_ok (l := [(75, sp_s_l01Rows (s_l01Rows K)), (76, sp_s_l09Has (s_l09Has K))]) ⟨ok_s_l01Rows K, ⟨ok_s_l09Has K, trivial⟩⟩) (by kernel_rfl) rfl (Nat.le_of_ble_eq_true (by kernel_rfl)) (by kernel_rfl) (of_decide_eq_true (by kernel_rfl)) (by decide) (fun C hP O => lpOk_of (en := en_s_l09Flip K K) (S := hasK su_s_l09Flip) (fun i => hasK_lk (sg_s_l09Flip K K) i) _ (by rw [show partsOf (hasK su_s_l09Flip) (bodyOf Try.f89) = [(true, c_s_l09Flip_L3)] from by kernel_rfl]; exact (lpL_loop (f := mkLoop lv_s_l09Flip_L3 (gs_l09Flip_l3 K K)) (by kernel_rfl) (ss_l09Flip_l3 K C hP O K) trivial))) (fun x y h => by rw [← e_s_l09Flip]; exact h)
noncomputable def as_s_FlipInstance : Ty := (.pair (.st (.pair (.int .i64) (.pair (.sl (.st (.pair (.st (.pair (.int .i64) (.pair (.int .i64) .unit))) (.pair (.sl (.int .i64)) .unit)))) .unit))) .unit)
noncomputable def sp_s_FlipInstance (F : ((Int × (List ((Int × Int × Unit) × (List Int) × Unit)) × Unit) × Unit) → Option ((Int × (List ((Int × Int × Unit) × (List Int) × Unit)) × Unit) × Int × Unit)) : FnSpec := ⟨as_s_FlipInstance, [false], (.tup (.pair (.st (.pair (.int .i64) (.pair (.sl (.st (.pair (.st (.pair (.int .i64) (.pair (.int .i64) .unit))) (.pair (.sl (.int .i64)) .unit)))) .unit))) (.pair (.int .i64) .unit))), F⟩
noncomputable def s_FlipInstance_l5 {R : Type} (K : Nat) : Nat → Int → (List ((Int × Int × Unit) × (List Int) × Unit)) → Int → (List ((Int × Int × Unit) × (List Int) × Unit)) → Int → (Int → (List ((Int × Int × Unit) × (List Int) × Unit)) → Int → (List ((Int × Int × Unit) × (List Int) × Unit)) → Option R) → Option R
  | 0, _, _, _, _, _, _ => none
  | k + 1, v2_0, v2_1, v4_0, v4_1, v5, kx0 =>
    (if (decide (v5 < (v4_1.length : Int))) = true then
    (if (bnds v5 (v4_1.length : Int)) = true then
    let x3 := (v4_1.getD v5.toNat (((0 : Int), (0 : Int), ()), ([] : List Int), ())).1
    (s_l09Flip K (x3, ())).bind fun y4 =>
    (if (bnds v5 (v4_1.length : Int)) = true then
    let l5 := (v4_1.set v5.toNat (y4, (v4_1.getD v5.toNat (((0 : Int), (0 : Int), ()), ([] : List Int), ())).2.1, ()))
    s_FlipInstance_l5 K k v2_0 v2_1 v4_0 l5 (IntKind.i64.wrap (v5 + (1 : Int))) kx0
    else
    none)
    else
    none)
    else
    kx0 v2_0 v2_1 v4_0 v4_1)
noncomputable def s_FlipInstance (K : Nat) (x : ((Int × (List ((Int × Int × Unit) × (List Int) × Unit)) × Unit) × Unit)) : Option ((Int × (List ((Int × Int × Unit) × (List Int) × Unit)) × Unit) × Int × Unit) :=
    (s_l09Is K (x.1, ())).bind fun y1 =>
    (if (!y1) = true then
    some (((0 : Int), ([] : List ((Int × Int × Unit) × (List Int) × Unit)), ()), (1 : Int), ())
    else
    (s_l09Copy K (x.1, ())).bind fun y2 =>
    s_FlipInstance_l5 K K (0 : Int) ([] : List ((Int × Int × Unit) × (List Int) × Unit)) x.1.1 y2 (0 : Int) (fun z6 z7 z8 z9 =>
    some ((z8, z9, ()), (0 : Int), ())))
noncomputable def lv_s_FlipInstance_L5 : Lv := [(2, (.bx (.st (.pair (.v (.int .i64)) (.pair (.r (.st (.pair (.st (.pair (.int .i64) (.pair (.int .i64) .unit))) (.pair (.sl (.int .i64)) .unit)))) .unit))))), (4, (.bx (.st (.pair (.v (.int .i64)) (.pair (.r (.st (.pair (.st (.pair (.int .i64) (.pair (.int .i64) .unit))) (.pair (.sl (.int .i64)) .unit)))) .unit))))), (5, (.v (.int .i64)))]
noncomputable def lv_s_FlipInstance_X0 : Lv := [(2, (.bx (.st (.pair (.v (.int .i64)) (.pair (.r (.st (.pair (.st (.pair (.int .i64) (.pair (.int .i64) .unit))) (.pair (.sl (.int .i64)) .unit)))) .unit))))), (4, (.bx (.st (.pair (.v (.int .i64)) (.pair (.r (.st (.pair (.st (.pair (.int .i64) (.pair (.int .i64) .unit))) (.pair (.sl (.int .i64)) .unit)))) .unit)))))]
noncomputable def rv_s_FlipInstance : Lv := [(2, (.bx (.st (.pair (.v (.int .i64)) (.pair (.r (.st (.pair (.st (.pair (.int .i64) (.pair (.int .i64) .unit))) (.pair (.sl (.int .i64)) .unit)))) .unit))))), (3, (.v (.int .i64)))]
noncomputable def gs_FlipInstance_l5 {R : Type} (K : Nat) (k : Nat) (x : den lv_s_FlipInstance_L5.ty) (kx : Nat → St → Option R) (kr : St → Option R) : Option R := s_FlipInstance_l5 K k x.1.1 x.1.2.1 x.2.1.1 x.2.1.2.1 x.2.2.1 (fun z0 z1 z2 z3 => kx 0 (mkSt lv_s_FlipInstance_X0 ((z0, z1, ()), (z2, z3, ()), ())))
noncomputable def sg_s_FlipInstance {R : Type} (K : Nat) (k : Nat) : List (Nat × SegS R) := []
noncomputable def su_s_FlipInstance : List (Nat × Unit) := []
noncomputable def en_s_FlipInstance {R : Type} (K : Nat) (k : Nat) : Env R := { L := lk [(5, mkLoop lv_s_FlipInstance_L5 (gs_FlipInstance_l5 K k))], X := lk [(0, lv_s_FlipInstance_X0)], S := lk (sg_s_FlipInstance K k), rv := rv_s_FlipInstance }
noncomputable def cf_s_FlipInstance (K : Nat) : Cfg := { ty := lk tys, fn := lk [(64, sp_s_l09Is (s_l09Is K)), (86, sp_s_l09Copy (s_l09Copy K)), (89, sp_s_l09Flip (s_l09Flip K))], prot := 0, nt := Try.f40.ntmps }
noncomputable def c_s_FlipInstance_L5 : Code := nthC (partsOf (hasK su_s_FlipInstance) (bodyOf Try.f40)) 0
theorem es_FlipInstance_l5 {R : Type} (K : Nat) (k : Nat) (x : den lv_s_FlipInstance_L5.ty) (kx : Nat → St → Option R) (kr : St → Option R) : gs_FlipInstance_l5 K (k + 1) x kx kr = evC (cf_s_FlipInstance K) (en_s_FlipInstance K k) c_s_FlipInstance_L5 (mkSt lv_s_FlipInstance_L5 x) (fun s => mkLoop lv_s_FlipInstance_L5 (gs_FlipInstance_l5 K k) s kx kr) kx kr := by kernel_rfl
theorem ss_FlipInstance_l5 {R : Type} (K : Nat) (C : Cx) (hP : C.P = Try.prog) (O : CfgOk C (cf_s_FlipInstance K)) (k : Nat) : LpS C (R := R) (mkLoop lv_s_FlipInstance_L5 (gs_FlipInstance_l5 K k)) c_s_FlipInstance_L5 :=
  loop_sound O (by rw [hP]; kernel_rfl) (fun x kx kr => rfl) (es_FlipInstance_l5 K) (fun k => lpOk_of (en := en_s_FlipInstance K k) (S := hasK su_s_FlipInstance) (fun i => hasK_lk (sg_s_FlipInstance K k) i) _ (by rw [show partsOf (hasK su_s_FlipInstance) c_s_FlipInstance_L5 = [] from by kernel_rfl]; exact trivial)) k
theorem e_s_FlipInstance (K : Nat) (x : den as_s_FlipInstance) : s_FlipInstance K x = evFn (cf_s_FlipInstance K) as_s_FlipInstance [false] (.tup (.pair (.st (.pair (.int .i64) (.pair (.sl (.st (.pair (.st (.pair (.int .i64) (.pair (.int .i64) .unit))) (.pair (.sl (.int .i64)) .unit)))) .unit))) (.pair (.int .i64) .unit))) (en_s_FlipInstance K K) Try.f40.results.toList (bodyOf Try.f40) x := by kernel_rfl
theorem ok_s_FlipInstance (K : Nat) : FnOk Try.prog 40 (sp_s_FlipInstance (s_FlipInstance K)) :=
  fn_ok (cf := cf_s_FlipInstance K) (en := en_s_FlipInstance K K) (c := bodyOf Try.f40) Try.func40 (by kernel_rfl) (by kernel_rfl) tysOk (fns_ok (l := [(64, sp_s_l09Is (s_l09Is K)), (86, sp_s_l09Copy (s_l09Copy K)), (89, sp_s_l09Flip (s_l09Flip K))]) ⟨ok_s_l09Is K, ⟨ok_s_l09Copy K, ⟨ok_s_l09Flip K, trivial⟩⟩⟩) (by kernel_rfl) rfl (Nat.le_of_ble_eq_true (by kernel_rfl)) (by kernel_rfl) (of_decide_eq_true (by kernel_rfl)) (by decide) (fun C hP O => lpOk_of (en := en_s_FlipInstance K K) (S := hasK su_s_FlipInstance) (fun i => hasK_lk (sg_s_FlipInstance K K) i) _ (by rw [show partsOf (hasK su_s_FlipInstance) (bodyOf Try.f40) = [(true, c_s_FlipInstance_L5)] from by kernel_rfl]; exact (lpL_loop (f := mkLoop lv_s_FlipInstance_L5 (gs_FlipInstance_l5 K K)) (by kernel_rfl) (ss_FlipInstance_l5 K C hP O K) trivial))) (fun x y h => by rw [← e_s_FlipInstance]; exact h)
noncomputable def as_i_funcBy : Ty := (.pair (.int .i64) (.pair (.fn (.pair (.int .i64) .unit) (.int .i64)) .unit))
noncomputable def sp_i_funcBy (F : (Int × ((Int × Unit) → Option Int) × Unit) → Option (Int × Int × Unit)) : FnSpec := ⟨as_i_funcBy, [false, false], (.st (.pair (.int .i64) (.pair (.int .i64) .unit))), F⟩
noncomputable def i_funcBy_l3 {R : Type} (K : Nat) : Nat → ((Int × Unit) → Option Int) → (Int × Int × Unit) → (Int × Int × Unit) → Int → Int → ((Int × Int × Unit) → (Int × Int × Unit) → Option R) → Option R
  | 0, _, _, _, _, _, _ => none
  | k + 1, v1, v4, v5, v10, v11, kx0 =>
    (if (decide (v11 < v10)) = true then
    (v1 (v11, ())).bind fun y2 =>
    (if (decide ((0 : Int) ≤ v11)) = true then
    i_funcBy_l3 K k v1 v4 (v5.1, (bitI .or .i64 v5.2.1 (shlI .i64 y2 v11)), ()) v10 (IntKind.i64.wrap (v11 + (1 : Int))) kx0
    else
    none)
    else
    kx0 v4 v5)
noncomputable def i_funcBy (K : Nat) (x : (Int × ((Int × Unit) → Option Int) × Unit)) : Option (Int × Int × Unit) :=
    (i_rowsOf K (x.1, ())).bind fun y1 =>
    i_funcBy_l3 K K x.2.1 ((0 : Int), (0 : Int), ()) (x.1, ((0 : Int), (0 : Int), ()).2.1, ()) y1 (0 : Int) (fun z3 z4 =>
    some z4)
noncomputable def lv_i_funcBy_L3 : Lv := [(1, (.v (.fn (.pair (.int .i64) .unit) (.int .i64)))), (4, (.bx (.v (.st (.pair (.int .i64) (.pair (.int .i64) .unit)))))), (5, (.bx (.v (.st (.pair (.int .i64) (.pair (.int .i64) .unit)))))), (10, (.v (.int .i64))), (11, (.v (.int .i64)))]
noncomputable def lv_i_funcBy_X0 : Lv := [(4, (.bx (.v (.st (.pair (.int .i64) (.pair (.int .i64) .unit)))))), (5, (.bx (.v (.st (.pair (.int .i64) (.pair (.int .i64) .unit))))))]
noncomputable def rv_i_funcBy : Lv := [(4, (.bx (.v (.st (.pair (.int .i64) (.pair (.int .i64) .unit))))))]
noncomputable def gi_funcBy_l3 {R : Type} (K : Nat) (k : Nat) (x : den lv_i_funcBy_L3.ty) (kx : Nat → St → Option R) (kr : St → Option R) : Option R := i_funcBy_l3 K k x.1 x.2.1 x.2.2.1 x.2.2.2.1 x.2.2.2.2.1 (fun z0 z1 => kx 0 (mkSt lv_i_funcBy_X0 (z0, z1, ())))
noncomputable def sg_i_funcBy {R : Type} (K : Nat) (k : Nat) : List (Nat × SegS R) := []
noncomputable def su_i_funcBy : List (Nat × Unit) := []
noncomputable def en_i_funcBy {R : Type} (K : Nat) (k : Nat) : Env R := { L := lk [(3, mkLoop lv_i_funcBy_L3 (gi_funcBy_l3 K k))], X := lk [(0, lv_i_funcBy_X0)], S := lk (sg_i_funcBy K k), rv := rv_i_funcBy }
noncomputable def cf_i_funcBy (K : Nat) : Cfg := { ty := lk tys, fn := lk [(90, sp_i_rowsOf (i_rowsOf K))], prot := 0, nt := Try.f125.ntmps }
noncomputable def c_i_funcBy_L3 : Code := nthC (partsOf (hasK su_i_funcBy) (bodyOf Try.f125)) 0
theorem ei_funcBy_l3 {R : Type} (K : Nat) (k : Nat) (x : den lv_i_funcBy_L3.ty) (kx : Nat → St → Option R) (kr : St → Option R) : gi_funcBy_l3 K (k + 1) x kx kr = evC (cf_i_funcBy K) (en_i_funcBy K k) c_i_funcBy_L3 (mkSt lv_i_funcBy_L3 x) (fun s => mkLoop lv_i_funcBy_L3 (gi_funcBy_l3 K k) s kx kr) kx kr := by kernel_rfl
theorem si_funcBy_l3 {R : Type} (K : Nat) (C : Cx) (hP : C.P = Try.prog) (O : CfgOk C (cf_i_funcBy K)) (k : Nat) : LpS C (R := R) (mkLoop lv_i_funcBy_L3 (gi_funcBy_l3 K k)) c_i_funcBy_L3 :=
  loop_sound O (by rw [hP]; kernel_rfl) (fun x kx kr => rfl) (ei_funcBy_l3 K) (fun k => lpOk_of (en := en_i_funcBy K k) (S := hasK su_i_funcBy) (fun i => hasK_lk (sg_i_funcBy K k) i) _ (by rw [show partsOf (hasK su_i_funcBy) c_i_funcBy_L3 = [] from by kernel_rfl]; exact trivial)) k
theorem e_i_funcBy (K : Nat) (x : den as_i_funcBy) : i_funcBy K x = evFn (cf_i_funcBy K) as_i_funcBy [false, false] (.st (.pair (.int .i64) (.pair (.int .i64) .unit))) (en_i_funcBy K K) Try.f125.results.toList (bodyOf Try.f125) x := by kernel_rfl
theorem ok_i_funcBy (K : Nat) : FnOk Try.prog 125 (sp_i_funcBy (i_funcBy K)) :=
  fn_ok (cf := cf_i_funcBy K) (en := en_i_funcBy K K) (c := bodyOf Try.f125) Try.func125 (by kernel_rfl) (by kernel_rfl) tysOk (fns_ok (l := [(90, sp_i_rowsOf (i_rowsOf K))]) ⟨ok_i_rowsOf K, trivial⟩) (by kernel_rfl) rfl (Nat.le_of_ble_eq_true (by kernel_rfl)) (by kernel_rfl) (of_decide_eq_true (by kernel_rfl)) (by decide) (fun C hP O => lpOk_of (en := en_i_funcBy K K) (S := hasK su_i_funcBy) (fun i => hasK_lk (sg_i_funcBy K K) i) _ (by rw [show partsOf (hasK su_i_funcBy) (bodyOf Try.f125) = [(true, c_i_funcBy_L3)] from by kernel_rfl]; exact (lpL_loop (f := mkLoop lv_i_funcBy_L3 (gi_funcBy_l3 K K)) (by kernel_rfl) (si_funcBy_l3 K C hP O K) trivial))) (fun x y h => by rw [← e_i_funcBy]; exact h)
noncomputable def as_i_relationBy_c1 : Ty := (.pair (.int .i64) (.pair (.ptr (.fn (.pair (.int .i64) .unit) .bool)) .unit))
noncomputable def sp_i_relationBy_c1 (F : (Int × ((Int × Unit) → Option Bool) × Unit) → Option Int) : FnSpec := ⟨as_i_relationBy_c1, [false, false], (.int .i64), F⟩
noncomputable def i_relationBy_c1 (K : Nat) (x : (Int × ((Int × Unit) → Option Bool) × Unit)) : Option Int :=
    (x.2.1 (x.1, ())).bind fun y1 =>
    (i_one K (y1, ())).bind fun y2 =>
    some y2
noncomputable def rv_i_relationBy_c1 : Lv := [(3, (.v (.int .i64)))]
noncomputable def sg_i_relationBy_c1 {R : Type} (K : Nat) (k : Nat) : List (Nat × SegS R) := []
noncomputable def su_i_relationBy_c1 : List (Nat × Unit) := []
noncomputable def en_i_relationBy_c1 {R : Type} (K : Nat) (k : Nat) : Env R := { L := lk [], X := lk [], S := lk (sg_i_relationBy_c1 K k), rv := rv_i_relationBy_c1 }
noncomputable def cf_i_relationBy_c1 (K : Nat) : Cfg := { ty := lk tys, fn := lk [(61, sp_i_one (i_one K))], prot := 0, nt := Try.f126.ntmps }
theorem e_i_relationBy_c1 (K : Nat) (x : den as_i_relationBy_c1) : i_relationBy_c1 K x = evFn (cf_i_relationBy_c1 K) as_i_relationBy_c1 [false, false] (.int .i64) (en_i_relationBy_c1 K K) Try.f126.results.toList (bodyOf Try.f126) x := by kernel_rfl
theorem ok_i_relationBy_c1 (K : Nat) : FnOk Try.prog 126 (sp_i_relationBy_c1 (i_relationBy_c1 K)) :=
  fn_ok (cf := cf_i_relationBy_c1 K) (en := en_i_relationBy_c1 K K) (c := bodyOf Try.f126) Try.func126 (by kernel_rfl) (by kernel_rfl) tysOk (fns_ok (l := [(61, sp_i_one (i_one K))]) ⟨ok_i_one K, trivial⟩) (by kernel_rfl) rfl (Nat.le_of_ble_eq_true (by kernel_rfl)) (by kernel_rfl) (of_decide_eq_true (by kernel_rfl)) (by decide) (fun C hP O => lpOk_of (en := en_i_relationBy_c1 K K) (S := hasK su_i_relationBy_c1) (fun i => hasK_lk (sg_i_relationBy_c1 K K) i) _ (by rw [show partsOf (hasK su_i_relationBy_c1) (bodyOf Try.f126) = [] from by kernel_rfl]; exact trivial)) (fun x y h => by rw [← e_i_relationBy_c1]; exact h)
noncomputable def as_i_relationBy : Ty := (.pair (.int .i64) (.pair (.fn (.pair (.int .i64) .unit) .bool) .unit))
noncomputable def sp_i_relationBy (F : (Int × ((Int × Unit) → Option Bool) × Unit) → Option (Int × Int × Unit)) : FnSpec := ⟨as_i_relationBy, [false, false], (.st (.pair (.int .i64) (.pair (.int .i64) .unit))), F⟩
noncomputable def i_relationBy (K : Nat) (x : (Int × ((Int × Unit) → Option Bool) × Unit)) : Option (Int × Int × Unit) :=
    (i_funcBy K (x.1, (fun y2 => i_relationBy_c1 K (y2.1, x.2.1, ())), ())).bind fun y1 =>
    some ((x.1, ((0 : Int), (0 : Int), ()).2.1, ()).1, y1.2.1, ())
noncomputable def rv_i_relationBy : Lv := [(4, (.bx (.v (.st (.pair (.int .i64) (.pair (.int .i64) .unit))))))]
noncomputable def sg_i_relationBy {R : Type} (K : Nat) (k : Nat) : List (Nat × SegS R) := []
noncomputable def su_i_relationBy : List (Nat × Unit) := []
noncomputable def en_i_relationBy {R : Type} (K : Nat) (k : Nat) : Env R := { L := lk [], X := lk [], S := lk (sg_i_relationBy K k), rv := rv_i_relationBy }
noncomputable def cf_i_relationBy (K : Nat) : Cfg := { ty := lk tys, fn := lk [(125, sp_i_funcBy (i_funcBy K)), (126, sp_i_relationBy_c1 (i_relationBy_c1 K))], prot := 0, nt := Try.f91.ntmps }
theorem e_i_relationBy (K : Nat) (x : den as_i_relationBy) : i_relationBy K x = evFn (cf_i_relationBy K) as_i_relationBy [false, false] (.st (.pair (.int .i64) (.pair (.int .i64) .unit))) (en_i_relationBy K K) Try.f91.results.toList (bodyOf Try.f91) x := by kernel_rfl
theorem ok_i_relationBy (K : Nat) : FnOk Try.prog 91 (sp_i_relationBy (i_relationBy K)) :=
  fn_ok (cf := cf_i_relationBy K) (en := en_i_relationBy K K) (c := bodyOf Try.f91) Try.func91 (by kernel_rfl) (by kernel_rfl) tysOk (fns_ok (l := [(125, sp_i_funcBy (i_funcBy K)), (126, sp_i_relationBy_c1 (i_relationBy_c1 K))]) ⟨ok_i_funcBy K, ⟨ok_i_relationBy_c1 K, trivial⟩⟩) (by kernel_rfl) rfl (Nat.le_of_ble_eq_true (by kernel_rfl)) (by kernel_rfl) (of_decide_eq_true (by kernel_rfl)) (by decide) (fun C hP O => lpOk_of (en := en_i_relationBy K K) (S := hasK su_i_relationBy) (fun i => hasK_lk (sg_i_relationBy K K) i) _ (by rw [show partsOf (hasK su_i_relationBy) (bodyOf Try.f91) = [] from by kernel_rfl]; exact trivial)) (fun x y h => by rw [← e_i_relationBy]; exact h)
noncomputable def as_i_FlipInstance_c1 : Ty := (.pair (.int .i64) (.pair (.ptr (.st (.pair (.st (.pair (.int .i64) (.pair (.int .i64) .unit))) (.pair (.sl (.int .i64)) .unit)))) (.pair (.ptr (.int .i64)) .unit)))
noncomputable def sp_i_FlipInstance_c1 (F : (Int × ((Int × Int × Unit) × (List Int) × Unit) × Int × Unit) → Option Bool) : FnSpec := ⟨as_i_FlipInstance_c1, [false, false, false], .bool, F⟩
noncomputable def i_FlipInstance_c1 (K : Nat) (x : (Int × ((Int × Int × Unit) × (List Int) × Unit) × Int × Unit)) : Option Bool :=
    (i_Relation_has K (x.2.1.1, (IntKind.i64.wrap (x.2.2.1 - x.1)), ())).bind fun y1 =>
    some y1
noncomputable def rv_i_FlipInstance_c1 : Lv := [(4, (.v .bool))]
noncomputable def sg_i_FlipInstance_c1 {R : Type} (K : Nat) (k : Nat) : List (Nat × SegS R) := []
noncomputable def su_i_FlipInstance_c1 : List (Nat × Unit) := []
noncomputable def en_i_FlipInstance_c1 {R : Type} (K : Nat) (k : Nat) : Env R := { L := lk [], X := lk [], S := lk (sg_i_FlipInstance_c1 K k), rv := rv_i_FlipInstance_c1 }
noncomputable def cf_i_FlipInstance_c1 (K : Nat) : Cfg := { ty := lk tys, fn := lk [(93, sp_i_Relation_has (i_Relation_has K))], prot := 0, nt := Try.f92.ntmps }
theorem e_i_FlipInstance_c1 (K : Nat) (x : den as_i_FlipInstance_c1) : i_FlipInstance_c1 K x = evFn (cf_i_FlipInstance_c1 K) as_i_FlipInstance_c1 [false, false, false] .bool (en_i_FlipInstance_c1 K K) Try.f92.results.toList (bodyOf Try.f92) x := by kernel_rfl
theorem ok_i_FlipInstance_c1 (K : Nat) : FnOk Try.prog 92 (sp_i_FlipInstance_c1 (i_FlipInstance_c1 K)) :=
  fn_ok (cf := cf_i_FlipInstance_c1 K) (en := en_i_FlipInstance_c1 K K) (c := bodyOf Try.f92) Try.func92 (by kernel_rfl) (by kernel_rfl) tysOk (fns_ok (l := [(93, sp_i_Relation_has (i_Relation_has K))]) ⟨ok_i_Relation_has K, trivial⟩) (by kernel_rfl) rfl (Nat.le_of_ble_eq_true (by kernel_rfl)) (by kernel_rfl) (of_decide_eq_true (by kernel_rfl)) (by decide) (fun C hP O => lpOk_of (en := en_i_FlipInstance_c1 K K) (S := hasK su_i_FlipInstance_c1) (fun i => hasK_lk (sg_i_FlipInstance_c1 K K) i) _ (by rw [show partsOf (hasK su_i_FlipInstance_c1) (bodyOf Try.f92) = [] from by kernel_rfl]; exact trivial)) (fun x y h => by rw [← e_i_FlipInstance_c1]; exact h)
noncomputable def as_i_FlipInstance : Ty := (.pair (.st (.pair (.int .i64) (.pair (.sl (.st (.pair (.st (.pair (.int .i64) (.pair (.int .i64) .unit))) (.pair (.sl (.int .i64)) .unit)))) .unit))) .unit)
noncomputable def sp_i_FlipInstance (F : ((Int × (List ((Int × Int × Unit) × (List Int) × Unit)) × Unit) × Unit) → Option ((Int × (List ((Int × Int × Unit) × (List Int) × Unit)) × Unit) × Int × Unit)) : FnSpec := ⟨as_i_FlipInstance, [false], (.tup (.pair (.st (.pair (.int .i64) (.pair (.sl (.st (.pair (.st (.pair (.int .i64) (.pair (.int .i64) .unit))) (.pair (.sl (.int .i64)) .unit)))) .unit))) (.pair (.int .i64) .unit))), F⟩
noncomputable def i_FlipInstance_l5 {R : Type} (K : Nat) : Nat → Int → (List ((Int × Int × Unit) × (List Int) × Unit)) → Int → (List ((Int × Int × Unit) × (List Int) × Unit)) → Int → Int → (Int → (List ((Int × Int × Unit) × (List Int) × Unit)) → Int → (List ((Int × Int × Unit) × (List Int) × Unit)) → Option R) → Option R
  | 0, _, _, _, _, _, _, _ => none
  | k + 1, v2_0, v2_1, v4_0, v4_1, v20, v21, kx0 =>
    (if (decide (v21 < v20)) = true then
    (if (bnds v21 (v4_1.length : Int)) = true then
    let x3 := ((v4_1.getD v21.toNat (((0 : Int), (0 : Int), ()), ([] : List Int), ())).1).1
    (i_rowsOf K (x3, ())).bind fun y4 =>
    let x5 := ((v4_1.getD v21.toNat (((0 : Int), (0 : Int), ()), ([] : List Int), ())).1).1
    (i_relationBy K (x5, (fun y7 => i_FlipInstance_c1 K (y7.1, ((v4_1.getD v21.toNat (((0 : Int), (0 : Int), ()), ([] : List Int), ())).1, (v4_1.getD v21.toNat (((0 : Int), (0 : Int), ()), ([] : List Int), ())).2.1, ()), (IntKind.i64.wrap (y4 - (1 : Int))), ())), ())).bind fun y6 =>
    (if (bnds v21 (v4_1.length : Int)) = true then
    let l8 := (v4_1.set v21.toNat (y6, (v4_1.getD v21.toNat (((0 : Int), (0 : Int), ()), ([] : List Int), ())).2.1, ()))
    i_FlipInstance_l5 K k v2_0 v2_1 v4_0 l8 v20 (IntKind.i64.wrap (v21 + (1 : Int))) kx0
    else
    none)
    else
    none)
    else
    kx0 v2_0 v2_1 v4_0 v4_1)
noncomputable def i_FlipInstance (K : Nat) (x : ((Int × (List ((Int × Int × Unit) × (List Int) × Unit)) × Unit) × Unit)) : Option ((Int × (List ((Int × Int × Unit) × (List Int) × Unit)) × Unit) × Int × Unit) :=
    (i_IsInstance K (x.1, ())).bind fun y1 =>
    (if (!y1) = true then
    some (((0 : Int), ([] : List ((Int × Int × Unit) × (List Int) × Unit)), ()), (1 : Int), ())
    else
    (i_copied K (x.1.2.1, ())).bind fun y2 =>
    i_FlipInstance_l5 K K (0 : Int) ([] : List ((Int × Int × Unit) × (List Int) × Unit)) x.1.1 y2 (y2.length : Int) (0 : Int) (fun z9 z10 z11 z12 =>
    some ((z11, z12, ()), (0 : Int), ())))
noncomputable def lv_i_FlipInstance_L5 : Lv := [(2, (.bx (.st (.pair (.v (.int .i64)) (.pair (.r (.st (.pair (.st (.pair (.int .i64) (.pair (.int .i64) .unit))) (.pair (.sl (.int .i64)) .unit)))) .unit))))), (4, (.bx (.st (.pair (.v (.int .i64)) (.pair (.r (.st (.pair (.st (.pair (.int .i64) (.pair (.int .i64) .unit))) (.pair (.sl (.int .i64)) .unit)))) .unit))))), (20, (.v (.int .i64))), (21, (.v (.int .i64)))]
noncomputable def lv_i_FlipInstance_X0 : Lv := [(2, (.bx (.st (.pair (.v (.int .i64)) (.pair (.r (.st (.pair (.st (.pair (.int .i64) (.pair (.int .i64) .unit))) (.pair (.sl (.int .i64)) .unit)))) .unit))))), (4, (.bx (.st (.pair (.v (.int .i64)) (.pair (.r (.st (.pair (.st (.pair (.int .i64) (.pair (.int .i64) .unit))) (.pair (.sl (.int .i64)) .unit)))) .unit)))))]
noncomputable def rv_i_FlipInstance : Lv := [(2, (.bx (.st (.pair (.v (.int .i64)) (.pair (.r (.st (.pair (.st (.pair (.int .i64) (.pair (.int .i64) .unit))) (.pair (.sl (.int .i64)) .unit)))) .unit))))), (3, (.v (.int .i64)))]
noncomputable def gi_FlipInstance_l5 {R : Type} (K : Nat) (k : Nat) (x : den lv_i_FlipInstance_L5.ty) (kx : Nat → St → Option R) (kr : St → Option R) : Option R := i_FlipInstance_l5 K k x.1.1 x.1.2.1 x.2.1.1 x.2.1.2.1 x.2.2.1 x.2.2.2.1 (fun z0 z1 z2 z3 => kx 0 (mkSt lv_i_FlipInstance_X0 ((z0, z1, ()), (z2, z3, ()), ())))
noncomputable def sg_i_FlipInstance {R : Type} (K : Nat) (k : Nat) : List (Nat × SegS R) := []
noncomputable def su_i_FlipInstance : List (Nat × Unit) := []
noncomputable def en_i_FlipInstance {R : Type} (K : Nat) (k : Nat) : Env R := { L := lk [(5, mkLoopA lv_i_FlipInstance_L5 [(19, 33, (.st (.pair (.st (.pair (.int .i64) (.pair (.int .i64) .unit))) (.pair (.sl (.int .i64)) .unit))))] (gi_FlipInstance_l5 K k))], X := lk [(0, lv_i_FlipInstance_X0)], S := lk (sg_i_FlipInstance K k), rv := rv_i_FlipInstance }
noncomputable def cf_i_FlipInstance (K : Nat) : Cfg := { ty := lk tys, fn := lk [(78, sp_i_IsInstance (i_IsInstance K)), (87, sp_i_copied (i_copied K)), (90, sp_i_rowsOf (i_rowsOf K)), (91, sp_i_relationBy (i_relationBy K)), (92, sp_i_FlipInstance_c1 (i_FlipInstance_c1 K))], prot := 0, nt := Try.f41.ntmps }
noncomputable def c_i_FlipInstance_L5 : Code := nthC (partsOf (hasK su_i_FlipInstance) (bodyOf Try.f41)) 0
theorem ei_FlipInstance_l5 {R : Type} (K : Nat) (k : Nat) (x : den lv_i_FlipInstance_L5.ty) (kx : Nat → St → Option R) (kr : St → Option R) : gi_FlipInstance_l5 K (k + 1) x kx kr = evC (cf_i_FlipInstance K) (en_i_FlipInstance K k) c_i_FlipInstance_L5 (mkStA lv_i_FlipInstance_L5 [(19, 33, (.st (.pair (.st (.pair (.int .i64) (.pair (.int .i64) .unit))) (.pair (.sl (.int .i64)) .unit))))] x) (fun s => mkLoopA lv_i_FlipInstance_L5 [(19, 33, (.st (.pair (.st (.pair (.int .i64) (.pair (.int .i64) .unit))) (.pair (.sl (.int .i64)) .unit))))] (gi_FlipInstance_l5 K k) s kx kr) kx kr := by kernel_rfl
theorem si_FlipInstance_l5 {R : Type} (K : Nat) (C : Cx) (hP : C.P = Try.prog) (O : CfgOk C (cf_i_FlipInstance K)) (k : Nat) : LpS C (R := R) (mkLoopA lv_i_FlipInstance_L5 [(19, 33, (.st (.pair (.st (.pair (.int .i64) (.pair (.int .i64) .unit))) (.pair (.sl (.int .i64)) .unit))))] (gi_FlipInstance_l5 K k)) c_i_FlipInstance_L5 :=
  loopA_sound O (by rw [hP]; kernel_rfl) (fun x kx kr => rfl) (ei_FlipInstance_l5 K) (fun k => lpOk_of (en := en_i_FlipInstance K k) (S := hasK su_i_FlipInstance) (fun i => hasK_lk (sg_i_FlipInstance K k) i) _ (by rw [show partsOf (hasK su_i_FlipInstance) c_i_FlipInstance_L5 = [] from by kernel_rfl]; exact trivial)) k
theorem e_i_FlipInstance (K : Nat) (x : den as_i_FlipInstance) : i_FlipInstance K x = evFn (cf_i_FlipInstance K) as_i_FlipInstance [false] (.tup (.pair (.st (.pair (.int .i64) (.pair (.sl (.st (.pair (.st (.pair (.int .i64) (.pair (.int .i64) .unit))) (.pair (.sl (.int .i64)) .unit)))) .unit))) (.pair (.int .i64) .unit))) (en_i_FlipInstance K K) Try.f41.results.toList (bodyOf Try.f41) x := by kernel_rfl
theorem ok_i_FlipInstance (K : Nat) : FnOk Try.prog 41 (sp_i_FlipInstance (i_FlipInstance K)) :=
  fn_ok (cf := cf_i_FlipInstance K) (en := en_i_FlipInstance K K) (c := bodyOf Try.f41) Try.func41 (by kernel_rfl) (by kernel_rfl) tysOk (fns_ok (l := [(78, sp_i_IsInstance (i_IsInstance K)), (87, sp_i_copied (i_copied K)), (90, sp_i_rowsOf (i_rowsOf K)), (91, sp_i_relationBy (i_relationBy K)), (92, sp_i_FlipInstance_c1 (i_FlipInstance_c1 K))]) ⟨ok_i_IsInstance K, ⟨ok_i_copied K, ⟨ok_i_rowsOf K, ⟨ok_i_relationBy K, ⟨ok_i_FlipInstance_c1 K, trivial⟩⟩⟩⟩⟩) (by kernel_rfl) rfl (Nat.le_of_ble_eq_true (by kernel_rfl)) (by kernel_rfl) (of_decide_eq_true (by kernel_rfl)) (by decide) (fun C hP O => lpOk_of (en := en_i_FlipInstance K K) (S := hasK su_i_FlipInstance) (fun i => hasK_lk (sg_i_FlipInstance K K) i) _ (by rw [show partsOf (hasK su_i_FlipInstance) (bodyOf Try.f41) = [(true, c_i_FlipInstance_L5)] from by kernel_rfl]; exact (lpL_loop (f := mkLoopA lv_i_FlipInstance_L5 [(19, 33, (.st (.pair (.st (.pair (.int .i64) (.pair (.int .i64) .unit))) (.pair (.sl (.int .i64)) .unit))))] (gi_FlipInstance_l5 K K)) (by kernel_rfl) (si_FlipInstance_l5 K C hP O K) trivial))) (fun x y h => by rw [← e_i_FlipInstance]; exact h)
noncomputable def as_w_FnExactFlipInstance : Ty := (.pair (.st (.pair (.int .i64) (.pair (.sl (.st (.pair (.st (.pair (.int .i64) (.pair (.int .i64) .unit))) (.pair (.sl (.int .i64)) .unit)))) .unit))) .unit)
noncomputable def sp_w_FnExactFlipInstance (F : ((Int × (List ((Int × Int × Unit) × (List Int) × Unit)) × Unit) × Unit) → Option Bool) : FnSpec := ⟨as_w_FnExactFlipInstance, [false], .bool, F⟩
noncomputable def w_FnExactFlipInstance_j27 {R : Type} (K : Nat) (k : Nat) (v7_0 : Int) (v7_1 : (List ((Int × Int × Unit) × (List Int) × Unit))) (v10 : Int) (kn : Option R) (kr : (Bool → Option R)) : Option R :=
    (w_heldInstance K ((v7_0, v7_1, ()), (1 : Int), ())).bind fun y16 =>
    (if (decide (y16 < (0 : Int))) = true then
    kr false
    else
    (if (!decide (y16 = v10)) = true then
    kr false
    else
    kr true))
noncomputable def w_FnExactFlipInstance_j16 {R : Type} (K : Nat) (k : Nat) (v1 : (Int × (List ((Int × Int × Unit) × (List Int) × Unit)) × Unit)) (v4_0 : Int) (v4_1 : (List ((Int × Int × Unit) × (List Int) × Unit))) (v5 : Int) (v7_0 : Int) (v7_1 : (List ((Int × Int × Unit) × (List Int) × Unit))) (kn : Option R) (kr : (Bool → Option R)) : Option R :=
    (w_markInstance K ((v7_0, v7_1, ()), (1 : Int), ())).bind fun y11 =>
    (w_heldInstance K ((v7_0, y11.2.1.2.1, ()), (1 : Int), ())).bind fun y12 =>
    (if (decide (y12 < (0 : Int))) = true then
    kr false
    else
    (if (!decide (y12 = y11.1)) = true then
    kr false
    else
    (w_toInstance K (v1, ())).bind fun y13 =>
    (i_FlipInstance K ((y13.1, y13.2.1, ()), ())).bind fun y14 =>
    (w_eqInstance K ((y14.1.1, y14.1.2.1, ()), (v4_0, v4_1, ()), ())).bind fun y15 =>
    (if (!y15) = true then
    kr false
    else
    (if (!decide (y14.2.1 = v5)) = true then
    kr false
    else
    w_FnExactFlipInstance_j27 K k v7_0 y11.2.1.2.1 y11.1 none (fun z17 =>
    kr z17)))))
noncomputable def w_FnExactFlipInstance_j10 {R : Type} (K : Nat) (k : Nat) (v1 : (Int × (List ((Int × Int × Unit) × (List Int) × Unit)) × Unit)) (v4_0 : Int) (v4_1 : (List ((Int × Int × Unit) × (List Int) × Unit))) (v5 : Int) (v6_0 : Int) (v6_1 : (List ((Int × Int × Unit) × (List Int) × Unit))) (v7_0 : Int) (v7_1 : (List ((Int × Int × Unit) × (List Int) × Unit))) (v8 : Int) (kn : Option R) (kr : (Bool → Option R)) : Option R :=
    (w_toInstance K (v1, ())).bind fun y7 =>
    (w_eqInstance K ((v6_0, v6_1, ()), (y7.1, y7.2.1, ()), ())).bind fun y8 =>
    (if (!y8) = true then
    kr false
    else
    (w_markInstance K ((v6_0, v6_1, ()), (1 : Int), ())).bind fun y9 =>
    (if (decide (y9.1 < (0 : Int))) = true then
    kr false
    else
    (w_eqInstance K ((v7_0, v7_1, ()), (v4_0, v4_1, ()), ())).bind fun y10 =>
    (if (!y10) = true then
    kr false
    else
    (if (!decide (v8 = v5)) = true then
    kr false
    else
    w_FnExactFlipInstance_j16 K k v1 v4_0 v4_1 v5 v7_0 v7_1 none (fun z18 =>
    kr z18)))))
noncomputable def w_FnExactFlipInstance (K : Nat) (x : ((Int × (List ((Int × Int × Unit) × (List Int) × Unit)) × Unit) × Unit)) : Option Bool :=
    (w_szInstance K (x.1, (1048576 : Int), ())).bind fun y1 =>
    (if (decide (y1 < (0 : Int))) = true then
    some true
    else
    (w_toInstance K (x.1, ())).bind fun y2 =>
    (s_FlipInstance K ((y2.1, y2.2.1, ()), ())).bind fun y3 =>
    (w_toInstance K (x.1, ())).bind fun y4 =>
    (i_FlipInstance K ((y4.1, y4.2.1, ()), ())).bind fun y5 =>
    (w_eqInstance K ((y5.1.1, y5.1.2.1, ()), (y3.1.1, y3.1.2.1, ()), ())).bind fun y6 =>
    (if (!y6) = true then
    some false
    else
    (if (!decide (y5.2.1 = y3.2.1)) = true then
    some false
    else
    w_FnExactFlipInstance_j10 K K x.1 y3.1.1 y3.1.2.1 y3.2.1 y4.1 y4.2.1 y5.1.1 y5.1.2.1 y5.2.1 none (fun z19 =>
    some z19))))
noncomputable def lv_w_FnExactFlipInstance_J10 : Lv := [(1, (.bx (.v (.st (.pair (.int .i64) (.pair (.sl (.st (.pair (.st (.pair (.int .i64) (.pair (.int .i64) .unit))) (.pair (.sl (.int .i64)) .unit)))) .unit)))))), (4, (.bx (.st (.pair (.v (.int .i64)) (.pair (.r (.st (.pair (.st (.pair (.int .i64) (.pair (.int .i64) .unit))) (.pair (.sl (.int .i64)) .unit)))) .unit))))), (5, (.v (.int .i64))), (6, (.bx (.st (.pair (.v (.int .i64)) (.pair (.r (.st (.pair (.st (.pair (.int .i64) (.pair (.int .i64) .unit))) (.pair (.sl (.int .i64)) .unit)))) .unit))))), (7, (.bx (.st (.pair (.v (.int .i64)) (.pair (.r (.st (.pair (.st (.pair (.int .i64) (.pair (.int .i64) .unit))) (.pair (.sl (.int .i64)) .unit)))) .unit))))), (8, (.v (.int .i64)))]
noncomputable def lv_w_FnExactFlipInstance_J16 : Lv := [(1, (.bx (.v (.st (.pair (.int .i64) (.pair (.sl (.st (.pair (.st (.pair (.int .i64) (.pair (.int .i64) .unit))) (.pair (.sl (.int .i64)) .unit)))) .unit)))))), (4, (.bx (.st (.pair (.v (.int .i64)) (.pair (.r (.st (.pair (.st (.pair (.int .i64) (.pair (.int .i64) .unit))) (.pair (.sl (.int .i64)) .unit)))) .unit))))), (5, (.v (.int .i64))), (7, (.bx (.st (.pair (.v (.int .i64)) (.pair (.r (.st (.pair (.st (.pair (.int .i64) (.pair (.int .i64) .unit))) (.pair (.sl (.int .i64)) .unit)))) .unit)))))]
noncomputable def lv_w_FnExactFlipInstance_J27 : Lv := [(7, (.bx (.st (.pair (.v (.int .i64)) (.pair (.r (.st (.pair (.st (.pair (.int .i64) (.pair (.int .i64) .unit))) (.pair (.sl (.int .i64)) .unit)))) .unit))))), (10, (.v (.int .i64)))]
noncomputable def lv_w_FnExactFlipInstance_N10 : Lv := []
noncomputable def lv_w_FnExactFlipInstance_N16 : Lv := []
noncomputable def lv_w_FnExactFlipInstance_N27 : Lv := []
noncomputable def rv_w_FnExactFlipInstance : Lv := [(2, (.v .bool))]
noncomputable def gw_FnExactFlipInstance_j27 {R : Type} (K : Nat) (k : Nat) (x : den lv_w_FnExactFlipInstance_J27.ty) (kn : den lv_w_FnExactFlipInstance_N27.ty → Option R) (kx : Nat → St → Option R) (kr : St → Option R) : Option R := w_FnExactFlipInstance_j27 K k x.1.1 x.1.2.1 x.2.1 (kn ()) (fun z0 => kr (mkSt rv_w_FnExactFlipInstance (z0, ())))
noncomputable def gw_FnExactFlipInstance_j16 {R : Type} (K : Nat) (k : Nat) (x : den lv_w_FnExactFlipInstance_J16.ty) (kn : den lv_w_FnExactFlipInstance_N16.ty → Option R) (kx : Nat → St → Option R) (kr : St → Option R) : Option R := w_FnExactFlipInstance_j16 K k x.1 x.2.1.1 x.2.1.2.1 x.2.2.1 x.2.2.2.1.1 x.2.2.2.1.2.1 (kn ()) (fun z0 => kr (mkSt rv_w_FnExactFlipInstance (z0, ())))
noncomputable def gw_FnExactFlipInstance_j10 {R : Type} (K : Nat) (k : Nat) (x : den lv_w_FnExactFlipInstance_J10.ty) (kn : den lv_w_FnExactFlipInstance_N10.ty → Option R) (kx : Nat → St → Option R) (kr : St → Option R) : Option R := w_FnExactFlipInstance_j10 K k x.1 x.2.1.1 x.2.1.2.1 x.2.2.1 x.2.2.2.1.1 x.2.2.2.1.2.1 x.2.2.2.2.1.1 x.2.2.2.2.1.2.1 x.2.2.2.2.2.1 (kn ()) (fun z0 => kr (mkSt rv_w_FnExactFlipInstance (z0, ())))
noncomputable def sg_w_FnExactFlipInstance {R : Type} (K : Nat) (k : Nat) : List (Nat × SegS R) := [(27, mkSeg lv_w_FnExactFlipInstance_J27 lv_w_FnExactFlipInstance_N27 (gw_FnExactFlipInstance_j27 K k)), (16, mkSeg lv_w_FnExactFlipInstance_J16 lv_w_FnExactFlipInstance_N16 (gw_FnExactFlipInstance_j16 K k)), (10, mkSeg lv_w_FnExactFlipInstance_J10 lv_w_FnExactFlipInstance_N10 (gw_FnExactFlipInstance_j10 K k))]
noncomputable def su_w_FnExactFlipInstance : List (Nat × Unit) := [(27, ()), (16, ()), (10, ())]
noncomputable def en_w_FnExactFlipInstance {R : Type} (K : Nat) (k : Nat) : Env R := { L := lk [], X := lk [], S := lk (sg_w_FnExactFlipInstance K k), rv := rv_w_FnExactFlipInstance }
noncomputable def cf_w_FnExactFlipInstance (K : Nat) : Cfg := { ty := lk tys, fn := lk [(20, sp_w_szInstance (w_szInstance K)), (22, sp_w_toInstance (w_toInstance K)), (24, sp_w_eqInstance (w_eqInstance K)), (32, sp_w_markInstance (w_markInstance K)), (39, sp_w_heldInstance (w_heldInstance K)), (40, sp_s_FlipInstance (s_FlipInstance K)), (41, sp_i_FlipInstance (i_FlipInstance K))], prot := 0, nt := Try.f10.ntmps }
noncomputable def c_w_FnExactFlipInstance_J10 : Code := nthC (partsOf (hasK su_w_FnExactFlipInstance) (bodyOf Try.f10)) 0
noncomputable def c_w_FnExactFlipInstance_J16 : Code := nthC (partsOf (hasK su_w_FnExactFlipInstance) c_w_FnExactFlipInstance_J10) 0
noncomputable def c_w_FnExactFlipInstance_J27 : Code := nthC (partsOf (hasK su_w_FnExactFlipInstance) c_w_FnExactFlipInstance_J16) 0
theorem ew_FnExactFlipInstance_j27 {R : Type} (K : Nat) (k : Nat) (x : den lv_w_FnExactFlipInstance_J27.ty) (kn : den lv_w_FnExactFlipInstance_N27.ty → Option R) (kx : Nat → St → Option R) (kr : St → Option R) : gw_FnExactFlipInstance_j27 K k x kn kx kr = evC (cf_w_FnExactFlipInstance K) (en_w_FnExactFlipInstance K k) c_w_FnExactFlipInstance_J27 (mkSt lv_w_FnExactFlipInstance_J27 x) (cutK lv_w_FnExactFlipInstance_N27 kn) kx kr := by kernel_rfl
theorem sw_FnExactFlipInstance_j27 {R : Type} (K : Nat) (C : Cx) (hP : C.P = Try.prog) (O : CfgOk C (cf_w_FnExactFlipInstance K)) (k : Nat) : SgS C (R := R) (mkSeg lv_w_FnExactFlipInstance_J27 lv_w_FnExactFlipInstance_N27 (gw_FnExactFlipInstance_j27 K k)) c_w_FnExactFlipInstance_J27 :=
  seg_sound O (by rw [hP]; kernel_rfl) (ew_FnExactFlipInstance_j27 K k) (lpOk_of (en := en_w_FnExactFlipInstance K k) (S := hasK su_w_FnExactFlipInstance) (fun i => hasK_lk (sg_w_FnExactFlipInstance K k) i) _ (by rw [show partsOf (hasK su_w_FnExactFlipInstance) c_w_FnExactFlipInstance_J27 = [] from by kernel_rfl]; exact trivial))
theorem ew_FnExactFlipInstance_j16 {R : Type} (K : Nat) (k : Nat) (x : den lv_w_FnExactFlipInstance_J16.ty) (kn : den lv_w_FnExactFlipInstance_N16.ty → Option R) (kx : Nat → St → Option R) (kr : St → Option R) : gw_FnExactFlipInstance_j16 K k x kn kx kr = evC (cf_w_FnExactFlipInstance K) (en_w_FnExactFlipInstance K k) c_w_FnExactFlipInstance_J16 (mkSt lv_w_FnExactFlipInstance_J16 x) (cutK lv_w_FnExactFlipInstance_N16 kn) kx kr := by kernel_rfl
theorem sw_FnExactFlipInstance_j16 {R : Type} (K : Nat) (C : Cx) (hP : C.P = Try.prog) (O : CfgOk C (cf_w_FnExactFlipInstance K)) (k : Nat) : SgS C (R := R) (mkSeg lv_w_FnExactFlipInstance_J16 lv_w_FnExactFlipInstance_N16 (gw_FnExactFlipInstance_j16 K k)) c_w_FnExactFlipInstance_J16 :=
  seg_sound O (by rw [hP]; kernel_rfl) (ew_FnExactFlipInstance_j16 K k) (lpOk_of (en := en_w_FnExactFlipInstance K k) (S := hasK su_w_FnExactFlipInstance) (fun i => hasK_lk (sg_w_FnExactFlipInstance K k) i) _ (by rw [show partsOf (hasK su_w_FnExactFlipInstance) c_w_FnExactFlipInstance_J16 = [(false, c_w_FnExactFlipInstance_J27)] from by kernel_rfl]; exact (lpL_seg (f := mkSeg lv_w_FnExactFlipInstance_J27 lv_w_FnExactFlipInstance_N27 (gw_FnExactFlipInstance_j27 K k)) (by kernel_rfl) (sw_FnExactFlipInstance_j27 K C hP O k) trivial)))
theorem ew_FnExactFlipInstance_j10 {R : Type} (K : Nat) (k : Nat) (x : den lv_w_FnExactFlipInstance_J10.ty) (kn : den lv_w_FnExactFlipInstance_N10.ty → Option R) (kx : Nat → St → Option R) (kr : St → Option R) : gw_FnExactFlipInstance_j10 K k x kn kx kr = evC (cf_w_FnExactFlipInstance K) (en_w_FnExactFlipInstance K k) c_w_FnExactFlipInstance_J10 (mkSt lv_w_FnExactFlipInstance_J10 x) (cutK lv_w_FnExactFlipInstance_N10 kn) kx kr := by kernel_rfl
theorem sw_FnExactFlipInstance_j10 {R : Type} (K : Nat) (C : Cx) (hP : C.P = Try.prog) (O : CfgOk C (cf_w_FnExactFlipInstance K)) (k : Nat) : SgS C (R := R) (mkSeg lv_w_FnExactFlipInstance_J10 lv_w_FnExactFlipInstance_N10 (gw_FnExactFlipInstance_j10 K k)) c_w_FnExactFlipInstance_J10 :=
  seg_sound O (by rw [hP]; kernel_rfl) (ew_FnExactFlipInstance_j10 K k) (lpOk_of (en := en_w_FnExactFlipInstance K k) (S := hasK su_w_FnExactFlipInstance) (fun i => hasK_lk (sg_w_FnExactFlipInstance K k) i) _ (by rw [show partsOf (hasK su_w_FnExactFlipInstance) c_w_FnExactFlipInstance_J10 = [(false, c_w_FnExactFlipInstance_J16)] from by kernel_rfl]; exact (lpL_seg (f := mkSeg lv_w_FnExactFlipInstance_J16 lv_w_FnExactFlipInstance_N16 (gw_FnExactFlipInstance_j16 K k)) (by kernel_rfl) (sw_FnExactFlipInstance_j16 K C hP O k) trivial)))
theorem e_w_FnExactFlipInstance (K : Nat) (x : den as_w_FnExactFlipInstance) : w_FnExactFlipInstance K x = evFn (cf_w_FnExactFlipInstance K) as_w_FnExactFlipInstance [false] .bool (en_w_FnExactFlipInstance K K) Try.f10.results.toList (bodyOf Try.f10) x := by kernel_rfl
theorem ok_w_FnExactFlipInstance (K : Nat) : FnOk Try.prog 10 (sp_w_FnExactFlipInstance (w_FnExactFlipInstance K)) :=
  fn_ok (cf := cf_w_FnExactFlipInstance K) (en := en_w_FnExactFlipInstance K K) (c := bodyOf Try.f10) Try.func10 (by kernel_rfl) (by kernel_rfl) tysOk (fns_ok (l := [(20, sp_w_szInstance (w_szInstance K)), (22, sp_w_toInstance (w_toInstance K)), (24, sp_w_eqInstance (w_eqInstance K)), (32, sp_w_markInstance (w_markInstance K)), (39, sp_w_heldInstance (w_heldInstance K)), (40, sp_s_FlipInstance (s_FlipInstance K)), (41, sp_i_FlipInstance (i_FlipInstance K))]) ⟨ok_w_szInstance K, ⟨ok_w_toInstance K, ⟨ok_w_eqInstance K, ⟨ok_w_markInstance K, ⟨ok_w_heldInstance K, ⟨ok_s_FlipInstance K, ⟨ok_i_FlipInstance K, trivial⟩⟩⟩⟩⟩⟩⟩) (by kernel_rfl) rfl (Nat.le_of_ble_eq_true (by kernel_rfl)) (by kernel_rfl) (of_decide_eq_true (by kernel_rfl)) (by decide) (fun C hP O => lpOk_of (en := en_w_FnExactFlipInstance K K) (S := hasK su_w_FnExactFlipInstance) (fun i => hasK_lk (sg_w_FnExactFlipInstance K K) i) _ (by rw [show partsOf (hasK su_w_FnExactFlipInstance) (bodyOf Try.f10) = [(false, c_w_FnExactFlipInstance_J10)] from by kernel_rfl]; exact (lpL_seg (f := mkSeg lv_w_FnExactFlipInstance_J10 lv_w_FnExactFlipInstance_N10 (gw_FnExactFlipInstance_j10 K K)) (by kernel_rfl) (sw_FnExactFlipInstance_j10 K C hP O K) trivial))) (fun x y h => by rw [← e_w_FnExactFlipInstance]; exact h)
end Go.Proofs.Ytieiajeggahipaa.E
namespace Go.Proofs.Ytieiajeggahipaa.E
open Go Go.Proofs
set_option linter.unusedVariables false
set_option linter.unusedSimpArgs false
variable {K : Nat} {R : Type}
theorem shl_b1 {b : Bool} {n : Nat} (hn : n < 62) : shlI .i64 (if b = true then 1 else 0) (n : Int) = ((dg b n : Nat) : Int) := by
  unfold dg
  cases b
  · have := shlI_n 0 n (by simp)
    simpa using this
  · rw [if_pos rfl, if_pos rfl, shl1 (by omega)]
theorem funcBy_l (g : Nat → Bool) (f : Int × Unit → Option Int) (N : Nat) (hN : N ≤ 16) (hf : ∀ j : Nat, j < N → f ((j : Int), ()) = some (if g j = true then 1 else 0)) (v4 : DF) (a : Int) (kx : DF → DF → Option R) : ∀ (m i k : Nat), i + m = N → m < k →
    i_funcBy_l3 K k f v4 (a, ((mkB g i : Nat) : Int), ()) (N : Int) (i : Int) kx = kx v4 (a, ((mkB g N : Nat) : Int), ())
  | 0, i, k + 1, e, _ => by
    obtain rfl : i = N := by omega
    simp only [i_funcBy_l3]; rw [ite_f (decide_eq_false (by omega))]
  | m + 1, i, k + 1, e, hk => by
    have ih := funcBy_l g f N hN hf v4 a kx m (i + 1) k (by omega) (by omega)
    rw [mkB_succ] at ih
    simp only [i_funcBy_l3]
    rw [ite_t (decide_eq_true (by omega)), hf i (by omega), some_bind', ite_t (nn _), shl_b1 (by omega), or_dg (mkB_lt _ _) (by omega), w64s (by omega), ih]
theorem i_funcBy_eq (g : Nat → Bool) {f : Int × Unit → Option Int} {n : Nat} (hn : n ≤ 4) (hf : ∀ j : Nat, j < 2 ^ n → f ((j : Int), ()) = some (if g j = true then 1 else 0)) (hK : 4611686018427387904 ≤ K) : i_funcBy K ((n : Int), f, ()) = some ((n : Int), ((mkB g (2 ^ n) : Nat) : Int), ()) := by
  have hp := pw4 hn
  simp only [i_funcBy, i_rowsOf_eq (show n < 63 by omega), some_bind']
  have := funcBy_l (K := K) g f (2 ^ n) hp hf ((0 : Int), (0 : Int), ()) (n : Int) (fun z3 z4 => some z4) (2 ^ n) 0 K (by omega) (by omega)
  simp only [mkB] at this
  rw [show ((0 : Nat) : Int) = 0 from rfl] at this
  exact this
theorem i_relationBy_eq (g : Nat → Bool) {f : Int × Unit → Option Bool} {n : Nat} (hn : n ≤ 4) (hf : ∀ j : Nat, j < 2 ^ n → f ((j : Int), ()) = some (g j)) (hK : 4611686018427387904 ≤ K) : i_relationBy K ((n : Int), f, ()) = some ((n : Int), ((mkB g (2 ^ n) : Nat) : Int), ()) := by
  simp only [i_relationBy]
  rw [i_funcBy_eq g hn (fun j hj => by simp only [i_relationBy_c1, hf j hj, some_bind', i_one_eq]) hK, some_bind']
/-! flipped relations -/
theorem mkB_set {g : Nat → Bool} {p : Nat} (hp : g p = false) : ∀ {N : Nat}, p < N → mkB (fun q => decide (q = p) || g q) N = mkB g N + 2 ^ p
  | N + 1, h => by
    rw [mkB_succ, mkB_succ]
    by_cases e : p = N
    · subst e
      rw [hp, mkB_congr (h := g) (fun j hj => by rw [decide_eq_false (by omega)]; rfl)]
      simp [dg]
    · rw [mkB_set hp (show p < N by omega), decide_eq_false (fun h => e h.symm), Bool.false_or]; omega
def flipB (B N : Nat) : Nat := mkB (fun q => B.testBit (N - 1 - q)) N
def flipC (c : DC) : DC := ((c.1.1, ((flipB c.1.2.1.toNat (2 ^ c.1.1.toNat) : Nat) : Int), ()), c.2.1, ())
theorem s_flip_l (n B N : Nat) (hN : N ≤ 16) (hB : B < 9223372036854775808) (v2 : DF) (kx : DF → DF → Option R) : ∀ (m i k : Nat), i + m = N → m < k →
    s_l09Flip_l3 K k ((n : Int), (B : Int), ()) v2 ((n : Int), ((mkB (fun q => decide (N - 1 - q < i) && B.testBit (N - 1 - q)) N : Nat) : Int), ()) (N : Int) (i : Int) kx = kx v2 ((n : Int), ((flipB B N : Nat) : Int), ())
  | 0, i, k + 1, e, _ => by
    simp only [s_l09Flip_l3]; rw [ite_f (decide_eq_false (by omega)), flipB]
    rw [mkB_congr (h := fun q => B.testBit (N - 1 - q)) (fun j hj => by rw [decide_eq_true (by omega)]; rfl)]
  | m + 1, i, k + 1, e, hk => by
    have ih := s_flip_l n B N hN hB v2 kx m (i + 1) k (by omega) (by omega)
    have hlt := mkB_lt (fun q => decide (N - 1 - q < i) && B.testBit (N - 1 - q)) N
    have h16 : 2 ^ N ≤ 65536 := Nat.pow_le_pow_right (by decide) hN
    simp only [s_l09Flip_l3]
    rw [ite_t (decide_eq_true (by omega)), s_l09Has_eq hB (by omega), some_bind', w64s (by omega)]
    cases hb : B.testBit i
    · rw [if_neg (by decide), ← ih]
      congr 4
      rw [mkB_congr fun j hj => ?_]
      by_cases h : N - 1 - j = i
      · rw [h, hb]; simp
      · congr 1; apply decide_eq_decide.2; omega
    · have hx : IntKind.i64.wrap (IntKind.i64.wrap ((N : Int) - 1) - (i : Int)) = ((N - 1 - i : Nat) : Int) := by rw [w64 (x := (N : Int) - 1) (by omega) (by omega), w64 (by omega) (by omega)]; omega
      have h2 : 2 ^ (N - 1 - i) ≤ 65536 := Nat.le_trans (Nat.pow_le_pow_right (by decide) (by omega)) h16
      have hpp := pw_pos (N - 1 - i)
      have hset := mkB_set (g := fun q => decide (N - 1 - q < i) && B.testBit (N - 1 - q)) (p := N - 1 - i) (by
        show (decide (N - 1 - (N - 1 - i) < i) && _) = false
        rw [decide_eq_false (by omega)]; rfl) (N := N) (by omega)
      have he : mkB (fun q => decide (N - 1 - q < i + 1) && B.testBit (N - 1 - q)) N = mkB (fun q => decide (N - 1 - q < i) && B.testBit (N - 1 - q)) N + 2 ^ (N - 1 - i) := by
        rw [← hset]
        refine mkB_congr fun j hj => ?_
        by_cases h : N - 1 - j = i
        · rw [h, hb, decide_eq_true (show j = N - 1 - i by omega)]; simp
        · rw [decide_eq_false (show ¬ j = N - 1 - i by omega), Bool.false_or]; congr 1; apply decide_eq_decide.2; omega
      have hcast : IntKind.i64.wrap (((mkB (fun q => decide (N - 1 - q < i) && B.testBit (N - 1 - q)) N : Nat) : Int) + ((2 ^ (N - 1 - i) : Nat) : Int)) = ((mkB (fun q => decide (N - 1 - q < i + 1) && B.testBit (N - 1 - q)) N : Nat) : Int) := by rw [w64 (by omega) (by omega), he]; rfl
      rw [if_pos rfl, hx, ite_t (u64_dec _), u64n (by omega), shl1 (by omega), hcast, ← ih]
theorem s_l09Flip_eq {n B : Nat} (hn : n ≤ 4) (hB : B < 9223372036854775808) (hK : 4611686018427387904 ≤ K) : s_l09Flip K (((n : Int), (B : Int), ()), ()) = some ((n : Int), ((flipB B (2 ^ n) : Nat) : Int), ()) := by
  have hp := pw4 hn
  simp only [s_l09Flip, s_l01Rows_eq (show n < 63 by omega), some_bind']
  have := s_flip_l (K := K) n B (2 ^ n) hp hB ((0 : Int), (0 : Int), ()) (fun z5 z6 => some z6) (2 ^ n) 0 K (by omega) (by omega)
  rw [mkB_congr (h := fun _ => false) (fun j hj => by rw [decide_eq_false (by omega)]; rfl), show mkB (fun _ => false) (2 ^ n) = 0 from by
    have key : ∀ N, mkB (fun _ => false) N = 0 := fun N => by induction N with | zero => rfl | succ N ih => rw [mkB_succ, ih]; rfl
    exact key _] at this
  exact this
theorem fl_mid (x1 : Int) (l : List DC) (h : ∀ c ∈ l, okC x1 c = true) (hx : x1 ≤ 8) (hl : l.length < 1000000000) (hK : 4611686018427387904 ≤ K) (v20 : Int) (v21 : List DC) (v40 : Int) (kx : Int → List DC → Int → List DC → Option R) : ∀ (r p : List DC) (k : Nat), l = p ++ r → r.length < k →
    i_FlipInstance_l5 K k v20 v21 v40 (p.map flipC ++ r) (l.length : Int) (p.length : Int) kx = kx v20 v21 v40 (l.map flipC)
  | [], p, k + 1, e, _ => by
    simp only [i_FlipInstance_l5]; rw [ite_f (decide_eq_false (by rw [e]; simp)), e]; simp
  | c :: r, p, k + 1, e, hk => by
    have ih := fl_mid x1 l h hx hl hK v20 v21 v40 kx r (p ++ [c]) k (by rw [e, mid_app]) (by simp at hk; omega)
    rw [snoc_len, List.map_append, List.append_assoc] at ih
    have hc := h c (by rw [e]; simp)
    obtain ⟨_, _, hF⟩ := okC_v hc hx
    obtain ⟨n, B, e1, hn, hB, _⟩ := isF_nat hF (by decide)
    have hp := pw4 hn
    have hq := pw_pos n
    have hBl := bits_lt hn hB
    have hlen : p.length < l.length := by rw [e]; simp
    have hg := getD_midI (p.map flipC) r c (((0 : Int), (0 : Int), ()), ([] : List Int), ())
    have hs := set_midI (p.map flipC) r c (flipC c)
    rw [List.length_map] at hg hs
    have hb : bnds (p.length : Int) ((p.map flipC ++ c :: r).length : Int) = true := bnds_n (by simp)
    have hrb := i_relationBy_eq (K := K) (fun q => B.testBit (2 ^ n - 1 - q)) (f := fun y7 => i_FlipInstance_c1 K (y7.1, (c.1, c.2.1, ()), IntKind.i64.wrap (((2 ^ n : Nat) : Int) - 1), ())) hn (fun j hj => by
      have e2 : IntKind.i64.wrap (IntKind.i64.wrap (((2 ^ n : Nat) : Int) - 1) - (j : Int)) = ((2 ^ n - 1 - j : Nat) : Int) := by rw [w64 (x := ((2 ^ n : Nat) : Int) - 1) (by omega) (by omega), w64 (by omega) (by omega)]; omega
      simp only [i_FlipInstance_c1, e2]
      rw [e1, i_Relation_has_eq _ hBl, some_bind']) hK
    have hfc : flipC c = (((n : Int), ((mkB (fun q => B.testBit (2 ^ n - 1 - q)) (2 ^ n) : Nat) : Int), ()), c.2.1, ()) := by rw [flipC, e1]; rfl
    simp only [i_FlipInstance_l5]
    rw [ite_t (decide_eq_true (by omega)), ite_t hb, hg, show c.1.1 = (n : Int) from by rw [e1], i_rowsOf_eq (by omega), some_bind', hrb, some_bind', ite_t hb, ← hfc, hs, w64s (by omega)]
    exact ih
theorem fl_mid_s (x1 : Int) (l : List DC) (h : ∀ c ∈ l, okC x1 c = true) (hx : x1 ≤ 8) (hl : l.length < 1000000000) (hK : 4611686018427387904 ≤ K) (v20 : Int) (v21 : List DC) (v40 : Int) (kx : Int → List DC → Int → List DC → Option R) : ∀ (r p : List DC) (k : Nat), l = p ++ r → r.length < k →
    s_FlipInstance_l5 K k v20 v21 v40 (p.map flipC ++ r) (p.length : Int) kx = kx v20 v21 v40 (l.map flipC)
  | [], p, k + 1, e, _ => by
    simp only [s_FlipInstance_l5]; rw [ite_f (decide_eq_false (by simp)), e]; simp
  | c :: r, p, k + 1, e, hk => by
    have ih := fl_mid_s x1 l h hx hl hK v20 v21 v40 kx r (p ++ [c]) k (by rw [e, mid_app]) (by simp at hk; omega)
    rw [snoc_len, List.map_append, List.append_assoc] at ih
    have hc := h c (by rw [e]; simp)
    obtain ⟨_, _, hF⟩ := okC_v hc hx
    obtain ⟨n, B, e1, hn, hB, _⟩ := isF_nat hF (by decide)
    have hBl := bits_lt hn hB
    have hlen : p.length < l.length := by rw [e]; simp
    have hg := getD_midI (p.map flipC) r c (((0 : Int), (0 : Int), ()), ([] : List Int), ())
    have hs := set_midI (p.map flipC) r c (flipC c)
    rw [List.length_map] at hg hs
    have hb : bnds (p.length : Int) ((p.map flipC ++ c :: r).length : Int) = true := bnds_n (by simp)
    have hfc : flipC c = (((n : Int), ((flipB B (2 ^ n) : Nat) : Int), ()), c.2.1, ()) := by rw [flipC, e1]; rfl
    simp only [s_FlipInstance_l5]
    rw [ite_t (decide_eq_true (by simp; omega)), ite_t hb, hg, show s_l09Flip K (c.1, ()) = some ((n : Int), ((flipB B (2 ^ n) : Nat) : Int), ()) from by rw [e1]; exact s_l09Flip_eq hn hBl hK, some_bind', ite_t hb, ← hfc, hs, w64s (by omega)]
    exact ih
def flipX (x : DX) : DX × Int × Unit := if okX x = true then ((x.1, x.2.1.map flipC, ()), 0, ()) else ((0, [], ()), 1, ())
theorem i_FlipInstance_eq {x : DX} (hx : shX x) (hK : 9223372036854775808 ≤ K) : i_FlipInstance K (x, ()) = some (flipX x) := by
  have hK2 : 4611686018427387904 ≤ K := by omega
  simp only [i_FlipInstance, i_IsInstance_eq hx hK2, some_bind', flipX]
  cases h : okX x
  · rfl
  · obtain ⟨h1, h2, h3, h4⟩ := okX_h h
    obtain ⟨c1, c2⟩ := okX_cp h
    rw [if_neg (by decide), if_pos rfl, i_copied_eq (by omega) (fun c hc => by have := c2 c hc; omega) hK2, some_bind']
    have := fl_mid (K := K) x.1 x.2.1 h4 h2 (by omega) hK2 (0 : Int) [] x.1 (fun z9 z10 z11 z12 => some ((z11, z12, ()), (0 : Int), ())) x.2.1 [] K rfl (by omega)
    exact this
theorem s_FlipInstance_eq {x : DX} (hx : shX x) (hK : 9223372036854775808 ≤ K) : s_FlipInstance K (x, ()) = some (flipX x) := by
  have hK2 : 4611686018427387904 ≤ K := by omega
  simp only [s_FlipInstance, s_l09Is_eq hx hK, some_bind', flipX]
  cases h : okX x
  · rfl
  · obtain ⟨h1, h2, h3, h4⟩ := okX_h h
    obtain ⟨c1, c2⟩ := okX_cp h
    rw [if_neg (by decide), if_pos rfl, s_l09Copy_eq (by omega) (fun c hc => by have := c2 c hc; omega) hK2, some_bind']
    have := fl_mid_s (K := K) x.1 x.2.1 h4 h2 (by omega) hK2 (0 : Int) [] x.1 (fun z9 z10 z11 z12 => some ((z11, z12, ()), (0 : Int), ())) x.2.1 [] K rfl (by omega)
    exact this
theorem flipX_sm {x : DX} : smX (flipX x).1 := by
  unfold flipX
  cases h : okX x
  · unfold smX; simp [lenC]
  · obtain ⟨h3, h4⟩ := okX_cp h
    rw [if_pos rfl]
    have key : ∀ l : List DC, (∀ c ∈ l, c.2.1.length ≤ 4) → lenC (l.map flipC) ≤ 4 * l.length := by
      intro l
      induction l with
      | nil => intro _; simp [lenC]
      | cons c l ih => intro hc; have := ih (fun d hd => hc d (by simp [hd])); have := hc c (by simp); simp only [List.map_cons, lenC, List.length_cons, flipC]; omega
    have := key x.2.1 h4
    unfold smX
    simp only [List.length_map]
    omega
theorem law_FlipInstance (hK : 9223372036854775808 ≤ K) {x : DX} (hx : okD TX x) : w_FnExactFlipInstance K (x, ()) = some true := by
  have hK2 : 4611686018427387904 ≤ K := by omega
  simp only [w_FnExactFlipInstance]
  refine sz_guard hx hK2 _ (fun hs y hy => ?_) (fun y hy => by rw [ite_t (decide_eq_true hy)])
  have hsh := smX_sh hs
  rw [ite_f (decide_eq_false hy)]
  obtain ⟨q, hq, hi, hp⟩ : ∃ q : DX × Int × Unit, smX q.1 ∧ i_FlipInstance K (x, ()) = some q ∧ s_FlipInstance K (x, ()) = some q := ⟨_, flipX_sm, i_FlipInstance_eq hsh hK, s_FlipInstance_eq hsh hK⟩
  have h3 := smX_eq hq hK2
  have h1 := smX_mark hq hK2
  have h2 : w_heldInstance K ((q.1.1, markC q.1.2.1 1, ()), (1 : Int), ()) = some (1 + (szC q.1.2.1 : Int)) := w_heldInstance_eq hK2 (by decide) (by have := (smX_h hq).2.2; omega)
  simp only [smX_to hs hK2, hi, hp, h3, some_bind', w_FnExactFlipInstance_j10, w_FnExactFlipInstance_j16, w_FnExactFlipInstance_j27, smX_to hs hK2, smX_eq hs hK2, smX_mark hs hK2, mark_pos, h1, h2, decide_true, Bool.not_true, Bool.false_eq_true, if_false]
end Go.Proofs.Ytieiajeggahipaa.E
namespace Go.Proofs.Ytieiajeggahipaa.E
open Go Go.Proofs
/-- FnExactFlipInstance, in plain numbers and lists: no condition but what is known of all data. -/
theorem PuFnExactFlipInstance (x : den as_w_FnExactFlipInstance) (h : okD as_w_FnExactFlipInstance x) : ∃ K, w_FnExactFlipInstance K x = some true := by
  obtain ⟨x, u⟩ := x
  exact ⟨9223372036854775808, law_FlipInstance (Nat.le_refl _) h.1⟩
end Go.Proofs.Ytieiajeggahipaa.E
