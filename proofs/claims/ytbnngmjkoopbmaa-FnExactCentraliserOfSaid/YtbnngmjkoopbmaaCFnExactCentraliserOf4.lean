/-
  What the Go functions that FnExactCentraliserOf reaches hand back, each as a plain function with a proof that the call does so, and plain lemmas on them; conditions: those of each theorem. Here: PLp, laws markFuncS, laws heldFuncS, PLq, D2, laws FnExactCentraliserOf, QFnExactCentraliserOf, PuFnExactCentraliserOf.
-/
import Derived.Test.YtbnngmjkoopbmaaProg
import Derived.Below
import Derived.Deep.Draws
import Derived.Deep.AppendLies
import Derived.Maps.AppendAt
import Derived.OwnWalk
import Derived.Laws.BytesArg
import Derived.Laws.MakeOwn
import Derived.Laws.OwnMore
import Derived.Deep.OwnRows
import Derived.Tactics
import Derived.Lib.ConvBytes
import Derived.Laws.Slices
import Derived.WalkKit
import Derived.KernelRfl
import Derived.RowKit3
import Derived.Deep.LoopGhost
import Derived.Deep.QuietTactic
import Derived.BigQuiet
import Derived.WideLaws
import Derived.Deep.DeepCutAuto
import Derived.Deep.CutBlock
import Derived.Deep.RegionHeld3
import Derived.Laws.Rows
import Derived.Lib.AppendStr
import Derived.ArgAppend
import Derived.Laws.IdiomCopy
import Derived.OrdersHeld
import Derived.Laws.BitsLemmas
import Derived.RowKit
import Derived.Test.YtbnngmjkoopbmaaWWords
import Derived.Test.YtbnngmjkoopbmaaWLast
import Derived.Test.YtbnngmjkoopbmaaWTab
import Derived.Test.YtbnngmjkoopbmaaWFour
import Derived.Test.YtbnngmjkoopbmaaWQPut
import Derived.Test.YtbnngmjkoopbmaaWApart
import Derived.Test.YtbnngmjkoopbmaaWArr
import Derived.Test.YtbnngmjkoopbmaaWZeros
import Derived.Test.YtbnngmjkoopbmaaWFoot
import Derived.Test.YtbnngmjkoopbmaaWKept
import Derived.Test.YtbnngmjkoopbmaaWShare
import Derived.Test.YtbnngmjkoopbmaaWN
import Derived.Test.YtbnngmjkoopbmaaWFootNe
import Derived.Test.YtbnngmjkoopbmaaWAt
import Derived.Test.YtbnngmjkoopbmaaWEqStruct
import Derived.Test.YtbnngmjkoopbmaaWRepsOne
import Derived.Test.YtbnngmjkoopbmaaWInv
import Derived.Test.YtbnngmjkoopbmaaWInvWords
import Derived.Test.YtbnngmjkoopbmaaWGuard
import Derived.Test.YtbnngmjkoopbmaaWNEv
import Derived.Test.YtbnngmjkoopbmaaWMore
import Derived.Shelf.Abstract
import Derived.ProofKit
import Derived.OpenShut
import Derived.ShutString
import Derived.ChangeOld
import Derived.SizedLaws
import Derived.Deep.Slices
import Derived.DataReads
import Derived.Test.YtbnngmjkoopbmaaCFnExactCentraliserOf0
import Derived.Test.YtbnngmjkoopbmaaCFnExactCentraliserOf2
import Derived.Test.YtbnngmjkoopbmaaCFnExactCentraliserOf3
namespace Go.Proofs.Ytbnngmjkoopbmaa.D
open Go.RowKit Go.Proofs.YtbnngmjkoopbmaaW.PrintWords Go.Proofs.YtbnngmjkoopbmaaW.PrintLast Go.Proofs.YtbnngmjkoopbmaaW.PrintMore
set_option linter.unusedVariables false
set_option linter.unusedSimpArgs false
section
/-- The functions of n arguments that are so. -/
def selS (q : Nat → Bool) (n : Int) : Nat → Nat → List S26
  | _, 0 => []
  | i, d + 1 => if q i = true then ⟨n, i⟩ :: selS q n (i + 1) d else selS q n (i + 1) d
theorem selS_len (q : Nat → Bool) (n : Int) (d : Nat) : ∀ i, (selS q n i d).length ≤ d := by
  induction d with
  | zero => intro i; simp [selS]
  | succ d ih =>
    intro i
    have := ih (i + 1)
    simp only [selS]
    split <;> simp <;> omega
theorem thatO_ev (P : Nat → Int → Int → Option Bool) (q : Nat → Bool) (n : Int) (d : Nat) : ∀ (i : Nat) (acc : List S26), acc.length + d ≤ 1048576 → (∀ j : Nat, i ≤ j → j < i + d → Ev (fun k => P k n j) (q j)) → Ev (fun k => thatO (P k) n d i acc) (acc ++ selS q n i d) := by
  induction d with
  | zero => intro i acc _ _; simp only [thatO, selS, List.append_nil]; exact Ev.const _
  | succ d ih =>
    intro i acc ha h
    simp only [thatO, selS]
    refine Ev.bind (h i (by omega) (by omega)) ?_
    simp only [if_pos (show acc.length < 8796093022208 by omega), icast1]
    cases q i with
    | true =>
      simp only [if_true]
      have := ih (i + 1) (acc ++ [⟨n, i⟩]) (by simp; omega) fun j h1 h2 => h j (by omega) (by omega)
      rwa [List.append_assoc, List.singleton_append] at this
    | false =>
      simp only [Bool.false_eq_true, if_false]
      exact ih (i + 1) acc (by omega) fun j h1 h2 => h j (by omega) (by omega)
theorem isFS_mk (n b : Nat) (hn : n ≤ 4) (hb : b < pw (pw n)) : isFS ⟨(n : Int), (b : Int)⟩ = true := isF_mk n b hn hb
/-- The centraliser of a list. -/
def cenL (n : Nat) (l : List S26) : List S26 := selS (fun b => l.all (comF ⟨(n : Int), (b : Int)⟩)) n 0 (pw (pw n))
theorem pp3 {n : Nat} (hn : n ≤ 3) : pw (pw n) ≤ 256 := Nat.le_trans (pw_mono (pw_mono hn)) (by decide)
theorem cenL_len (n : Nat) (hn : n ≤ 3) (l : List S26) : (cenL n l).length ≤ 256 := Nat.le_trans (selS_len _ _ _ _) (pp3 hn)
theorem impl_cen_that (n : Nat) (hn : n ≤ 3) (l : List S26) (hl : ∀ y ∈ l, isFS y = true) : Ev (fun k => impl_funcsThat__CentraliserOf_1.f k n l) (cenL n l) := by
  unfold impl_funcsThat__CentraliserOf_1.f funcsThatO cenL
  simp only [impl_funcsOf_nat n (show n ≤ 5 by omega), Option.bind_some, Int.toNat_natCast]
  have hp := pp3 hn
  refine thatO_ev (fun k x y => impl_CentraliserOf_1.f k x y l) _ n (pw (pw n)) 0 [] (by simp; omega) fun b _ hb => ?_
  have hb2 : isFS ⟨(n : Int), (b : Int)⟩ = true := isFS_mk n b (by omega) (by omega)
  unfold impl_CentraliserOf_1.f impl_allAre__CentraliserOf_1_1.f
  refine Ev.bind (g := fun k t => some t) (t := l.all (comF ⟨(n : Int), (b : Int)⟩)) ?_ (Ev.const _)
  rw [← any_not_all]
  refine notO_ev (anyO_ev _ _ _ fun y hy => notO_ev ?_)
  unfold impl_CentraliserOf_1_1.f
  exact Ev.bind (g := fun k t => some t) (impl_comF_ev hb2 (hl y hy)) (Ev.const _)
/-- The centraliser and the code. -/
def cenA (a : Int) (l : List S26) : List S26 × Int := if codeL l = 0 then (if 0 ≤ a ∧ a ≤ 3 then (cenL a.toNat l, 0) else ([], 2)) else ([], codeL l)
theorem impl_cen_ev (a : Int) (l : List S26) : Ev (fun k => impl_CentraliserOf.f k l a) (cenA a l) := by
  unfold impl_CentraliserOf.f cenA
  simp only [impl_listCode_eq, Option.bind_some]
  by_cases h : codeL l = 0
  · simp only [if_pos h, impl_within_eq, Option.bind_some, decide_eq_true_eq]
    by_cases h2 : 0 ≤ a ∧ a ≤ 3
    · simp only [if_pos h2]
      obtain ⟨n, rfl⟩ := Int.eq_ofNat_of_zero_le h2.1
      exact Ev.bind (g := fun k t => some (t, 0)) (impl_cen_that n (by omega) l (codeL_0 h).1) (Ev.const _)
    · simp only [if_neg h2]; exact Ev.const _
  · simp only [if_neg h]; exact Ev.const _
theorem spec_cen_l1 (n b : Nat) (hn : n ≤ 3) (hb : b < pw (pw n)) (l out : List S26) (hl : ∀ y ∈ l, isFS y = true) (h8 : l.length ≤ 8) (ho : out.length ≤ 256) (R : List S26 × Int) (d : Nat) : ∀ (j : Nat) (c : Bool), j + d = l.length →
    Ev (fun k => if (c && (l.drop j).all (comF ⟨(n : Int), (b : Int)⟩)) = true then spec_CentraliserOf.l0 k l n (out ++ [⟨(n : Int), (b : Int)⟩]) ((b + 1 : Nat)) else spec_CentraliserOf.l0 k l n out ((b + 1 : Nat))) R →
    Ev (fun k => spec_CentraliserOf.l1 k l n out b c j n b) R := by
  have hp := pp3 hn
  induction d with
  | zero =>
    intro j c hj hc
    refine Ev.step (fun k => ?_) hc
    simp only [spec_CentraliserOf.l1]
    rw [if_neg (by omega), List.drop_eq_nil_of_le (by omega), wrap64_id ((b : Int) + 1) (by omega) (by omega), icast1 b]
    simp only [List.all_nil, Bool.and_true, if_pos (show out.length < 8796093022208 by omega)]
  | succ d ih =>
    intro j c hj hc
    cases c with
    | false =>
      refine Ev.step (fun k => ?_) hc
      simp only [spec_CentraliserOf.l1]
      rw [if_pos (by omega), wrap64_id ((b : Int) + 1) (by omega) (by omega), icast1 b]
      simp
    | true =>
      rw [List.drop_eq_getElem_cons (by omega)] at hc
      simp only [List.all_cons, Bool.true_and] at hc
      refine Ev.step (y := fun k => (spec_l10Commute.f k n b (rd_T26 l j).f0 (rd_T26 l j).f1).bind fun t => spec_CentraliserOf.l1 k l n out b t ((j + 1 : Nat)) n b) (fun k => ?_) ?_
      · simp only [spec_CentraliserOf.l1]
        rw [if_pos (by omega)]
        simp only [if_true]
        rw [if_pos (by omega), icast1, wrap64_nat _ (by omega)]
      · refine Ev.bind (spec_comF_ev (isFS_mk n b (by omega) hb) (isFS_rd hl (by omega))) ?_
        rw [rd_at (by omega)]
        exact ih (j + 1) _ (by omega) hc
theorem spec_cen_l0 (n : Nat) (hn : n ≤ 3) (l : List S26) (hl : ∀ y ∈ l, isFS y = true) (h8 : l.length ≤ 8) (d : Nat) : ∀ (b : Nat) (out : List S26), b + d = pw (pw n) → out.length + d ≤ 256 →
    Ev (fun k => spec_CentraliserOf.l0 k l n out b) (out ++ selS (fun b => l.all (comF ⟨(n : Int), (b : Int)⟩)) n b d, (0 : Int)) := by
  have hp := pp3 hn
  induction d with
  | zero =>
    intro b out hb ho
    refine Ev.step (y := fun _ => some (out, (0 : Int))) (fun k => ?_) ?_
    · simp only [spec_CentraliserOf.l0]
      rw [spec_l01All_nat n (by omega)]
      simp only [Option.bind_some]
      rw [if_neg (by omega)]
    · simp only [selS, List.append_nil]; exact Ev.const _
  | succ d ih =>
    intro b out hb ho
    refine Ev.step (y := fun k => spec_CentraliserOf.l1 k l n out b true ((0 : Nat) : Int) n b) (fun k => ?_) ?_
    · simp only [spec_CentraliserOf.l0]
      rw [spec_l01All_nat n (by omega)]
      simp only [Option.bind_some]
      rw [if_pos (by omega)]
      rfl
    · refine spec_cen_l1 n b hn (by omega) l out hl h8 (by omega) _ l.length 0 true (by omega) ?_
      rw [List.drop_zero]
      simp only [Bool.true_and, selS]
      by_cases hr : l.all (comF ⟨(n : Int), (b : Int)⟩) = true
      · simp only [if_pos hr]
        have := ih (b + 1) (out ++ [⟨(n : Int), (b : Int)⟩]) (by omega) (by simp; omega)
        rwa [List.append_assoc, List.singleton_append] at this
      · simp only [if_neg hr]; exact ih (b + 1) out (by omega) (by omega)
theorem spec_cen_ev (a : Int) (l : List S26) (hl : l.length ≤ 1048576) : Ev (fun k => spec_CentraliserOf.f k l a) (cenA a l) := by
  have hj1 : ∀ (c : Int) R, Ev (fun k => if c = 0 then spec_CentraliserOf.l0 k l a ([] : List S26) ((0 : Nat) : Int) else some (([] : List S26), c)) R → Ev (fun k => spec_CentraliserOf.j1 k l a c) R := by
    intro c R h
    refine Ev.step (fun k => ?_) h
    simp only [spec_CentraliserOf.j1]
    rfl
  have hj0 : ∀ (c : Int) (b : Bool) R, Ev (fun k => spec_CentraliserOf.j1 k l a (if b = true then 2 else c)) R → Ev (fun k => spec_CentraliserOf.j0 k l a c b) R := by
    intro c b R h
    refine Ev.step (fun k => ?_) h
    simp only [spec_CentraliserOf.j0]
    cases b <;> rfl
  unfold spec_CentraliserOf.f cenA
  refine Ev.bind (g := fun k t => ite _ _ _) (spec_code_ev l hl) ?_
  by_cases h : codeL l = 0
  · simp only [if_pos h, spec_l01In_eq, Option.bind_some]
    refine hj0 _ _ _ (hj1 _ _ ?_)
    by_cases h2 : 0 ≤ a ∧ a ≤ 3
    · simp only [decide_eq_true h2, Bool.not_true, Bool.false_eq_true, if_false, if_pos h, if_pos h2]
      obtain ⟨n, rfl⟩ := Int.eq_ofNat_of_zero_le h2.1
      have := spec_cen_l0 n (by omega) l (codeL_0 h).1 (codeL_0 h).2 (pw (pw n)) 0 [] (by omega) (by simp; exact pp3 (by omega))
      rw [List.nil_append] at this
      exact this
    · simp only [decide_eq_false h2, Bool.not_false, if_true, if_neg h2]
      exact Ev.const _
  · simp only [if_neg h]
    refine hj0 _ _ _ (hj1 _ _ ?_)
    simp only [Bool.false_eq_true, if_false, if_neg h]
    exact Ev.const _
theorem cenA_len (a : Int) (l : List S26) : (cenA a l).1.length ≤ 256 := by
  unfold cenA
  split
  · split
    · exact cenL_len _ (by omega) l
    · simp
  · simp
end
section
attribute [local go_sem] max2_int min2_int max_two min_two max_three min_three max_four min_four
/-! ### laws_markFuncS: function 47 -/
def laws_markFuncS.l0 : Nat → List (S26) → Int → Int → Option (Int × (List (S26)))
  | 0, _, _, _ => none
  | k + 1, x0, x1, x5 => if x5 < (x0.length : Int) then (if 0 ≤ x5 then ((some (x0.set (x5 : Int).toNat (⟨x1, (rd_T26 x0 x5).f1⟩ : S26) : List (S26))).bind fun y101 => (laws_markFuncS.l0 k (y101.set (x5 : Int).toNat (⟨(rd_T26 y101 x5).f0, wrap64 (x1 + 1)⟩ : S26)) (wrap64 ((wrap64 (x1 + 1)) + 1)) (wrap64 (x5 + 1)))) else (none)) else (some (x1, x0))
def laws_markFuncS.f (k : Nat) (l0 : List (S26)) (a1 : Int) : Option (Int × (List (S26))) := laws_markFuncS.l0 k l0 a1 0
theorem laws_markFuncS.mono_l : ∀ k, (∀ y0 y1 y2, LeO (laws_markFuncS.l0 k y0 y1 y2) (laws_markFuncS.l0 (k + 1) y0 y1 y2))
  | 0 => fun _ _ _ r h => by simp [laws_markFuncS.l0] at h
  | k + 1 => by
    have ih0 := laws_markFuncS.mono_l k
    · intro y0 y1 y2
      unfold laws_markFuncS.l0
      repeat' first
      | (with_reducible exact ih0 _ _ _)
      | (with_reducible exact LeO.refl _)
      | (with_reducible exact LeO.none _)
      | (with_reducible refine LeO.ite ?_ ?_)
      | (with_reducible refine LeO.bind ?_ (fun _ => ?_))
      | exact ih0 _ _ _
      | exact LeO.none _
      | refine LeO.ite ?_ ?_
      | refine LeO.bind ?_ (fun _ => ?_)
theorem laws_markFuncS.mono : ∀ a0 a1 k, LeO (laws_markFuncS.f k a0 a1) (laws_markFuncS.f (k + 1) a0 a1) := by
  intro a0 a1 k
  have ih0 := laws_markFuncS.mono_l k
  unfold laws_markFuncS.f
  repeat' first
      | (with_reducible exact ih0 _ _ _)
      | (with_reducible exact LeO.refl _)
      | (with_reducible exact LeO.none _)
      | (with_reducible refine LeO.ite ?_ ?_)
      | (with_reducible refine LeO.bind ?_ (fun _ => ?_))
      | exact ih0 _ _ _
      | exact LeO.none _
      | refine LeO.ite ?_ ?_
      | refine LeO.bind ?_ (fun _ => ?_)
set_option maxHeartbeats 8000000 in
set_option maxRecDepth 100000 in
theorem laws_markFuncS.calls (k : Nat) (P0_ : Nat → Prop) (u9000_ : Value) (l0 : List (S26)) (a1 : Int) (r1 : Int) (r2 : List (S26)) (w0 w : World) (hB : Below w0.heap.size w0 w) (ho0 : Kd.R k26 26 w w0.heap.size P0_ u9000_ l0) (h : laws_markFuncS.f k l0 a1 = some (r1, r2)) :
    Calls Try.prog 47 #[u9000_, .int .i64 a1] w fun e w' => e = .returned (.int .i64 r1) ∧ Kd.R k26 26 w' w0.heap.size (fun k_ => (P0_ k_ ∨ w.heap.size ≤ k_)) u9000_ r2 ∧ Below w0.heap.size w0 w' ∧ Kept w w' (fun k_ => P0_ k_) := by
  have HO0 := Aside0.mk (show Kd.R k26 26 w w0.heap.size (fun k_ => (P0_ k_ ∨ w.heap.size ≤ k_)) u9000_ l0 from Kd.R_mono ho0 (fun k_ hk => (.inl hk)))
  have HK := Aside0.mk (Kept.refl w (fun k_ => P0_ k_))
  have HW0 := Aside0.mk hB.size
  have HB := Aside0.mk hB
  clear hB
  have H : (laws_markFuncS.l0 k l0 a1 0) = some (r1, r2) := h
  clear h
  have H' := Aside0.mk H
  clear H
  go_enter Try.func47, Try.ntmps47
  go_wp2
  go_loopg [1, 5] k (fun kq v1 v5 w' => ∃ (x0_1 : List (S26)) (x1_1 : Int) (x5_1 : Int), v1 = .int .i64 x1_1 ∧ v5 = .int .i64 x5_1 ∧ Aside0 (laws_markFuncS.l0 kq x0_1 x1_1 x5_1 = some (r1, r2)) ∧ Aside0 (kq ≤ k) ∧ Aside0 (Kd.R k26 26 w' w0.heap.size (fun k_ => (P0_ k_ ∨ w.heap.size ≤ k_)) u9000_ x0_1) ∧ Aside0 (Kept w w' (fun k_ => P0_ k_)) ∧ Aside0 (Below w0.heap.size w0 w'))
  case atStart => exact ⟨(l0), (a1), (0), (by first | rfl | (simp; done) | (simp [*]; done)), (by first | rfl | (simp; done) | (simp [*]; done)), H', ⟨Nat.le_refl _⟩, ⟨by (with_reducible repeat (first | apply Kd.R_alloc | apply Kd.R_drewN | apply Kd.R_drew)); exact HO0.out⟩, ⟨by repeat (first | (with_reducible first | exact HK.out | apply Kept.alloc | apply Kept.drewN | apply Kept.drew) | exact HK.out)⟩, ⟨by repeat (first | (with_reducible first | exact HB.out | apply below_alloc | apply pw_below_drewN | apply below_drew1) | exact HB.out)⟩⟩
  case round =>
    clear H'
    try clear p2
    obtain ⟨x0_1, x1_1, x5_1, rfl, rfl, HA, HK1, HO_0, HK, HB⟩ := hrel
    cases gk with
    | zero => exact absurd HA.out (by simp [laws_markFuncS.l0])
    | succ k1 =>
      have H := HA.out
      clear HA
      simp only [laws_markFuncS.l0] at H
      by_cases c3 : x5_1 < (x0_1.length : Int)
      · rw [if_pos c3] at H
        have c3b0 : decide (x5_1 < (x0_1.length : Int)) = true := decide_eq_true c3
        clear c3
        by_cases c4 : 0 ≤ x5_1
        · rw [if_pos c4] at H
          have c4b0 : decide (0 ≤ x5_1) = true := decide_eq_true c4
          clear c4
          obtain ⟨y101, hy101⟩ : ∃ y_ : List (S26), y_ = (x0_1.set (x5_1 : Int).toNat (⟨x1_1, (rd_T26 x0_1 x5_1).f1⟩ : S26)) := ⟨_, rfl⟩
          replace H : (laws_markFuncS.l0 k1 (y101.set (x5_1 : Int).toNat (⟨(rd_T26 y101 x5_1).f0, wrap64 (x1_1 + 1)⟩ : S26)) (wrap64 ((wrap64 (x1_1 + 1)) + 1)) (wrap64 (x5_1 + 1))) = some (r1, r2) := by first | (rw [hy101]; with_reducible exact H) | (have H2_ := (Option.bind_some _ _).symm.trans H; rw [hy101]; with_reducible exact H2_) | (have H2_ := (Option.bind_some _ _).symm.trans H; with_reducible exact H2_) | with_reducible exact H | (rw [hy101]; exact H) | exact H
          have Ny101 := Aside0.mk hy101
          clear hy101
          obtain ⟨y102, hy102⟩ : ∃ y_ : List (S26), y_ = (y101.set (x5_1 : Int).toNat (⟨(rd_T26 y101 x5_1).f0, wrap64 (x1_1 + 1)⟩ : S26)) := ⟨_, rfl⟩
          replace H : (laws_markFuncS.l0 k1 y102 (wrap64 ((wrap64 (x1_1 + 1)) + 1)) (wrap64 (x5_1 + 1))) = some (r1, r2) := by first | (rw [hy102]; with_reducible exact H) | (have H2_ := (Option.bind_some _ _).symm.trans H; rw [hy102]; with_reducible exact H2_) | (have H2_ := (Option.bind_some _ _).symm.trans H; with_reducible exact H2_) | with_reducible exact H | (rw [hy102]; exact H) | exact H
          have Ny102 := Aside0.mk hy102
          clear hy102
          have H' := Aside0.mk H
          clear H
          obtain ⟨Ao7, co7, eo7⟩ := Kd.R_slice HO_0.out
          subst eo7
          have p5 : 0 ≤ (x5_1 : Int) := of_decide_eq_true (by first | (with_reducible assumption) | assumption)
          have q5 : (x5_1 : Int) < ((x0_1.length : Int) : Int) := of_decide_eq_true (by first | (with_reducible assumption) | assumption)
          obtain ⟨go5, co5, eo5, gb5, gl5, cl5, HG5⟩ := Kd.R_form HO_0.out (by omega)
          (first | cases eo5 | (injection eo5 with ea_ en_ ec_; (first | subst ea_ | (injection ea_ with ea_; subst ea_)); subst ec_; clear en_))
          have GB5 := Aside0.mk gb5
          have GG5 := Aside0.mk HG5
          clear gb5 gl5 HG5
          have HMgo5 := Aside0.mk (show (P0_ go5 ∨ w.heap.size ≤ go5) from (HO_0.out.1 _ rfl))
          obtain ⟨ce5, hcl5, hM5, hcc5, hfr5⟩ := Kd.R_elem HO_0.out z26 (x5_1 : Int) p5 q5
          obtain rfl := k26_openM hM5
          have hx5_0 : wr.cell? ⟨go5, (x5_1 : Int).toNat * 2, none⟩ = some (.int .i64 ((rd_T26 x0_1 x5_1).f0)) := hcc5 0 _ rfl
          have hx5_1 : wr.cell? ⟨go5, (x5_1 : Int).toNat * 2 + 1, none⟩ = some (.int .i64 ((rd_T26 x0_1 x5_1).f1)) := hcc5 1 _ rfl
          have hf5_0 : wr.frozen? ⟨go5, (x5_1 : Int).toNat * 2, none⟩ = false := hfr5 0
          have hf5_1 : wr.frozen? ⟨go5, (x5_1 : Int).toNat * 2 + 1, none⟩ = false := hfr5 1
          clear hcl5 hcc5 hfr5 hM5
          replace p5 := eq_true p5
          replace q5 := eq_true q5
          have HX8 := Aside0.mk (show Kd.R k26 26 wr w0.heap.size (fun k_ => (P0_ k_ ∨ w.heap.size ≤ k_)) (.slice (some ⟨go5, 0, none⟩) x0_1.length co7) x0_1 from (by (with_reducible repeat (first | apply Kd.R_alloc | apply Kd.R_drewN | apply Kd.R_drew)); exact HO_0.out))
          obtain ⟨ce8, hcl8, hM8, hcc8, hfr8⟩ := Kd.R_elem HX8.out z26 (x5_1 : Int) (of_decide_eq_true (by first | (with_reducible assumption) | assumption)) (by have h_ : (x5_1 : Int) < ((x0_1.length : Int) : Int) := of_decide_eq_true (by first | (with_reducible assumption) | assumption); first | exact h_ | (have e_ := (Kd.R_reads' HO_0.out).1; omega) | simpa using h_)
          obtain rfl := k26_openM hM8
          have HP8 := Kd.R_seg HX8.out (x5_1 : Int) (of_decide_eq_true (by first | (with_reducible assumption) | assumption)) (by have h_ : (x5_1 : Int) < ((x0_1.length : Int) : Int) := of_decide_eq_true (by first | (with_reducible assumption) | assumption); first | exact h_ | (have e_ := (Kd.R_reads' HO_0.out).1; omega) | simpa using h_) (seg := [.int .i64 x1_1]) (j := 0) hcl8 hcc8 (show 1 ≤ 2 from by decide) (x' := (⟨x1_1, (rd_T26 x0_1 x5_1).f1⟩ : S26)) (k26_mkM _ _ _ (⟨x1_1, (rd_T26 x0_1 x5_1).f1⟩ : S26) ) (fun _ hk => hk)
          have hx8_0 := hcc8 0 _ rfl
          (try simp only [show (k26).sz = 2 from rfl, Nat.mul_one, Nat.add_zero] at hx8_0)
          have hf8_0 := hfr8 0
          (try simp only [show (k26).sz = 2 from rfl, Nat.mul_one, Nat.add_zero] at hf8_0)
          clear hcl8 hcc8 hfr8 hM8
          go_wp2_with (first | ((with_reducible refine gate_store (t := 2) (p := 16) rfl ?_); refine store_event (t := 2) (p := 16) (v := ?vo_w9) (w1 := (wr.setCell ⟨go5, (x5_1 : Int).toNat * 2, none⟩ (.int .i64 x1_1))) ?hg ?ho ?hn ?hr ?_; (case ho => rfl); (case hg => rfl); (case hn => rfl); (case hr => first | (go_simp; done) | (go_simp; rfl)); intro w9 hw; have hg : wr.grownBy w9 (some go5) := (by rw [hw]; exact HP8.2); have hp_ : Kd.R k26 26 w9 w0.heap.size (fun k_ => (P0_ k_ ∨ w.heap.size ≤ k_)) (.slice (some ⟨go5, 0, none⟩) x0_1.length co7) y101 := (by rw [hw, Ny101.out]; exact HP8.1); clear HP8; have n0_ := Aside0.mk (hp_); have n1_ := Aside0.mk ((by rw [hw]; exact below_set (HB.out) GB5.out : Below w0.heap.size w0 w9)); have n2_ := Aside0.mk (Kept.of_grown (S := (fun k_ => P0_ k_)) hg (by repeat (first | (with_reducible first | exact HK.out | apply Kept.alloc | apply Kept.drewN | apply Kept.drew) | exact HK.out)) (fun k_ e_ => (HO_0.out.1 k_ e_))); clear HO_0; clear HB; clear HK; have HO_0 := n0_; have HB := n1_; have HK := n2_; clear n0_ n1_ n2_; clear hg hw hp_; have p6 : 0 ≤ (x5_1 : Int) := of_decide_eq_true (by first | (with_reducible assumption) | assumption); have q6 : (x5_1 : Int) < ((x0_1.length : Int) : Int) := of_decide_eq_true (by first | (with_reducible assumption) | assumption); obtain ⟨ce6, hcl6, hM6, hcc6, hfr6⟩ := Kd.R_elem HO_0.out z26 (x5_1 : Int) p6 q6; obtain rfl := k26_openM hM6; have hx6_0 : w9.cell? ⟨go5, (x5_1 : Int).toNat * 2, none⟩ = some (.int .i64 ((rd_T26 y101 x5_1).f0)) := hcc6 0 _ rfl; have hx6_1 : w9.cell? ⟨go5, (x5_1 : Int).toNat * 2 + 1, none⟩ = some (.int .i64 ((rd_T26 y101 x5_1).f1)) := hcc6 1 _ rfl; have hf6_0 : w9.frozen? ⟨go5, (x5_1 : Int).toNat * 2, none⟩ = false := hfr6 0; have hf6_1 : w9.frozen? ⟨go5, (x5_1 : Int).toNat * 2 + 1, none⟩ = false := hfr6 1; clear hcl6 hcc6 hfr6 hM6; replace p6 := eq_true p6; replace q6 := eq_true q6; have HX10 := Aside0.mk (show Kd.R k26 26 w9 w0.heap.size (fun k_ => (P0_ k_ ∨ w.heap.size ≤ k_)) (.slice (some ⟨go5, 0, none⟩) x0_1.length co7) y101 from (by (with_reducible repeat (first | apply Kd.R_alloc | apply Kd.R_drewN | apply Kd.R_drew)); exact HO_0.out)); obtain ⟨ce10, hcl10, hM10, hcc10, hfr10⟩ := Kd.R_elem HX10.out z26 (x5_1 : Int) (of_decide_eq_true (by first | (with_reducible assumption) | assumption)) (by have h_ : (x5_1 : Int) < ((x0_1.length : Int) : Int) := of_decide_eq_true (by first | (with_reducible assumption) | assumption); first | exact h_ | (have e_ := (Kd.R_reads' HO_0.out).1; omega) | simpa using h_); obtain rfl := k26_openM hM10; have HP10 := Kd.R_seg HX10.out (x5_1 : Int) (of_decide_eq_true (by first | (with_reducible assumption) | assumption)) (by have h_ : (x5_1 : Int) < ((x0_1.length : Int) : Int) := of_decide_eq_true (by first | (with_reducible assumption) | assumption); first | exact h_ | (have e_ := (Kd.R_reads' HO_0.out).1; omega) | simpa using h_) (seg := [.int .i64 (wrap64 (x1_1 + 1))]) (j := 1) hcl10 hcc10 (show 2 ≤ 2 from by decide) (x' := (⟨(rd_T26 y101 x5_1).f0, wrap64 (x1_1 + 1)⟩ : S26)) (k26_mkM _ _ _ (⟨(rd_T26 y101 x5_1).f0, wrap64 (x1_1 + 1)⟩ : S26) ) (fun _ hk => hk); have hx10_1 := hcc10 1 _ rfl; (try simp only [show (k26).sz = 2 from rfl, Nat.mul_one, Nat.add_zero] at hx10_1); have hf10_1 := hfr10 1; (try simp only [show (k26).sz = 2 from rfl, Nat.mul_one, Nat.add_zero] at hf10_1); clear hcl10 hcc10 hfr10 hM10) | ((with_reducible refine gate_store (t := 2) (p := 23) rfl ?_); refine store_event (t := 2) (p := 23) (v := ?vo_w11) (w1 := (w9.setCell ⟨go5, (x5_1 : Int).toNat * 2 + 1, none⟩ (.int .i64 (wrap64 (x1_1 + 1))))) ?hg ?ho ?hn ?hr ?_; (case ho => rfl); (case hg => rfl); (case hn => rfl); (case hr => first | (go_simp; done) | (go_simp; rfl)); intro w11 hw; have hg : w9.grownBy w11 (some go5) := (by rw [hw]; exact HP10.2); have hp_ : Kd.R k26 26 w11 w0.heap.size (fun k_ => (P0_ k_ ∨ w.heap.size ≤ k_)) (.slice (some ⟨go5, 0, none⟩) x0_1.length co7) y102 := (by rw [hw, Ny102.out]; exact HP10.1); clear HP10; have n0_ := Aside0.mk (hp_); have n1_ := Aside0.mk ((by rw [hw]; exact below_set (HB.out) GB5.out : Below w0.heap.size w0 w11)); have n2_ := Aside0.mk (Kept.of_grown (S := (fun k_ => P0_ k_)) hg (by repeat (first | (with_reducible first | exact HK.out | apply Kept.alloc | apply Kept.drewN | apply Kept.drew) | exact HK.out)) (fun k_ e_ => (HO_0.out.1 k_ e_))); clear HO_0; clear HB; clear HK; have HO_0 := n0_; have HB := n1_; have HK := n2_; clear n0_ n1_ n2_; clear hg hw hp_))
          go_roundg k1
          case measure => have := HK1.out; omega
          case rel => exact ⟨(y102), (wrap64 ((wrap64 (x1_1 + 1)) + 1)), (wrap64 (x5_1 + 1)), (by first | rfl | (simp; done) | (simp [*]; done)), (by first | rfl | (simp; done) | (simp [*]; done)), H', ⟨by have := HK1.out; omega⟩, ⟨by (with_reducible repeat (first | apply Kd.R_alloc | apply Kd.R_drewN | apply Kd.R_drew)); exact HO_0.out⟩, ⟨by repeat (first | (with_reducible first | exact HK.out | apply Kept.alloc | apply Kept.drewN | apply Kept.drew) | exact HK.out)⟩, ⟨by repeat (first | (with_reducible first | exact HB.out | apply below_alloc | apply pw_below_drewN | apply below_drew1) | exact HB.out)⟩⟩
        · rw [if_neg c4] at H
          exact absurd H (by simp)
      · rw [if_neg c3] at H
        have c3b0 : decide (x5_1 < (x0_1.length : Int)) = false := decide_eq_false c3
        clear c3
        simp only [Option.some.injEq, Prod.mk.injEq] at H
        obtain ⟨rfl, rfl⟩ := H
        obtain ⟨Ao12, co12, eo12⟩ := Kd.R_slice HO_0.out
        subst eo12
        go_wp2
        go_ret
        exact ⟨by first | rfl | (simp [errW_none, errW_some] <;> rfl) | (simp [*, errW_none, errW_some] <;> rfl), by (with_reducible repeat (first | apply Kd.R_alloc | apply Kd.R_drewN | apply Kd.R_drew)); exact HO_0.out, by repeat (first | (with_reducible first | exact HB.out | apply below_alloc | apply pw_below_drewN | apply below_drew1) | exact HB.out), by repeat (first | (with_reducible first | exact HK.out | apply Kept.alloc | apply Kept.drewN | apply Kept.drew) | exact HK.out)⟩
end
section
attribute [local go_sem] max2_int min2_int max_two min_two max_three min_three max_four min_four
/-! ### laws_heldFuncS: function 48 -/
def laws_heldFuncS.l0 : Nat → List (S26) → Int → Int → Option (Int)
  | 0, _, _, _ => none
  | k + 1, x0, x1, x5 => if x5 < (x0.length : Int) then (if 0 ≤ x5 then (if ((rd_T26 x0 x5).f0) = x1 then (if ((rd_T26 x0 x5).f1) = (wrap64 (x1 + 1)) then (laws_heldFuncS.l0 k x0 (wrap64 ((wrap64 (x1 + 1)) + 1)) (wrap64 (x5 + 1))) else (some (-1))) else (some (-1))) else (none)) else (some x1)
def laws_heldFuncS.f (k : Nat) (l0 : List (S26)) (a1 : Int) : Option (Int) := laws_heldFuncS.l0 k l0 a1 0
theorem laws_heldFuncS.mono_l : ∀ k, (∀ y0 y1 y2, LeO (laws_heldFuncS.l0 k y0 y1 y2) (laws_heldFuncS.l0 (k + 1) y0 y1 y2))
  | 0 => fun _ _ _ r h => by simp [laws_heldFuncS.l0] at h
  | k + 1 => by
    have ih0 := laws_heldFuncS.mono_l k
    · intro y0 y1 y2
      unfold laws_heldFuncS.l0
      repeat' first
      | (with_reducible exact ih0 _ _ _)
      | (with_reducible exact LeO.refl _)
      | (with_reducible exact LeO.none _)
      | (with_reducible refine LeO.ite ?_ ?_)
      | (with_reducible refine LeO.bind ?_ (fun _ => ?_))
      | exact ih0 _ _ _
      | exact LeO.none _
      | refine LeO.ite ?_ ?_
      | refine LeO.bind ?_ (fun _ => ?_)
theorem laws_heldFuncS.mono : ∀ a0 a1 k, LeO (laws_heldFuncS.f k a0 a1) (laws_heldFuncS.f (k + 1) a0 a1) := by
  intro a0 a1 k
  have ih0 := laws_heldFuncS.mono_l k
  unfold laws_heldFuncS.f
  repeat' first
      | (with_reducible exact ih0 _ _ _)
      | (with_reducible exact LeO.refl _)
      | (with_reducible exact LeO.none _)
      | (with_reducible refine LeO.ite ?_ ?_)
      | (with_reducible refine LeO.bind ?_ (fun _ => ?_))
      | exact ih0 _ _ _
      | exact LeO.none _
      | refine LeO.ite ?_ ?_
      | refine LeO.bind ?_ (fun _ => ?_)
set_option maxHeartbeats 8000000 in
set_option maxRecDepth 100000 in
theorem laws_heldFuncS.calls (k : Nat) (A0 : Option Addr) (c0 : Nat) (l0 : List (S26)) (a1 : Int) (r : Int) (w : World) (hr0 : Kd.C k26 w A0 l0.length l0) (hc0 : l0.length ≤ c0) (h : laws_heldFuncS.f k l0 a1 = some r) :
    Calls Try.prog 48 #[.slice A0 l0.length c0, .int .i64 a1] w fun e w' => e = .returned (.int .i64 r) ∧ Drawn0 w w' := by
  have HR0 := Aside0.mk hr0
  have HC0 := Aside0.mk hc0
  clear hr0 hc0
  have H : (laws_heldFuncS.l0 k l0 a1 0) = some r := h
  clear h
  have H' := Aside0.mk H
  clear H
  go_enter Try.func48, Try.ntmps48
  go_wp2
  go_loopg [1, 5] k (fun kq v1 v5 w' => ∃ (x1_1 : Int) (x5_1 : Int), v1 = .int .i64 x1_1 ∧ v5 = .int .i64 x5_1 ∧ Aside0 (laws_heldFuncS.l0 kq l0 x1_1 x5_1 = some r) ∧ Aside0 (kq ≤ k) ∧ Drawn0 w w')
  case atStart => exact ⟨(a1), (0), (by first | rfl | (simp; done) | (simp [*]; done)), (by first | rfl | (simp; done) | (simp [*]; done)), H', ⟨Nat.le_refl _⟩, by repeat (first | exact Drawn0.refl _ | apply Drawn0.step)⟩
  case round =>
    clear H'
    try clear p2
    obtain ⟨x1_1, x5_1, rfl, rfl, HA, HK1, ⟨m1, rfl⟩⟩ := hrel
    cases gk with
    | zero => exact absurd HA.out (by simp [laws_heldFuncS.l0])
    | succ k1 =>
      have H := HA.out
      clear HA
      simp only [laws_heldFuncS.l0] at H
      by_cases c3 : x5_1 < (l0.length : Int)
      · rw [if_pos c3] at H
        have c3b0 : decide (x5_1 < (l0.length : Int)) = true := decide_eq_true c3
        clear c3
        by_cases c4 : 0 ≤ x5_1
        · rw [if_pos c4] at H
          have c4b0 : decide (0 ≤ x5_1) = true := decide_eq_true c4
          clear c4
          by_cases c5 : ((rd_T26 l0 x5_1).f0) = x1_1
          · rw [if_pos c5] at H
            have c5b0 : (((rd_T26 l0 x5_1).f0) == x1_1) = true := beq_iff_eq.mpr c5
            have c5b1 : (((rd_T26 l0 x5_1).f0) != x1_1) = false := bne_eq_false_iff_eq.mpr c5
            clear c5
            by_cases c6 : ((rd_T26 l0 x5_1).f1) = (wrap64 (x1_1 + 1))
            · rw [if_pos c6] at H
              have c6b0 : (((rd_T26 l0 x5_1).f1) == (wrap64 (x1_1 + 1))) = true := beq_iff_eq.mpr c6
              have c6b1 : (((rd_T26 l0 x5_1).f1) != (wrap64 (x1_1 + 1))) = false := bne_eq_false_iff_eq.mpr c6
              clear c6
              have H' := Aside0.mk H
              clear H
              have p101 : 0 ≤ (x5_1 : Int) := of_decide_eq_true (by first | (with_reducible assumption) | assumption)
              have q101 : x5_1 < (l0.length : Int) := of_decide_eq_true (by first | (with_reducible assumption) | assumption)
              obtain ⟨ad101, e101, hx101_0, hx101_1⟩ := at_T26 HR0.out x5_1 p101 q101
              cases e101
              replace p101 := eq_true p101
              replace q101 := eq_true q101
              have p102 : 0 ≤ (x5_1 : Int) := of_decide_eq_true (by first | (with_reducible assumption) | assumption)
              have q102 : x5_1 < (l0.length : Int) := of_decide_eq_true (by first | (with_reducible assumption) | assumption)
              obtain ⟨ad102, e102, hx102_0, hx102_1⟩ := at_T26 HR0.out x5_1 p102 q102
              obtain rfl : ad101 = ad102 := (by injection e102)
              replace p102 := eq_true p102
              replace q102 := eq_true q102
              go_wp2
              go_roundg k1
              case measure => have := HK1.out; omega
              case rel => exact ⟨(wrap64 ((wrap64 (x1_1 + 1)) + 1)), (wrap64 (x5_1 + 1)), (by first | rfl | (simp; done) | (simp [*]; done)), (by first | rfl | (simp; done) | (simp [*]; done)), H', ⟨by have := HK1.out; omega⟩, by repeat (first | exact Drawn0.refl _ | apply Drawn0.step)⟩
            · rw [if_neg c6] at H
              have c6b0 : (((rd_T26 l0 x5_1).f1) == (wrap64 (x1_1 + 1))) = false := beq_eq_false_iff_ne.mpr c6
              have c6b1 : (((rd_T26 l0 x5_1).f1) != (wrap64 (x1_1 + 1))) = true := bne_iff_ne.mpr c6
              obtain rfl := Option.some.inj H
              have p101 : 0 ≤ (x5_1 : Int) := of_decide_eq_true (by first | (with_reducible assumption) | assumption)
              have q101 : x5_1 < (l0.length : Int) := of_decide_eq_true (by first | (with_reducible assumption) | assumption)
              obtain ⟨ad101, e101, hx101_0, hx101_1⟩ := at_T26 HR0.out x5_1 p101 q101
              cases e101
              replace p101 := eq_true p101
              replace q101 := eq_true q101
              have p102 : 0 ≤ (x5_1 : Int) := of_decide_eq_true (by first | (with_reducible assumption) | assumption)
              have q102 : x5_1 < (l0.length : Int) := of_decide_eq_true (by first | (with_reducible assumption) | assumption)
              obtain ⟨ad102, e102, hx102_0, hx102_1⟩ := at_T26 HR0.out x5_1 p102 q102
              obtain rfl : ad101 = ad102 := (by injection e102)
              replace p102 := eq_true p102
              replace q102 := eq_true q102
              go_wp2
              go_ret
              exact ⟨by first | rfl | (simp; done) | (simp [*]; done), by repeat (first | exact Drawn0.refl _ | apply Drawn0.step)⟩
          · rw [if_neg c5] at H
            have c5b0 : (((rd_T26 l0 x5_1).f0) == x1_1) = false := beq_eq_false_iff_ne.mpr c5
            have c5b1 : (((rd_T26 l0 x5_1).f0) != x1_1) = true := bne_iff_ne.mpr c5
            obtain rfl := Option.some.inj H
            have p101 : 0 ≤ (x5_1 : Int) := of_decide_eq_true (by first | (with_reducible assumption) | assumption)
            have q101 : x5_1 < (l0.length : Int) := of_decide_eq_true (by first | (with_reducible assumption) | assumption)
            obtain ⟨ad101, e101, hx101_0, hx101_1⟩ := at_T26 HR0.out x5_1 p101 q101
            cases e101
            replace p101 := eq_true p101
            replace q101 := eq_true q101
            go_wp2
            go_ret
            exact ⟨by first | rfl | (simp; done) | (simp [*]; done), by repeat (first | exact Drawn0.refl _ | apply Drawn0.step)⟩
        · rw [if_neg c4] at H
          exact absurd H (by simp)
      · rw [if_neg c3] at H
        have c3b0 : decide (x5_1 < (l0.length : Int)) = false := decide_eq_false c3
        clear c3
        obtain rfl := Option.some.inj H
        go_wp2
        go_ret
        exact ⟨by first | rfl | (simp; done) | (simp [*]; done), by repeat (first | exact Drawn0.refl _ | apply Drawn0.step)⟩
end
section
/-- A list of marks. -/
def markL : Nat → Int → List S26
  | 0, _ => []
  | n + 1, a => ⟨a, a + 1⟩ :: markL n (a + 2)
theorem markL_len (n : Nat) : ∀ a, (markL n a).length = n := by
  induction n with
  | zero => intro a; rfl
  | succ n ih => intro a; simp [markL, ih]
theorem markL_get (n : Nat) : ∀ (a : Int) (i : Nat) (h : i < (markL n a).length), (markL n a)[i] = ⟨a + 2 * i, a + 2 * i + 1⟩ := by
  induction n with
  | zero => intro a i h; simp [markL] at h
  | succ n ih =>
    intro a i h
    cases i with
    | zero => simp [markL]
    | succ i =>
      simp only [markL, List.getElem_cons_succ]
      rw [ih (a + 2) i (by simp [markL] at h; exact h)]
      congr 1 <;> push_cast <;> omega
theorem markL_app (n : Nat) : ∀ a, markL (n + 1) a = markL n a ++ [⟨a + 2 * n, a + 2 * n + 1⟩] := by
  induction n with
  | zero => intro a; simp [markL]
  | succ n ih =>
    intro a
    rw [markL, ih (a + 2), markL, List.cons_append]
    congr 3
    congr 1 <;> push_cast <;> omega
theorem mark_l0 (l : List S26) (hl : l.length ≤ 1048576) (d : Nat) : ∀ i : Nat, i + d = l.length → Ev (fun k => laws_markFuncS.l0 k (markL i 1 ++ l.drop i) (1 + 2 * (i : Int)) i) (1 + 2 * (l.length : Int), markL l.length 1) := by
  induction d with
  | zero =>
    intro i hi
    refine Ev.step (y := fun _ => some (1 + 2 * (l.length : Int), markL l.length 1)) (fun k => ?_) (Ev.const _)
    simp only [laws_markFuncS.l0]
    rw [if_neg (by simp [markL_len]; omega), List.drop_eq_nil_of_le (by omega), List.append_nil, show i = l.length by omega]
  | succ d ih =>
    intro i hi
    have e : (markL i 1 ++ l.drop i).length = l.length := by simp [markL_len]; omega
    refine Ev.step (fun k => ?_) (ih (i + 1) (by omega))
    simp only [laws_markFuncS.l0]
    rw [if_pos (by rw [e]; omega), if_pos (by omega)]
    simp only [Option.bind_some, Int.toNat_natCast]
    rw [rd_at (i := i) (by simp [markL_len]; omega), rd_at (i := i) (by simp [markL_len]; omega), List.getElem_set_self, List.set_set]
    dsimp only
    rw [wrap64_id (1 + 2 * (i : Int) + 1) (by omega) (by omega), wrap64_id (1 + 2 * (i : Int) + 1 + 1) (by omega) (by omega), icast1, wrap64_nat _ (by omega)]
    rw [List.set_append_right _ _ (by rw [markL_len]; omega), markL_len, Nat.sub_self, List.drop_eq_getElem_cons (by omega), List.set_cons_zero, markL_app, List.append_assoc, List.singleton_append]
    congr 1
theorem mark_ev (l : List S26) (hl : l.length ≤ 1048576) : Ev (fun k => laws_markFuncS.f k l 1) (1 + 2 * (l.length : Int), markL l.length 1) :=
  mark_l0 l hl l.length 0 (by omega)
theorem held_l0 (n : Nat) (hn : n ≤ 1048576) (d : Nat) : ∀ i : Nat, i + d = n → Ev (fun k => laws_heldFuncS.l0 k (markL n 1) (1 + 2 * (i : Int)) i) (1 + 2 * (n : Int)) := by
  induction d with
  | zero =>
    intro i hi
    refine Ev.step (y := fun _ => some (1 + 2 * (n : Int))) (fun k => ?_) (Ev.const _)
    simp only [laws_heldFuncS.l0]
    rw [if_neg (by rw [markL_len]; omega), show i = n by omega]
  | succ d ih =>
    intro i hi
    refine Ev.step (fun k => ?_) (ih (i + 1) (by omega))
    simp only [laws_heldFuncS.l0]
    rw [if_pos (by rw [markL_len]; omega), if_pos (by omega), rd_at (i := i) (by rw [markL_len]; omega), markL_get, if_pos rfl, wrap64_id (1 + 2 * (i : Int) + 1) (by omega) (by omega), if_pos rfl, wrap64_id (1 + 2 * (i : Int) + 1 + 1) (by omega) (by omega), icast1, wrap64_nat _ (by omega)]
    congr 1
theorem held_ev (n : Nat) (hn : n ≤ 1048576) : Ev (fun k => laws_heldFuncS.f k (markL n 1) 1) (1 + 2 * (n : Int)) :=
  held_l0 n hn n 0 (by omega)
end
section
attribute [local go_sem] max2_int min2_int max_two min_two max_three min_three max_four min_four
/-! ### a row's arguments: from 'it reads as data' to the print's words -/
open Go.ChangeShapes Go.WideShapes Go.ChangeAt
/-- Whatever reads as data at type t is of the kind d, and what it is made of fulfils φ. -/
def Opens {α : Type} (P : Program) (w : World) (t : TypeId) (d : Kd α) (φ : α → Prop) : Prop :=
  ∀ (H : Type) (enc : TypeId × Value → H) (spare : Nat → Bool) (held : Bool) (fuel : Nat) (cs : List Value) (x : DataW H × List MemPlace), DataW.trod enc P w 0 spare held fuel t cs = some x → ∃ y, d.K w y cs ∧ φ y
def okI (x : Int) : Prop := -9223372036854775808 ≤ x ∧ x ≤ 9223372036854775807
theorem opens_i64 {P : Program} {w : World} {t : TypeId} (ht : P.underlying t = some (.int .i64)) : Opens P w t (Kd.int .i64) okI := by
  intro H enc spare held fuel cs x h
  obtain ⟨n, rfl, _, hw⟩ := DataW.trod_int ht h
  exact ⟨n, rfl, bounds_i64 hw⟩
theorem opens_string {P : Program} {w : World} {t : TypeId} (ht : P.underlying t = some .string) : Opens P w t Kd.string (fun s => s.size ≤ maxLen) := by
  intro H enc spare held fuel cs x h
  obtain ⟨s, rfl, _, hw⟩ := DataW.trod_string ht h
  exact ⟨s, rfl, hw⟩
theorem opens_iso {α β : Type} {P : Program} {w : World} {t : TypeId} {d : Kd α} {φ : α → Prop} (h : Opens P w t d φ) (f : β → α) (g : α → β) (e : ∀ x, f (g x) = x) : Opens P w t (Kd.iso d f) (fun y => φ (f y)) := by
  intro H enc spare held fuel cs x hx
  obtain ⟨y, hK, hφ⟩ := h H enc spare held fuel cs x hx
  exact ⟨g y, by show d.K w (f (g y)) cs; rw [e]; exact hK, by show φ (f (g y)); rw [e]; exact hφ⟩
theorem opens_struct2 {α β : Type} {P : Program} {w : World} {t : TypeId} {f0 f1 : Field} {d0 : Kd α} {d1 : Kd β} {φ0 : α → Prop} {φ1 : β → Prop} (ht : P.underlying t = some (.struct #[f0, f1]))
    (o0 : f0.offset = 0) (o1 : f1.offset = d0.sz) (c0 : P.cellsOf f0.type = d0.sz) (c1 : P.cellsOf f1.type = d1.sz) (hC : P.cellsOf t = d0.sz + d1.sz)
    (h0 : Opens P w f0.type d0 φ0) (h1 : Opens P w f1.type d1 φ1) : Opens P w t (Kd.pair d0 d1) (fun x => φ0 x.1 ∧ φ1 x.2) := by
  intro H enc spare held fuel cs x h
  obtain ⟨y0, y1, n, _, hl, t0, t1⟩ := trod_struct2 ht h
  rw [o0, c0] at t0
  rw [o1, c1] at t1
  obtain ⟨a, ha, pa⟩ := h0 H enc spare held n _ _ t0
  obtain ⟨b, hb, pb⟩ := h1 H enc spare held n _ _ t1
  refine ⟨(a, b), ⟨_, _, ?_, ha, hb⟩, pa, pb⟩
  rw [List.drop_zero]
  have e : (cs.drop d0.sz).take d1.sz = cs.drop d0.sz := List.take_of_length_le (by rw [List.length_drop, hl, hC]; omega)
  rw [e, List.take_append_drop]
theorem opens_struct3 {α β γ : Type} {P : Program} {w : World} {t : TypeId} {f0 f1 f2 : Field} {d0 : Kd α} {d1 : Kd β} {d2 : Kd γ} {φ0 : α → Prop} {φ1 : β → Prop} {φ2 : γ → Prop} (ht : P.underlying t = some (.struct #[f0, f1, f2]))
    (o0 : f0.offset = 0) (o1 : f1.offset = d0.sz) (o2 : f2.offset = d0.sz + d1.sz) (c0 : P.cellsOf f0.type = d0.sz) (c1 : P.cellsOf f1.type = d1.sz) (c2 : P.cellsOf f2.type = d2.sz) (hC : P.cellsOf t = d0.sz + (d1.sz + d2.sz))
    (h0 : Opens P w f0.type d0 φ0) (h1 : Opens P w f1.type d1 φ1) (h2 : Opens P w f2.type d2 φ2) : Opens P w t (Kd.pair d0 (Kd.pair d1 d2)) (fun x => φ0 x.1 ∧ φ1 x.2.1 ∧ φ2 x.2.2) := by
  intro H enc spare held fuel cs x h
  obtain ⟨xs, n, _, _, hl, hlen, hf⟩ := DataW.trod_struct ht h
  match xs, hlen with
  | [y0, y1, y2], _ =>
    have t0 := hf 0 f0 rfl
    have t1 := hf 1 f1 rfl
    have t2 := hf 2 f2 rfl
    rw [o0, c0] at t0
    rw [o1, c1] at t1
    rw [o2, c2] at t2
    obtain ⟨a, ha, pa⟩ := h0 H enc spare held n _ y0 t0
    obtain ⟨b, hb, pb⟩ := h1 H enc spare held n _ y1 t1
    obtain ⟨c, hc, pc⟩ := h2 H enc spare held n _ y2 t2
    refine ⟨(a, b, c), ⟨_, _, ?_, ha, ⟨_, _, rfl, hb, hc⟩⟩, pa, pb, pc⟩
    rw [List.drop_zero]
    have e : (cs.drop (d0.sz + d1.sz)).take d2.sz = (cs.drop d0.sz).drop d1.sz := by
      rw [List.drop_drop]
      exact List.take_of_length_le (by rw [List.length_drop, hl, hC]; omega)
    rw [e, List.take_append_drop, List.take_append_drop]
theorem opens_slice {α : Type} [Inhabited α] {P : Program} {w : World} {t e : TypeId} {d : Kd α} {φ : α → Prop} (ht : P.underlying t = some (.slice e)) (hc : P.cellsOf e = d.sz) (he : Opens P w e d φ) :
    Opens P w t (Kd.slice e d) (fun l => l.length ≤ 9223372036854775807 ∧ ∀ x ∈ l, φ x) := by
  intro H enc spare held fuel cs x h
  rcases Go.Deep.open_slice ht h with ⟨rfl, _⟩ | ⟨a, len, cap, m, n, D, Pl, rfl, _, hl, hm, hmm, _, hx⟩
  · exact ⟨[], ⟨none, 0, rfl, Nat.le_refl _, Kd.C_nil d w⟩, Nat.zero_le _, fun x hx => by cases hx⟩
  · have hlm : len ≤ m := by rw [hmm]; split <;> omega
    obtain ⟨Y, hY⟩ := Go.Deep.choose_lt (α := α) (n := len) (p := fun i y => ∃ c : List Value, c.length = d.sz ∧ d.K w y c ∧ φ y ∧ ∀ j u, c[j]? = some u → w.cell? (a.add (i * d.sz + j)) = some u) (fun i hi => by
      obtain ⟨cs', h1, h2⟩ := hx i (by omega)
      obtain ⟨y, hK, hφ⟩ := he H enc spare held n cs' _ h2
      rw [hc] at h1
      obtain ⟨_, h3, h4⟩ := World.cells?_some h1
      refine ⟨y, cs', h3, hK, hφ, fun j u hj => ?_⟩
      have hlt : j < d.sz := by rw [← h3]; exact (List.getElem?_eq_some_iff.1 hj).1
      rw [← Go.Deep.add_add, h4 j hlt, hj])
    have hlen : ((List.range len).map Y).length = len := by simp
    refine ⟨(List.range len).map Y, ⟨some a, cap, by rw [hlen], by rw [hlen]; exact hl, ?_⟩, by rw [hlen]; unfold maxLen at hm; omega, fun x hx' => ?_⟩
    · rw [hlen]
      refine ⟨hlen, by unfold maxLen at hm; omega, fun _ => ⟨a, rfl, fun j p hj => ?_⟩⟩
      have hjl : j < len := by have := (List.getElem?_eq_some_iff.1 hj).1; rwa [hlen] at this
      have e1 : p = Y j := by simp [hjl] at hj; exact hj.symm
      subst e1
      obtain ⟨c, h1, h2, _, h4⟩ := hY j hjl
      exact ⟨c, h1, h2, h4⟩
    · obtain ⟨i, hi, rfl⟩ := List.mem_map.1 hx'
      obtain ⟨_, _, _, h3, _⟩ := hY i (List.mem_range.1 hi)
      exact h3
end
section
attribute [local go_sem] max2_int min2_int max_two min_two max_three min_three max_four min_four
/-! ### laws_FnExactCentraliserOf: function 13 -/
mutual
def laws_FnExactCentraliserOf.j0 : Nat → List (S23) → Int → List (S26) → Int → List (S26) → List (S26) → Int → Bool → Option (Bool)
  | 0, _, _, _, _, _, _, _, _ => none
  | k + 1, x0, x1, x6, x7, x8, x9, x10, x44 => if x44 = true then (some false) else ((laws_toFuncS.f k x0).bind fun t117 => ((laws_eqFuncS.f k x8 t117).bind fun t120 => (if t120 = true then ((laws_markFuncS.f k x8 1).bind fun bt121 => (if bt121.1 < 0 then (laws_FnExactCentraliserOf.j1 k x0 x1 x6 x7 x9 true) else ((laws_eqFuncS.f k x9 x6).bind fun t123 => (if t123 = true then (laws_FnExactCentraliserOf.j1 k x0 x1 x6 x7 x9 (x10 != x7)) else (laws_FnExactCentraliserOf.j1 k x0 x1 x6 x7 x9 true))))) else (some false))))
def laws_FnExactCentraliserOf.j1 : Nat → List (S23) → Int → List (S26) → Int → List (S26) → Bool → Option (Bool)
  | 0, _, _, _, _, _, _ => none
  | k + 1, x0, x1, x6, x7, x9, x65 => if x65 = true then (some false) else ((laws_markFuncS.f k x9 1).bind fun bt124 => ((laws_heldFuncS.f k bt124.2 1).bind fun t126 => (if t126 < 0 then (some false) else (if t126 = bt124.1 then ((laws_toFuncS.f k x0).bind fun t127 => ((impl_CentraliserOf.f k t127 x1).bind fun bt130 => ((laws_eqFuncS.f k bt130.1 x6).bind fun t134 => (if t134 = true then (laws_FnExactCentraliserOf.j2 k bt124.2 bt124.1 (bt130.2 != x7)) else (laws_FnExactCentraliserOf.j2 k bt124.2 bt124.1 true))))) else (some false)))))
def laws_FnExactCentraliserOf.j2 : Nat → List (S26) → Int → Bool → Option (Bool)
  | 0, _, _, _ => none
  | k + 1, x9, x12, x92 => if x92 = true then (some false) else ((laws_heldFuncS.f k x9 1).bind fun t135 => (if t135 < 0 then (some false) else (if t135 = x12 then (some true) else (some false))))
end
def laws_FnExactCentraliserOf.f (k : Nat) (l0 : List (S23)) (a1 : Int) : Option (Bool) := (laws_szFuncS.f l0 1048576).bind fun t101 => (if t101 < 0 then (some true) else ((laws_toFuncS.f k l0).bind fun t102 => ((spec_CentraliserOf.f k t102 a1).bind fun bt105 => ((laws_toFuncS.f k l0).bind fun t109 => ((impl_CentraliserOf.f k t109 a1).bind fun bt112 => ((laws_eqFuncS.f k bt112.1 bt105.1).bind fun t116 => (if t116 = true then (laws_FnExactCentraliserOf.j0 k l0 a1 bt105.1 bt105.2 t109 bt112.1 bt112.2 (bt112.2 != bt105.2)) else (laws_FnExactCentraliserOf.j0 k l0 a1 bt105.1 bt105.2 t109 bt112.1 bt112.2 true))))))))
theorem laws_FnExactCentraliserOf.mono_l : ∀ k, (∀ y0 y1 y2 y3 y4 y5 y6 y7, LeO (laws_FnExactCentraliserOf.j0 k y0 y1 y2 y3 y4 y5 y6 y7) (laws_FnExactCentraliserOf.j0 (k + 1) y0 y1 y2 y3 y4 y5 y6 y7)) ∧ (∀ y0 y1 y2 y3 y4 y5, LeO (laws_FnExactCentraliserOf.j1 k y0 y1 y2 y3 y4 y5) (laws_FnExactCentraliserOf.j1 (k + 1) y0 y1 y2 y3 y4 y5)) ∧ (∀ y0 y1 y2, LeO (laws_FnExactCentraliserOf.j2 k y0 y1 y2) (laws_FnExactCentraliserOf.j2 (k + 1) y0 y1 y2))
  | 0 => ⟨fun _ _ _ _ _ _ _ _ r h => by simp [laws_FnExactCentraliserOf.j0] at h, fun _ _ _ _ _ _ r h => by simp [laws_FnExactCentraliserOf.j1] at h, fun _ _ _ r h => by simp [laws_FnExactCentraliserOf.j2] at h⟩
  | k + 1 => by
    obtain ⟨ih0, ih1, ih2⟩ := laws_FnExactCentraliserOf.mono_l k
    refine ⟨?_, ?_, ?_⟩
    · intro y0 y1 y2 y3 y4 y5 y6 y7
      unfold laws_FnExactCentraliserOf.j0
      repeat' first
      | (with_reducible exact ih0 _ _ _ _ _ _ _ _)
      | (with_reducible exact ih1 _ _ _ _ _ _)
      | (with_reducible exact ih2 _ _ _)
      | (with_reducible exact impl_CentraliserOf.mono _ _ _)
      | (with_reducible exact laws_eqFuncS.mono _ _ _)
      | (with_reducible exact laws_heldFuncS.mono _ _ _)
      | (with_reducible exact laws_markFuncS.mono _ _ _)
      | (with_reducible exact laws_toFuncS.mono _ _)
      | (with_reducible exact spec_CentraliserOf.mono _ _ _)
      | (with_reducible exact LeO.refl _)
      | (with_reducible exact LeO.none _)
      | (with_reducible refine LeO.ite ?_ ?_)
      | (with_reducible refine LeO.bind ?_ (fun _ => ?_))
      | exact ih0 _ _ _ _ _ _ _ _
      | exact ih1 _ _ _ _ _ _
      | exact ih2 _ _ _
      | exact impl_CentraliserOf.mono _ _ _
      | exact laws_eqFuncS.mono _ _ _
      | exact laws_heldFuncS.mono _ _ _
      | exact laws_markFuncS.mono _ _ _
      | exact laws_toFuncS.mono _ _
      | exact spec_CentraliserOf.mono _ _ _
      | exact LeO.none _
      | refine LeO.ite ?_ ?_
      | refine LeO.bind ?_ (fun _ => ?_)
    · intro y0 y1 y2 y3 y4 y5
      unfold laws_FnExactCentraliserOf.j1
      repeat' first
      | (with_reducible exact ih0 _ _ _ _ _ _ _ _)
      | (with_reducible exact ih1 _ _ _ _ _ _)
      | (with_reducible exact ih2 _ _ _)
      | (with_reducible exact impl_CentraliserOf.mono _ _ _)
      | (with_reducible exact laws_eqFuncS.mono _ _ _)
      | (with_reducible exact laws_heldFuncS.mono _ _ _)
      | (with_reducible exact laws_markFuncS.mono _ _ _)
      | (with_reducible exact laws_toFuncS.mono _ _)
      | (with_reducible exact spec_CentraliserOf.mono _ _ _)
      | (with_reducible exact LeO.refl _)
      | (with_reducible exact LeO.none _)
      | (with_reducible refine LeO.ite ?_ ?_)
      | (with_reducible refine LeO.bind ?_ (fun _ => ?_))
      | exact ih0 _ _ _ _ _ _ _ _
      | exact ih1 _ _ _ _ _ _
      | exact ih2 _ _ _
      | exact impl_CentraliserOf.mono _ _ _
      | exact laws_eqFuncS.mono _ _ _
      | exact laws_heldFuncS.mono _ _ _
      | exact laws_markFuncS.mono _ _ _
      | exact laws_toFuncS.mono _ _
      | exact spec_CentraliserOf.mono _ _ _
      | exact LeO.none _
      | refine LeO.ite ?_ ?_
      | refine LeO.bind ?_ (fun _ => ?_)
    · intro y0 y1 y2
      unfold laws_FnExactCentraliserOf.j2
      repeat' first
      | (with_reducible exact ih0 _ _ _ _ _ _ _ _)
      | (with_reducible exact ih1 _ _ _ _ _ _)
      | (with_reducible exact ih2 _ _ _)
      | (with_reducible exact impl_CentraliserOf.mono _ _ _)
      | (with_reducible exact laws_eqFuncS.mono _ _ _)
      | (with_reducible exact laws_heldFuncS.mono _ _ _)
      | (with_reducible exact laws_markFuncS.mono _ _ _)
      | (with_reducible exact laws_toFuncS.mono _ _)
      | (with_reducible exact spec_CentraliserOf.mono _ _ _)
      | (with_reducible exact LeO.refl _)
      | (with_reducible exact LeO.none _)
      | (with_reducible refine LeO.ite ?_ ?_)
      | (with_reducible refine LeO.bind ?_ (fun _ => ?_))
      | exact ih0 _ _ _ _ _ _ _ _
      | exact ih1 _ _ _ _ _ _
      | exact ih2 _ _ _
      | exact impl_CentraliserOf.mono _ _ _
      | exact laws_eqFuncS.mono _ _ _
      | exact laws_heldFuncS.mono _ _ _
      | exact laws_markFuncS.mono _ _ _
      | exact laws_toFuncS.mono _ _
      | exact spec_CentraliserOf.mono _ _ _
      | exact LeO.none _
      | refine LeO.ite ?_ ?_
      | refine LeO.bind ?_ (fun _ => ?_)
theorem laws_FnExactCentraliserOf.mono : ∀ a0 a1 k, LeO (laws_FnExactCentraliserOf.f k a0 a1) (laws_FnExactCentraliserOf.f (k + 1) a0 a1) := by
  intro a0 a1 k
  obtain ⟨ih0, ih1, ih2⟩ := laws_FnExactCentraliserOf.mono_l k
  unfold laws_FnExactCentraliserOf.f
  repeat' first
      | (with_reducible exact ih0 _ _ _ _ _ _ _ _)
      | (with_reducible exact ih1 _ _ _ _ _ _)
      | (with_reducible exact ih2 _ _ _)
      | (with_reducible exact impl_CentraliserOf.mono _ _ _)
      | (with_reducible exact laws_eqFuncS.mono _ _ _)
      | (with_reducible exact laws_heldFuncS.mono _ _ _)
      | (with_reducible exact laws_markFuncS.mono _ _ _)
      | (with_reducible exact laws_toFuncS.mono _ _)
      | (with_reducible exact spec_CentraliserOf.mono _ _ _)
      | (with_reducible exact LeO.refl _)
      | (with_reducible exact LeO.none _)
      | (with_reducible refine LeO.ite ?_ ?_)
      | (with_reducible refine LeO.bind ?_ (fun _ => ?_))
      | exact ih0 _ _ _ _ _ _ _ _
      | exact ih1 _ _ _ _ _ _
      | exact ih2 _ _ _
      | exact impl_CentraliserOf.mono _ _ _
      | exact laws_eqFuncS.mono _ _ _
      | exact laws_heldFuncS.mono _ _ _
      | exact laws_markFuncS.mono _ _ _
      | exact laws_toFuncS.mono _ _
      | exact spec_CentraliserOf.mono _ _ _
      | exact LeO.none _
      | refine LeO.ite ?_ ?_
      | refine LeO.bind ?_ (fun _ => ?_)
set_option maxHeartbeats 8000000 in
set_option maxRecDepth 100000 in
theorem laws_FnExactCentraliserOf.calls (k : Nat) (A0 : Option Addr) (c0 : Nat) (l0 : List (S23)) (a1 : Int) (r : Bool) (w : World) (hr0 : Kd.C k23 w A0 l0.length l0) (hc0 : l0.length ≤ c0) (h : laws_FnExactCentraliserOf.f k l0 a1 = some r) :
    Calls Try.prog 13 #[.slice A0 l0.length c0, .int .i64 a1] w fun e w' => e = .returned (.bool r) ∧ Below w.heap.size w w' := by
  have HR0 := Aside0.mk hr0
  have HC0 := Aside0.mk hc0
  clear hr0 hc0
  have HB := Aside0.mk (Below.refl w.heap.size w)
  have H : ((laws_szFuncS.f l0 1048576).bind fun t101 => (if t101 < 0 then (some true) else ((laws_toFuncS.f k l0).bind fun t102 => ((spec_CentraliserOf.f k t102 a1).bind fun bt105 => ((laws_toFuncS.f k l0).bind fun t109 => ((impl_CentraliserOf.f k t109 a1).bind fun bt112 => ((laws_eqFuncS.f k bt112.1 bt105.1).bind fun t116 => (if t116 = true then (laws_FnExactCentraliserOf.j0 k l0 a1 bt105.1 bt105.2 t109 bt112.1 bt112.2 (bt112.2 != bt105.2)) else (laws_FnExactCentraliserOf.j0 k l0 a1 bt105.1 bt105.2 t109 bt112.1 bt112.2 true))))))))) = some r := h
  clear h
  replace H := Option.bind_eq_some_iff.mp H
  obtain ⟨t101, A30, H⟩ := H
  replace H : (if t101 < 0 then (some true) else ((laws_toFuncS.f k l0).bind fun t102 => ((spec_CentraliserOf.f k t102 a1).bind fun bt105 => ((laws_toFuncS.f k l0).bind fun t109 => ((impl_CentraliserOf.f k t109 a1).bind fun bt112 => ((laws_eqFuncS.f k bt112.1 bt105.1).bind fun t116 => (if t116 = true then (laws_FnExactCentraliserOf.j0 k l0 a1 bt105.1 bt105.2 t109 bt112.1 bt112.2 (bt112.2 != bt105.2)) else (laws_FnExactCentraliserOf.j0 k l0 a1 bt105.1 bt105.2 t109 bt112.1 bt112.2 true)))))))) = some r := H
  have A3 := Aside0.mk A30
  clear A30
  by_cases c4 : t101 < 0
  · rw [if_pos c4] at H
    have c4b0 : decide (t101 < 0) = true := decide_eq_true c4
    clear c4
    obtain rfl := Option.some.inj H
    go_enter Try.func13, Try.ntmps13
    go_wp2_with (first | ((with_reducible refine gate_callee (f := 35) rfl ?_); refine goesL_ (some 18) rfl rfl Try.func35 (by kernel_rfl) rfl #[.slice A0 l0.length c0, .int .i64 1048576] rfl (by (try simp only [List.map_toArray, List.map_cons, List.map_nil]); first | done | rfl | (simp only [List.length_drop, List.length_take]; rfl)) ?_; (with_reducible refine (laws_szFuncS.calls _ _ l0 1048576 t101 _ ?side1 ?side2 A3.out).mono ?_); (case side1 => repeat (first | exact HR0.out | (with_reducible refine Kd.C_alloc ?_ _) | (with_reducible refine Kd.C_drewN ?_ _) | (with_reducible refine Kd.C_drew ?_))); (case side2 => exact HC0.out); rintro e w' ⟨rfl, ⟨nd, rfl⟩⟩; refine ⟨_, rfl, ?_⟩))
    go_ret
    exact ⟨by first | rfl | (simp [errW_none, errW_some] <;> rfl) | (simp [*, errW_none, errW_some] <;> rfl), by repeat (first | (with_reducible first | exact HB.out | apply below_alloc | apply pw_below_drewN | apply below_drew1) | exact HB.out)⟩
  · rw [if_neg c4] at H
    have c4b0 : decide (t101 < 0) = false := decide_eq_false c4
    clear c4
    replace H := Option.bind_eq_some_iff.mp H
    obtain ⟨t102, A50, H⟩ := H
    replace H : ((spec_CentraliserOf.f k t102 a1).bind fun bt105 => ((laws_toFuncS.f k l0).bind fun t109 => ((impl_CentraliserOf.f k t109 a1).bind fun bt112 => ((laws_eqFuncS.f k bt112.1 bt105.1).bind fun t116 => (if t116 = true then (laws_FnExactCentraliserOf.j0 k l0 a1 bt105.1 bt105.2 t109 bt112.1 bt112.2 (bt112.2 != bt105.2)) else (laws_FnExactCentraliserOf.j0 k l0 a1 bt105.1 bt105.2 t109 bt112.1 bt112.2 true)))))) = some r := H
    have A5 := Aside0.mk A50
    clear A50
    replace H := Option.bind_eq_some_iff.mp H
    obtain ⟨⟨t105, t106⟩, A60, H⟩ := H
    replace H : ((laws_toFuncS.f k l0).bind fun t109 => ((impl_CentraliserOf.f k t109 a1).bind fun bt112 => ((laws_eqFuncS.f k bt112.1 t105).bind fun t116 => (if t116 = true then (laws_FnExactCentraliserOf.j0 k l0 a1 t105 t106 t109 bt112.1 bt112.2 (bt112.2 != t106)) else (laws_FnExactCentraliserOf.j0 k l0 a1 t105 t106 t109 bt112.1 bt112.2 true))))) = some r := H
    have A6 := Aside0.mk A60
    clear A60
    replace H := Option.bind_eq_some_iff.mp H
    obtain ⟨t109, A70, H⟩ := H
    replace H : ((impl_CentraliserOf.f k t109 a1).bind fun bt112 => ((laws_eqFuncS.f k bt112.1 t105).bind fun t116 => (if t116 = true then (laws_FnExactCentraliserOf.j0 k l0 a1 t105 t106 t109 bt112.1 bt112.2 (bt112.2 != t106)) else (laws_FnExactCentraliserOf.j0 k l0 a1 t105 t106 t109 bt112.1 bt112.2 true)))) = some r := H
    have A7 := Aside0.mk A70
    clear A70
    obtain rfl := Option.some.inj (A5.out.symm.trans A7.out)
    replace H := Option.bind_eq_some_iff.mp H
    obtain ⟨⟨t112, t113⟩, A80, H⟩ := H
    replace H : ((laws_eqFuncS.f k t112 t105).bind fun t116 => (if t116 = true then (laws_FnExactCentraliserOf.j0 k l0 a1 t105 t106 t102 t112 t113 (t113 != t106)) else (laws_FnExactCentraliserOf.j0 k l0 a1 t105 t106 t102 t112 t113 true))) = some r := H
    have A8 := Aside0.mk A80
    clear A80
    have HC9 := Aside0.mk H
    clear H
    go_enter Try.func13, Try.ntmps13
    go_upto_region 8 with (first | ((with_reducible refine gate_callee (f := 35) rfl ?_); refine goesL_ (some 18) rfl rfl Try.func35 (by kernel_rfl) rfl #[.slice A0 l0.length c0, .int .i64 1048576] rfl (by (try simp only [List.map_toArray, List.map_cons, List.map_nil]); first | done | rfl | (simp only [List.length_drop, List.length_take]; rfl)) ?_; (with_reducible refine (laws_szFuncS.calls _ _ l0 1048576 t101 _ ?side1 ?side2 A3.out).mono ?_); (case side1 => repeat (first | exact HR0.out | (with_reducible refine Kd.C_alloc ?_ _) | (with_reducible refine Kd.C_drewN ?_ _) | (with_reducible refine Kd.C_drew ?_))); (case side2 => exact HC0.out); rintro e w' ⟨rfl, ⟨nd, rfl⟩⟩; refine ⟨_, rfl, ?_⟩) | ((with_reducible refine gate_callee (f := 37) rfl ?_); refine goesL_ (some 23) rfl rfl Try.func37 (by kernel_rfl) rfl #[.slice A0 l0.length c0] rfl (by (try simp only [List.map_toArray, List.map_cons, List.map_nil]); first | done | rfl | (simp only [List.length_drop, List.length_take]; rfl)) ?_; (with_reducible refine (laws_toFuncS.calls k _ _ l0 t102 _ ?side1 ?side2 A5.out).mono ?_); (case side1 => repeat (first | exact HR0.out | (with_reducible refine Kd.C_alloc ?_ _) | (with_reducible refine Kd.C_drewN ?_ _) | (with_reducible refine Kd.C_drew ?_))); (case side2 => exact HC0.out); rintro e w10 ⟨v103, rfl, ho0, hb⟩; refine ⟨_, rfl, ?_⟩; have n0_ := Aside0.mk (Kd.R_lower ho0 (below_size (by repeat (first | (with_reducible first | exact HB.out | apply below_alloc | apply pw_below_drewN | apply below_drew1) | exact HB.out)))); have n1_ := Aside0.mk (below_step (by repeat (first | (with_reducible first | exact HB.out | apply below_alloc | apply pw_below_drewN | apply below_drew1) | exact HB.out)) hb); clear HB; have HO104 := n0_; have HB := n1_; clear n0_ n1_; (try clear hb); (try clear hb2); (try clear hk); (try clear hi); (try clear ho0); obtain ⟨Ao11, co11, eo11⟩ := Kd.R_slice HO104.out; subst eo11) | ((with_reducible refine gate_callee (f := 45) rfl ?_); refine goesL_ (some 25) rfl rfl Try.func45 (by kernel_rfl) rfl #[.slice Ao11 t102.length co11, .int .i64 a1] rfl (by (try simp only [List.map_toArray, List.map_cons, List.map_nil]); first | done | rfl | (simp only [List.length_drop, List.length_take]; rfl)) ?_; (with_reducible refine (spec_CentraliserOf.calls k _ _ t102 a1 t105 t106 _ ?side1 ?side2 A6.out).mono ?_); (case side1 => repeat (first | exact (Kd.R_reads' HO104.out).2.2 | (with_reducible refine Kd.C_alloc ?_ _) | (with_reducible refine Kd.C_drewN ?_ _) | (with_reducible refine Kd.C_drew ?_))); (case side2 => exact (Kd.R_reads' HO104.out).2.1); rintro e w12 ⟨v107, rfl, ho0, hb⟩; refine ⟨_, rfl, ?_⟩; have n0_ := Aside0.mk (Kd.R_elder' (by (with_reducible repeat (first | apply Kd.R_alloc | apply Kd.R_drewN | apply Kd.R_drew)); exact HO104.out) (Kd.R_base ho0) hb); have n1_ := Aside0.mk (Kd.R_lower (Kd.R_new' ho0 (Kd.R_lt (by (with_reducible repeat (first | apply Kd.R_alloc | apply Kd.R_drewN | apply Kd.R_drew)); exact HO104.out))) (below_size (by repeat (first | (with_reducible first | exact HB.out | apply below_alloc | apply pw_below_drewN | apply below_drew1) | exact HB.out)))); have n2_ := Aside0.mk (below_step (by repeat (first | (with_reducible first | exact HB.out | apply below_alloc | apply pw_below_drewN | apply below_drew1) | exact HB.out)) hb); clear HO104; clear HB; have HO104 := n0_; have HO108 := n1_; have HB := n2_; clear n0_ n1_ n2_; (try clear hb); (try clear hb2); (try clear hk); (try clear hi); (try clear ho0)) | ((with_reducible refine gate_callee (f := 37) rfl ?_); refine goesL_ (some 29) rfl rfl Try.func37 (by kernel_rfl) rfl #[.slice A0 l0.length c0] rfl (by (try simp only [List.map_toArray, List.map_cons, List.map_nil]); first | done | rfl | (simp only [List.length_drop, List.length_take]; rfl)) ?_; (with_reducible refine (laws_toFuncS.calls k _ _ l0 t102 _ ?side1 ?side2 A7.out).mono ?_); (case side1 => repeat (first | exact (Kd.C_below HR0.out HB.out) | (with_reducible refine Kd.C_alloc ?_ _) | (with_reducible refine Kd.C_drewN ?_ _) | (with_reducible refine Kd.C_drew ?_))); (case side2 => exact HC0.out); rintro e w13 ⟨v110, rfl, ho0, hb⟩; refine ⟨_, rfl, ?_⟩; have n0_ := Aside0.mk (Kd.R_elder' (by (with_reducible repeat (first | apply Kd.R_alloc | apply Kd.R_drewN | apply Kd.R_drew)); exact HO104.out) (Kd.R_base ho0) hb); have n1_ := Aside0.mk (Kd.R_elder' (by (with_reducible repeat (first | apply Kd.R_alloc | apply Kd.R_drewN | apply Kd.R_drew)); exact HO108.out) (Kd.R_base ho0) hb); have n2_ := Aside0.mk (Kd.R_lower (Kd.R_new' (Kd.R_new' ho0 (Kd.R_lt (by (with_reducible repeat (first | apply Kd.R_alloc | apply Kd.R_drewN | apply Kd.R_drew)); exact HO104.out))) (Kd.R_lt (by (with_reducible repeat (first | apply Kd.R_alloc | apply Kd.R_drewN | apply Kd.R_drew)); exact HO108.out))) (below_size (by repeat (first | (with_reducible first | exact HB.out | apply below_alloc | apply pw_below_drewN | apply below_drew1) | exact HB.out)))); have n3_ := Aside0.mk (below_step (by repeat (first | (with_reducible first | exact HB.out | apply below_alloc | apply pw_below_drewN | apply below_drew1) | exact HB.out)) hb); clear HO104; clear HO108; clear HB; have HO104 := n0_; have HO108 := n1_; have HO111 := n2_; have HB := n3_; clear n0_ n1_ n2_ n3_; (try clear hb); (try clear hb2); (try clear hk); (try clear hi); (try clear ho0); obtain ⟨Ao14, co14, eo14⟩ := Kd.R_slice HO111.out; subst eo14) | ((with_reducible refine gate_callee (f := 46) rfl ?_); refine goesL_ (some 33) rfl rfl Try.func46 (by kernel_rfl) rfl #[.slice Ao14 t102.length co14, .int .i64 a1] rfl (by (try simp only [List.map_toArray, List.map_cons, List.map_nil]); first | done | rfl | (simp only [List.length_drop, List.length_take]; rfl)) ?_; (with_reducible refine (impl_CentraliserOf.calls k _ _ t102 a1 t112 t113 _ ?side1 ?side2 A8.out).mono ?_); (case side1 => repeat (first | exact (Kd.R_reads' HO111.out).2.2 | (with_reducible refine Kd.C_alloc ?_ _) | (with_reducible refine Kd.C_drewN ?_ _) | (with_reducible refine Kd.C_drew ?_))); (case side2 => exact (Kd.R_reads' HO111.out).2.1); rintro e w15 ⟨v114, rfl, ho0, hb⟩; refine ⟨_, rfl, ?_⟩; have n0_ := Aside0.mk (Kd.R_elder' (by (with_reducible repeat (first | apply Kd.R_alloc | apply Kd.R_drewN | apply Kd.R_drew)); exact HO104.out) (Kd.R_base ho0) hb); have n1_ := Aside0.mk (Kd.R_elder' (by (with_reducible repeat (first | apply Kd.R_alloc | apply Kd.R_drewN | apply Kd.R_drew)); exact HO108.out) (Kd.R_base ho0) hb); have n2_ := Aside0.mk (Kd.R_elder' (by (with_reducible repeat (first | apply Kd.R_alloc | apply Kd.R_drewN | apply Kd.R_drew)); exact HO111.out) (Kd.R_base ho0) hb); have n3_ := Aside0.mk (Kd.R_lower (Kd.R_new' (Kd.R_new' (Kd.R_new' ho0 (Kd.R_lt (by (with_reducible repeat (first | apply Kd.R_alloc | apply Kd.R_drewN | apply Kd.R_drew)); exact HO104.out))) (Kd.R_lt (by (with_reducible repeat (first | apply Kd.R_alloc | apply Kd.R_drewN | apply Kd.R_drew)); exact HO108.out))) (Kd.R_lt (by (with_reducible repeat (first | apply Kd.R_alloc | apply Kd.R_drewN | apply Kd.R_drew)); exact HO111.out))) (below_size (by repeat (first | (with_reducible first | exact HB.out | apply below_alloc | apply pw_below_drewN | apply below_drew1) | exact HB.out)))); have n4_ := Aside0.mk (below_step (by repeat (first | (with_reducible first | exact HB.out | apply below_alloc | apply pw_below_drewN | apply below_drew1) | exact HB.out)) hb); clear HO104; clear HO108; clear HO111; clear HB; have HO104 := n0_; have HO108 := n1_; have HO111 := n2_; have HO115 := n3_; have HB := n4_; clear n0_ n1_ n2_ n3_ n4_; (try clear hb); (try clear hb2); (try clear hk); (try clear hi); (try clear ho0)))
    (try simp only [Act.put, List.setIfInBounds_toArray, List.set_cons_zero, List.set_cons_succ])
    go_cut [44] (fun v44 wc => ∃ (kq : Nat) (x44_8 : Bool), v44 = .bool x44_8 ∧ Aside0 (laws_FnExactCentraliserOf.j0 kq l0 a1 t105 t106 t102 t112 t113 x44_8 = some r) ∧ Aside0 (kq ≤ k) ∧ Aside0 (Kd.R k26 26 wc w.heap.size (fun k_ => some k_ ≠ ((.slice Ao14 t102.length co14) : Value).ownBlock ∧ some k_ ≠ (v114 : Value).ownBlock) v107 t105) ∧ Aside0 (Kd.R k26 26 wc w.heap.size (fun k_ => some k_ ≠ (v107 : Value).ownBlock ∧ some k_ ≠ (v114 : Value).ownBlock) (.slice Ao14 t102.length co14) t102) ∧ Aside0 (Kd.R k26 26 wc w.heap.size (fun k_ => some k_ ≠ (v107 : Value).ownBlock ∧ some k_ ≠ ((.slice Ao14 t102.length co14) : Value).ownBlock) v114 t112) ∧ Aside0 (Below w.heap.size w wc))
    case first =>
      have H := HC9.out
      clear HC9
      replace H := Option.bind_eq_some_iff.mp H
      obtain ⟨t116, A160, H⟩ := H
      replace H : (if t116 = true then (laws_FnExactCentraliserOf.j0 k l0 a1 t105 t106 t102 t112 t113 (t113 != t106)) else (laws_FnExactCentraliserOf.j0 k l0 a1 t105 t106 t102 t112 t113 true)) = some r := H
      have A16 := Aside0.mk A160
      clear A160
      by_cases c17 : t116 = true
      · subst c17
        have H1 : (laws_FnExactCentraliserOf.j0 k l0 a1 t105 t106 t102 t112 t113 (t113 != t106)) = some r := by rw [if_pos rfl] at H; exact H
        clear H
        have H := H1
        clear H1
        have H' := Aside0.mk H
        clear H
        obtain ⟨Ao18, co18, eo18⟩ := Kd.R_slice HO115.out
        subst eo18
        obtain ⟨Ao19, co19, eo19⟩ := Kd.R_slice HO108.out
        subst eo19
        go_wp2_with (first | ((with_reducible refine gate_callee (f := 39) rfl ?_); refine goesL_ (some 38) rfl rfl Try.func39 (by kernel_rfl) rfl #[.slice Ao18 t112.length co18, .slice Ao19 t105.length co19] rfl (by (try simp only [List.map_toArray, List.map_cons, List.map_nil]); first | done | rfl | (simp only [List.length_drop, List.length_take]; rfl)) ?_; (with_reducible refine (laws_eqFuncS.calls k _ _ t112 _ _ t105 true _ ?side1 ?side2 ?side3 ?side4 A16.out).mono ?_); (case side1 => repeat (first | exact (Kd.R_reads' HO115.out).2.2 | (with_reducible refine Kd.C_alloc ?_ _) | (with_reducible refine Kd.C_drewN ?_ _) | (with_reducible refine Kd.C_drew ?_))); (case side2 => exact (Kd.R_reads' HO115.out).2.1); (case side3 => repeat (first | exact (Kd.R_reads' HO108.out).2.2 | (with_reducible refine Kd.C_alloc ?_ _) | (with_reducible refine Kd.C_drewN ?_ _) | (with_reducible refine Kd.C_drew ?_))); (case side4 => exact (Kd.R_reads' HO108.out).2.1); rintro e w20 ⟨rfl, hb⟩; refine ⟨_, rfl, ?_⟩; have n0_ := Aside0.mk (Kd.R_below (by (with_reducible repeat (first | apply Kd.R_alloc | apply Kd.R_drewN | apply Kd.R_drew)); exact HO104.out) hb); have n1_ := Aside0.mk (Kd.R_below (by (with_reducible repeat (first | apply Kd.R_alloc | apply Kd.R_drewN | apply Kd.R_drew)); exact HO108.out) hb); have n2_ := Aside0.mk (Kd.R_below (by (with_reducible repeat (first | apply Kd.R_alloc | apply Kd.R_drewN | apply Kd.R_drew)); exact HO111.out) hb); have n3_ := Aside0.mk (Kd.R_below (by (with_reducible repeat (first | apply Kd.R_alloc | apply Kd.R_drewN | apply Kd.R_drew)); exact HO115.out) hb); have n4_ := Aside0.mk (below_step (by repeat (first | (with_reducible first | exact HB.out | apply below_alloc | apply pw_below_drewN | apply below_drew1) | exact HB.out)) hb); clear HO104; clear HO108; clear HO111; clear HO115; clear HB; have HO104 := n0_; have HO108 := n1_; have HO111 := n2_; have HO115 := n3_; have HB := n4_; clear n0_ n1_ n2_ n3_ n4_; (try clear hb); (try clear hb2); (try clear hk); (try clear hi)))
        go_meet
        case rel => exact ⟨_, ((t113 != t106)), (by first | rfl | (simp; done) | (simp [*]; done)), H', ⟨by first | omega | exact Nat.le_refl _⟩, ⟨by (with_reducible repeat (first | apply Kd.R_alloc | apply Kd.R_drewN | apply Kd.R_drew)); exact Kd.R_mono HO108.out (fun _ hk => ⟨hk.1.2, hk.2⟩)⟩, ⟨by (with_reducible repeat (first | apply Kd.R_alloc | apply Kd.R_drewN | apply Kd.R_drew)); exact Kd.R_mono HO111.out (fun _ hk => ⟨hk.1.2, hk.2⟩)⟩, ⟨by (with_reducible repeat (first | apply Kd.R_alloc | apply Kd.R_drewN | apply Kd.R_drew)); exact Kd.R_mono HO115.out (fun _ hk => ⟨hk.1.2, hk.2⟩)⟩, ⟨by repeat (first | (with_reducible first | exact HB.out | apply below_alloc | apply pw_below_drewN | apply below_drew1) | exact HB.out)⟩⟩
      · replace c17 := Bool.eq_false_iff.mpr c17
        subst c17
        have H1 : (laws_FnExactCentraliserOf.j0 k l0 a1 t105 t106 t102 t112 t113 true) = some r := by rw [if_neg (show ¬ (false = true) by decide)] at H; exact H
        clear H
        have H := H1
        clear H1
        have H' := Aside0.mk H
        clear H
        obtain ⟨Ao21, co21, eo21⟩ := Kd.R_slice HO115.out
        subst eo21
        obtain ⟨Ao22, co22, eo22⟩ := Kd.R_slice HO108.out
        subst eo22
        go_wp2_with (first | ((with_reducible refine gate_callee (f := 39) rfl ?_); refine goesL_ (some 38) rfl rfl Try.func39 (by kernel_rfl) rfl #[.slice Ao21 t112.length co21, .slice Ao22 t105.length co22] rfl (by (try simp only [List.map_toArray, List.map_cons, List.map_nil]); first | done | rfl | (simp only [List.length_drop, List.length_take]; rfl)) ?_; (with_reducible refine (laws_eqFuncS.calls k _ _ t112 _ _ t105 false _ ?side1 ?side2 ?side3 ?side4 A16.out).mono ?_); (case side1 => repeat (first | exact (Kd.R_reads' HO115.out).2.2 | (with_reducible refine Kd.C_alloc ?_ _) | (with_reducible refine Kd.C_drewN ?_ _) | (with_reducible refine Kd.C_drew ?_))); (case side2 => exact (Kd.R_reads' HO115.out).2.1); (case side3 => repeat (first | exact (Kd.R_reads' HO108.out).2.2 | (with_reducible refine Kd.C_alloc ?_ _) | (with_reducible refine Kd.C_drewN ?_ _) | (with_reducible refine Kd.C_drew ?_))); (case side4 => exact (Kd.R_reads' HO108.out).2.1); rintro e w23 ⟨rfl, hb⟩; refine ⟨_, rfl, ?_⟩; have n0_ := Aside0.mk (Kd.R_below (by (with_reducible repeat (first | apply Kd.R_alloc | apply Kd.R_drewN | apply Kd.R_drew)); exact HO104.out) hb); have n1_ := Aside0.mk (Kd.R_below (by (with_reducible repeat (first | apply Kd.R_alloc | apply Kd.R_drewN | apply Kd.R_drew)); exact HO108.out) hb); have n2_ := Aside0.mk (Kd.R_below (by (with_reducible repeat (first | apply Kd.R_alloc | apply Kd.R_drewN | apply Kd.R_drew)); exact HO111.out) hb); have n3_ := Aside0.mk (Kd.R_below (by (with_reducible repeat (first | apply Kd.R_alloc | apply Kd.R_drewN | apply Kd.R_drew)); exact HO115.out) hb); have n4_ := Aside0.mk (below_step (by repeat (first | (with_reducible first | exact HB.out | apply below_alloc | apply pw_below_drewN | apply below_drew1) | exact HB.out)) hb); clear HO104; clear HO108; clear HO111; clear HO115; clear HB; have HO104 := n0_; have HO108 := n1_; have HO111 := n2_; have HO115 := n3_; have HB := n4_; clear n0_ n1_ n2_ n3_ n4_; (try clear hb); (try clear hb2); (try clear hk); (try clear hi)))
        go_meet
        case rel => exact ⟨_, (true), (by first | rfl | (simp; done) | (simp [*]; done)), H', ⟨by first | omega | exact Nat.le_refl _⟩, ⟨by (with_reducible repeat (first | apply Kd.R_alloc | apply Kd.R_drewN | apply Kd.R_drew)); exact Kd.R_mono HO108.out (fun _ hk => ⟨hk.1.2, hk.2⟩)⟩, ⟨by (with_reducible repeat (first | apply Kd.R_alloc | apply Kd.R_drewN | apply Kd.R_drew)); exact Kd.R_mono HO111.out (fun _ hk => ⟨hk.1.2, hk.2⟩)⟩, ⟨by (with_reducible repeat (first | apply Kd.R_alloc | apply Kd.R_drewN | apply Kd.R_drew)); exact Kd.R_mono HO115.out (fun _ hk => ⟨hk.1.2, hk.2⟩)⟩, ⟨by repeat (first | (with_reducible first | exact HB.out | apply below_alloc | apply pw_below_drewN | apply below_drew1) | exact HB.out)⟩⟩
    case rest =>
      clear HC9
      try clear c1
      try clear p2
      try clear c3
      try clear c4
      try clear c4b0
      try clear c13
      try clear c17
      obtain ⟨kq, x44_8, rfl, HA, HJ8, HO_6, HO_8, HO_9, HB⟩ := hcut
      cases kq with
      | zero => exact absurd HA.out (by simp [laws_FnExactCentraliserOf.j0])
      | succ kj8 =>
        have H := HA.out
        clear HA
        simp only [laws_FnExactCentraliserOf.j0] at H
        by_cases c24 : x44_8 = true
        · subst c24
          have H1 : (some false) = some r := by rw [if_pos rfl] at H; exact H
          clear H
          have H := H1
          clear H1
          obtain rfl := Option.some.inj H
          go_wp2
          go_ret
          exact ⟨by first | rfl | (simp [errW_none, errW_some] <;> rfl) | (simp [*, errW_none, errW_some] <;> rfl), by repeat (first | (with_reducible first | exact HB.out | apply below_alloc | apply pw_below_drewN | apply below_drew1) | exact HB.out)⟩
        · replace c24 := Bool.eq_false_iff.mpr c24
          subst c24
          have H1 : ((laws_toFuncS.f kj8 l0).bind fun t117 => ((laws_eqFuncS.f kj8 t102 t117).bind fun t120 => (if t120 = true then ((laws_markFuncS.f kj8 t102 1).bind fun bt121 => (if bt121.1 < 0 then (laws_FnExactCentraliserOf.j1 kj8 l0 a1 t105 t106 t112 true) else ((laws_eqFuncS.f kj8 t112 t105).bind fun t123 => (if t123 = true then (laws_FnExactCentraliserOf.j1 kj8 l0 a1 t105 t106 t112 (t113 != t106)) else (laws_FnExactCentraliserOf.j1 kj8 l0 a1 t105 t106 t112 true))))) else (some false)))) = some r := by rw [if_neg (show ¬ (false = true) by decide)] at H; exact H
          clear H
          have H := H1
          clear H1
          replace H := Option.bind_eq_some_iff.mp H
          obtain ⟨t117, A250, H⟩ := H
          replace H : ((laws_eqFuncS.f kj8 t102 t117).bind fun t120 => (if t120 = true then ((laws_markFuncS.f kj8 t102 1).bind fun bt121 => (if bt121.1 < 0 then (laws_FnExactCentraliserOf.j1 kj8 l0 a1 t105 t106 t112 true) else ((laws_eqFuncS.f kj8 t112 t105).bind fun t123 => (if t123 = true then (laws_FnExactCentraliserOf.j1 kj8 l0 a1 t105 t106 t112 (t113 != t106)) else (laws_FnExactCentraliserOf.j1 kj8 l0 a1 t105 t106 t112 true))))) else (some false))) = some r := H
          have A25 := Aside0.mk A250
          clear A250
          replace H := Option.bind_eq_some_iff.mp H
          obtain ⟨t120, A260, H⟩ := H
          replace H : (if t120 = true then ((laws_markFuncS.f kj8 t102 1).bind fun bt121 => (if bt121.1 < 0 then (laws_FnExactCentraliserOf.j1 kj8 l0 a1 t105 t106 t112 true) else ((laws_eqFuncS.f kj8 t112 t105).bind fun t123 => (if t123 = true then (laws_FnExactCentraliserOf.j1 kj8 l0 a1 t105 t106 t112 (t113 != t106)) else (laws_FnExactCentraliserOf.j1 kj8 l0 a1 t105 t106 t112 true))))) else (some false)) = some r := H
          have A26 := Aside0.mk A260
          clear A260
          by_cases c27 : t120 = true
          · subst c27
            have H1 : ((laws_markFuncS.f kj8 t102 1).bind fun bt121 => (if bt121.1 < 0 then (laws_FnExactCentraliserOf.j1 kj8 l0 a1 t105 t106 t112 true) else ((laws_eqFuncS.f kj8 t112 t105).bind fun t123 => (if t123 = true then (laws_FnExactCentraliserOf.j1 kj8 l0 a1 t105 t106 t112 (t113 != t106)) else (laws_FnExactCentraliserOf.j1 kj8 l0 a1 t105 t106 t112 true))))) = some r := by rw [if_pos rfl] at H; exact H
            clear H
            have H := H1
            clear H1
            replace H := Option.bind_eq_some_iff.mp H
            obtain ⟨⟨t121, t122⟩, A280, H⟩ := H
            replace H : (if t121 < 0 then (laws_FnExactCentraliserOf.j1 kj8 l0 a1 t105 t106 t112 true) else ((laws_eqFuncS.f kj8 t112 t105).bind fun t123 => (if t123 = true then (laws_FnExactCentraliserOf.j1 kj8 l0 a1 t105 t106 t112 (t113 != t106)) else (laws_FnExactCentraliserOf.j1 kj8 l0 a1 t105 t106 t112 true)))) = some r := H
            have A28 := Aside0.mk A280
            clear A280
            have HC29 := Aside0.mk H
            clear H
            go_upto_region 14 with (first | ((with_reducible refine gate_callee (f := 37) rfl ?_); refine goesL_ (some 47) rfl rfl Try.func37 (by kernel_rfl) rfl #[.slice A0 l0.length c0] rfl (by (try simp only [List.map_toArray, List.map_cons, List.map_nil]); first | done | rfl | (simp only [List.length_drop, List.length_take]; rfl)) ?_; (with_reducible refine (laws_toFuncS.calls kj8 _ _ l0 t117 _ ?side1 ?side2 A25.out).mono ?_); (case side1 => repeat (first | exact (Kd.C_below HR0.out HB.out) | (with_reducible refine Kd.C_alloc ?_ _) | (with_reducible refine Kd.C_drewN ?_ _) | (with_reducible refine Kd.C_drew ?_))); (case side2 => exact HC0.out); rintro e w30 ⟨v118, rfl, ho0, hb⟩; refine ⟨_, rfl, ?_⟩; have n0_ := Aside0.mk (Kd.R_elder' (by (with_reducible repeat (first | apply Kd.R_alloc | apply Kd.R_drewN | apply Kd.R_drew)); exact HO_6.out) (Kd.R_base ho0) hb); have n1_ := Aside0.mk (Kd.R_elder' (by (with_reducible repeat (first | apply Kd.R_alloc | apply Kd.R_drewN | apply Kd.R_drew)); exact HO_8.out) (Kd.R_base ho0) hb); have n2_ := Aside0.mk (Kd.R_elder' (by (with_reducible repeat (first | apply Kd.R_alloc | apply Kd.R_drewN | apply Kd.R_drew)); exact HO_9.out) (Kd.R_base ho0) hb); have n3_ := Aside0.mk (Kd.R_lower (Kd.R_new' (Kd.R_new' (Kd.R_new' ho0 (Kd.R_lt (by (with_reducible repeat (first | apply Kd.R_alloc | apply Kd.R_drewN | apply Kd.R_drew)); exact HO_6.out))) (Kd.R_lt (by (with_reducible repeat (first | apply Kd.R_alloc | apply Kd.R_drewN | apply Kd.R_drew)); exact HO_8.out))) (Kd.R_lt (by (with_reducible repeat (first | apply Kd.R_alloc | apply Kd.R_drewN | apply Kd.R_drew)); exact HO_9.out))) (below_size (by repeat (first | (with_reducible first | exact HB.out | apply below_alloc | apply pw_below_drewN | apply below_drew1) | exact HB.out)))); have n4_ := Aside0.mk (below_step (by repeat (first | (with_reducible first | exact HB.out | apply below_alloc | apply pw_below_drewN | apply below_drew1) | exact HB.out)) hb); clear HO_6; clear HO_8; clear HO_9; clear HB; have HO_6 := n0_; have HO_8 := n1_; have HO_9 := n2_; have HO119 := n3_; have HB := n4_; clear n0_ n1_ n2_ n3_ n4_; (try clear hb); (try clear hb2); (try clear hk); (try clear hi); (try clear ho0); obtain ⟨Ao31, co31, eo31⟩ := Kd.R_slice HO119.out; subst eo31) | ((with_reducible refine gate_callee (f := 39) rfl ?_); refine goesL_ (some 48) rfl rfl Try.func39 (by kernel_rfl) rfl #[.slice Ao14 t102.length co14, .slice Ao31 t117.length co31] rfl (by (try simp only [List.map_toArray, List.map_cons, List.map_nil]); first | done | rfl | (simp only [List.length_drop, List.length_take]; rfl)) ?_; (with_reducible refine (laws_eqFuncS.calls kj8 _ _ t102 _ _ t117 true _ ?side1 ?side2 ?side3 ?side4 A26.out).mono ?_); (case side1 => repeat (first | exact (Kd.R_reads' HO_8.out).2.2 | (with_reducible refine Kd.C_alloc ?_ _) | (with_reducible refine Kd.C_drewN ?_ _) | (with_reducible refine Kd.C_drew ?_))); (case side2 => exact (Kd.R_reads' HO_8.out).2.1); (case side3 => repeat (first | exact (Kd.R_reads' HO119.out).2.2 | (with_reducible refine Kd.C_alloc ?_ _) | (with_reducible refine Kd.C_drewN ?_ _) | (with_reducible refine Kd.C_drew ?_))); (case side4 => exact (Kd.R_reads' HO119.out).2.1); rintro e w32 ⟨rfl, hb⟩; refine ⟨_, rfl, ?_⟩; have n0_ := Aside0.mk (Kd.R_below (by (with_reducible repeat (first | apply Kd.R_alloc | apply Kd.R_drewN | apply Kd.R_drew)); exact HO_6.out) hb); have n1_ := Aside0.mk (Kd.R_below (by (with_reducible repeat (first | apply Kd.R_alloc | apply Kd.R_drewN | apply Kd.R_drew)); exact HO_8.out) hb); have n2_ := Aside0.mk (Kd.R_below (by (with_reducible repeat (first | apply Kd.R_alloc | apply Kd.R_drewN | apply Kd.R_drew)); exact HO_9.out) hb); have n3_ := Aside0.mk (Kd.R_below (by (with_reducible repeat (first | apply Kd.R_alloc | apply Kd.R_drewN | apply Kd.R_drew)); exact HO119.out) hb); have n4_ := Aside0.mk (below_step (by repeat (first | (with_reducible first | exact HB.out | apply below_alloc | apply pw_below_drewN | apply below_drew1) | exact HB.out)) hb); clear HO_6; clear HO_8; clear HO_9; clear HO119; clear HB; have HO_6 := n0_; have HO_8 := n1_; have HO_9 := n2_; have HO119 := n3_; have HB := n4_; clear n0_ n1_ n2_ n3_ n4_; (try clear hb); (try clear hb2); (try clear hk); (try clear hi)) | ((with_reducible refine gate_callee (f := 47) rfl ?_); refine goesL_ (some 52) rfl rfl Try.func47 (by kernel_rfl) rfl #[.slice Ao14 t102.length co14, .int .i64 1] rfl (by (try simp only [List.map_toArray, List.map_cons, List.map_nil]); first | done | rfl | (simp only [List.length_drop, List.length_take]; rfl)) ?_; (with_reducible refine (laws_markFuncS.calls kj8 (fun k_ => some k_ = (.slice Ao14 t102.length co14 : Value).ownBlock) (.slice Ao14 t102.length co14) t102 1 t121 t122 w _ ?side1 ?side2 A28.out).mono ?_); (case side1 => repeat (first | (with_reducible first | exact HB.out | apply below_alloc | apply pw_below_drewN | apply below_drew1) | exact HB.out)); (case side2 => exact Kd.R_tight rfl HO_8.out); rintro e w33 ⟨rfl, hy0, hb, hkp⟩; refine ⟨_, rfl, ?_⟩; have n0_ := Aside0.mk (Kd.R_mono (ok' := fun k_ => some k_ ≠ (.slice Ao14 t102.length co14 : Value).ownBlock ∧ some k_ ≠ (v114 : Value).ownBlock ∧ some k_ ≠ (.slice Ao31 t117.length co31 : Value).ownBlock) (Kd.R_keptB (HO_6.out) hkp (fun k_ hk_ hs_ => (hk_.1.1) hs_)) (fun k_ hk_ => ⟨hk_.1.1.1, hk_.1.1.2, hk_.1.2⟩)); have n1_ := Aside0.mk (Kd.R_reok rfl hy0 (fun k_ e_ => HO_8.out.1 k_ e_)); have n2_ := Aside0.mk (Kd.R_mono (ok' := fun k_ => some k_ ≠ (v107 : Value).ownBlock ∧ some k_ ≠ (.slice Ao14 t102.length co14 : Value).ownBlock ∧ some k_ ≠ (.slice Ao31 t117.length co31 : Value).ownBlock) (Kd.R_keptB (HO_9.out) hkp (fun k_ hk_ hs_ => (hk_.1.2) hs_)) (fun k_ hk_ => ⟨hk_.1.1.1, hk_.1.1.2, hk_.1.2⟩)); have n3_ := Aside0.mk (Kd.R_mono (ok' := fun k_ => some k_ ≠ (v107 : Value).ownBlock ∧ some k_ ≠ (.slice Ao14 t102.length co14 : Value).ownBlock ∧ some k_ ≠ (v114 : Value).ownBlock) (Kd.R_keptB (HO119.out) hkp (fun k_ hk_ hs_ => (hk_.1.2) hs_)) (fun k_ hk_ => ⟨hk_.1.1.1.2, hk_.1.1.2, hk_.1.2⟩)); have n4_ := Aside0.mk (hb); clear HO_6; clear HO_8; clear HO_9; clear HO119; clear HB; have HO_6 := n0_; have HO_8 := n1_; have HO_9 := n2_; have HO119 := n3_; have HB := n4_; clear n0_ n1_ n2_ n3_ n4_; (try clear hb); (try clear hkp); (try clear hy0)))
            (try simp only [Act.put, List.setIfInBounds_toArray, List.set_cons_zero, List.set_cons_succ])
            go_cut [65] (fun v65 wc => ∃ (kq : Nat) (x65_28 : Bool), v65 = .bool x65_28 ∧ Aside0 (laws_FnExactCentraliserOf.j1 kq l0 a1 t105 t106 t112 x65_28 = some r) ∧ Aside0 (kq ≤ kj8) ∧ Aside0 (Kd.R k26 26 wc w.heap.size (fun k_ => some k_ ≠ (v114 : Value).ownBlock) v107 t105) ∧ Aside0 (Kd.R k26 26 wc w.heap.size (fun k_ => some k_ ≠ (v107 : Value).ownBlock) v114 t112) ∧ Aside0 (Below w.heap.size w wc))
            case first =>
              have H := HC29.out
              clear HC29
              by_cases c34 : t121 < 0
              · rw [if_pos c34] at H
                have c34b0 : decide (t121 < 0) = true := decide_eq_true c34
                clear c34
                (first | rw [c34b0] | (simp only [i64_w, i32_w]; rw [c34b0]) | skip)
                have H' := Aside0.mk H
                clear H
                go_wp2
                go_meet
                case rel => exact ⟨_, (true), (by first | rfl | (simp; done) | (simp [*]; done)), H', ⟨by have := HJ8.out; first | omega | exact Nat.le_refl _⟩, ⟨by (with_reducible repeat (first | apply Kd.R_alloc | apply Kd.R_drewN | apply Kd.R_drew)); exact Kd.R_mono HO_6.out (fun _ hk => hk.2.1)⟩, ⟨by (with_reducible repeat (first | apply Kd.R_alloc | apply Kd.R_drewN | apply Kd.R_drew)); exact Kd.R_mono HO_9.out (fun _ hk => hk.1)⟩, ⟨by repeat (first | (with_reducible first | exact HB.out | apply below_alloc | apply pw_below_drewN | apply below_drew1) | exact HB.out)⟩⟩
              · rw [if_neg c34] at H
                have c34b0 : decide (t121 < 0) = false := decide_eq_false c34
                clear c34
                (first | rw [c34b0] | (simp only [i64_w, i32_w]; rw [c34b0]) | skip)
                replace H := Option.bind_eq_some_iff.mp H
                obtain ⟨t123, A350, H⟩ := H
                replace H : (if t123 = true then (laws_FnExactCentraliserOf.j1 kj8 l0 a1 t105 t106 t112 (t113 != t106)) else (laws_FnExactCentraliserOf.j1 kj8 l0 a1 t105 t106 t112 true)) = some r := H
                have A35 := Aside0.mk A350
                clear A350
                by_cases c36 : t123 = true
                · subst c36
                  have H1 : (laws_FnExactCentraliserOf.j1 kj8 l0 a1 t105 t106 t112 (t113 != t106)) = some r := by rw [if_pos rfl] at H; exact H
                  clear H
                  have H := H1
                  clear H1
                  have H' := Aside0.mk H
                  clear H
                  obtain ⟨Ao37, co37, eo37⟩ := Kd.R_slice HO_9.out
                  subst eo37
                  obtain ⟨Ao38, co38, eo38⟩ := Kd.R_slice HO_6.out
                  subst eo38
                  go_wp2_with (first | (go_at_call 39; (with_reducible refine (laws_eqFuncS.calls kj8 _ _ t112 _ _ t105 true _ ?side1 ?side2 ?side3 ?side4 A35.out).mono ?_); (case side1 => repeat (first | exact (Kd.R_reads' HO_9.out).2.2 | (with_reducible refine Kd.C_alloc ?_ _) | (with_reducible refine Kd.C_drewN ?_ _) | (with_reducible refine Kd.C_drew ?_))); (case side2 => exact (Kd.R_reads' HO_9.out).2.1); (case side3 => repeat (first | exact (Kd.R_reads' HO_6.out).2.2 | (with_reducible refine Kd.C_alloc ?_ _) | (with_reducible refine Kd.C_drewN ?_ _) | (with_reducible refine Kd.C_drew ?_))); (case side4 => exact (Kd.R_reads' HO_6.out).2.1); rintro e w39 ⟨rfl, hb⟩; have n0_ := Aside0.mk (Kd.R_below (by (with_reducible repeat (first | apply Kd.R_alloc | apply Kd.R_drewN | apply Kd.R_drew)); exact HO_6.out) hb); have n1_ := Aside0.mk (Kd.R_below (by (with_reducible repeat (first | apply Kd.R_alloc | apply Kd.R_drewN | apply Kd.R_drew)); exact HO_8.out) hb); have n2_ := Aside0.mk (Kd.R_below (by (with_reducible repeat (first | apply Kd.R_alloc | apply Kd.R_drewN | apply Kd.R_drew)); exact HO_9.out) hb); have n3_ := Aside0.mk (Kd.R_below (by (with_reducible repeat (first | apply Kd.R_alloc | apply Kd.R_drewN | apply Kd.R_drew)); exact HO119.out) hb); have n4_ := Aside0.mk (below_step (by repeat (first | (with_reducible first | exact HB.out | apply below_alloc | apply pw_below_drewN | apply below_drew1) | exact HB.out)) hb); clear HO_6; clear HO_8; clear HO_9; clear HO119; clear HB; have HO_6 := n0_; have HO_8 := n1_; have HO_9 := n2_; have HO119 := n3_; have HB := n4_; clear n0_ n1_ n2_ n3_ n4_; (try clear hb); (try clear hb2); (try clear hk); (try clear hi)))
                  go_meet
                  case rel => exact ⟨_, ((t113 != t106)), (by first | rfl | (simp; done) | (simp [*]; done)), H', ⟨by have := HJ8.out; first | omega | exact Nat.le_refl _⟩, ⟨by (with_reducible repeat (first | apply Kd.R_alloc | apply Kd.R_drewN | apply Kd.R_drew)); exact Kd.R_mono HO_6.out (fun _ hk => hk.2.1)⟩, ⟨by (with_reducible repeat (first | apply Kd.R_alloc | apply Kd.R_drewN | apply Kd.R_drew)); exact Kd.R_mono HO_9.out (fun _ hk => hk.1)⟩, ⟨by repeat (first | (with_reducible first | exact HB.out | apply below_alloc | apply pw_below_drewN | apply below_drew1) | exact HB.out)⟩⟩
                · replace c36 := Bool.eq_false_iff.mpr c36
                  subst c36
                  have H1 : (laws_FnExactCentraliserOf.j1 kj8 l0 a1 t105 t106 t112 true) = some r := by rw [if_neg (show ¬ (false = true) by decide)] at H; exact H
                  clear H
                  have H := H1
                  clear H1
                  have H' := Aside0.mk H
                  clear H
                  obtain ⟨Ao40, co40, eo40⟩ := Kd.R_slice HO_9.out
                  subst eo40
                  obtain ⟨Ao41, co41, eo41⟩ := Kd.R_slice HO_6.out
                  subst eo41
                  go_wp2_with (first | (go_at_call 39; (with_reducible refine (laws_eqFuncS.calls kj8 _ _ t112 _ _ t105 false _ ?side1 ?side2 ?side3 ?side4 A35.out).mono ?_); (case side1 => repeat (first | exact (Kd.R_reads' HO_9.out).2.2 | (with_reducible refine Kd.C_alloc ?_ _) | (with_reducible refine Kd.C_drewN ?_ _) | (with_reducible refine Kd.C_drew ?_))); (case side2 => exact (Kd.R_reads' HO_9.out).2.1); (case side3 => repeat (first | exact (Kd.R_reads' HO_6.out).2.2 | (with_reducible refine Kd.C_alloc ?_ _) | (with_reducible refine Kd.C_drewN ?_ _) | (with_reducible refine Kd.C_drew ?_))); (case side4 => exact (Kd.R_reads' HO_6.out).2.1); rintro e w42 ⟨rfl, hb⟩; have n0_ := Aside0.mk (Kd.R_below (by (with_reducible repeat (first | apply Kd.R_alloc | apply Kd.R_drewN | apply Kd.R_drew)); exact HO_6.out) hb); have n1_ := Aside0.mk (Kd.R_below (by (with_reducible repeat (first | apply Kd.R_alloc | apply Kd.R_drewN | apply Kd.R_drew)); exact HO_8.out) hb); have n2_ := Aside0.mk (Kd.R_below (by (with_reducible repeat (first | apply Kd.R_alloc | apply Kd.R_drewN | apply Kd.R_drew)); exact HO_9.out) hb); have n3_ := Aside0.mk (Kd.R_below (by (with_reducible repeat (first | apply Kd.R_alloc | apply Kd.R_drewN | apply Kd.R_drew)); exact HO119.out) hb); have n4_ := Aside0.mk (below_step (by repeat (first | (with_reducible first | exact HB.out | apply below_alloc | apply pw_below_drewN | apply below_drew1) | exact HB.out)) hb); clear HO_6; clear HO_8; clear HO_9; clear HO119; clear HB; have HO_6 := n0_; have HO_8 := n1_; have HO_9 := n2_; have HO119 := n3_; have HB := n4_; clear n0_ n1_ n2_ n3_ n4_; (try clear hb); (try clear hb2); (try clear hk); (try clear hi)))
                  go_meet
                  case rel => exact ⟨_, (true), (by first | rfl | (simp; done) | (simp [*]; done)), H', ⟨by have := HJ8.out; first | omega | exact Nat.le_refl _⟩, ⟨by (with_reducible repeat (first | apply Kd.R_alloc | apply Kd.R_drewN | apply Kd.R_drew)); exact Kd.R_mono HO_6.out (fun _ hk => hk.2.1)⟩, ⟨by (with_reducible repeat (first | apply Kd.R_alloc | apply Kd.R_drewN | apply Kd.R_drew)); exact Kd.R_mono HO_9.out (fun _ hk => hk.1)⟩, ⟨by repeat (first | (with_reducible first | exact HB.out | apply below_alloc | apply pw_below_drewN | apply below_drew1) | exact HB.out)⟩⟩
            case rest =>
              clear HC29
              try clear c1
              try clear c2
              try clear p2
              try clear c3
              try clear c4
              try clear c4b0
              try clear c13
              try clear c17
              try clear c24
              try clear c27
              try clear c34
              try clear c34b0
              try clear c35
              try clear c36
              try clear c37
              try clear c39
              try clear p2
              obtain ⟨kq, x65_28, rfl, HA, HJ28, HO_6, HO_9, HB⟩ := hcut
              cases kq with
              | zero => exact absurd HA.out (by simp [laws_FnExactCentraliserOf.j1])
              | succ kj28 =>
                have H := HA.out
                clear HA
                simp only [laws_FnExactCentraliserOf.j1] at H
                by_cases c43 : x65_28 = true
                · subst c43
                  have H1 : (some false) = some r := by rw [if_pos rfl] at H; exact H
                  clear H
                  have H := H1
                  clear H1
                  obtain rfl := Option.some.inj H
                  go_wp2
                  go_ret
                  exact ⟨by first | rfl | (simp [errW_none, errW_some] <;> rfl) | (simp [*, errW_none, errW_some] <;> rfl), by repeat (first | (with_reducible first | exact HB.out | apply below_alloc | apply pw_below_drewN | apply below_drew1) | exact HB.out)⟩
                · replace c43 := Bool.eq_false_iff.mpr c43
                  subst c43
                  have H1 : ((laws_markFuncS.f kj28 t112 1).bind fun bt124 => ((laws_heldFuncS.f kj28 bt124.2 1).bind fun t126 => (if t126 < 0 then (some false) else (if t126 = bt124.1 then ((laws_toFuncS.f kj28 l0).bind fun t127 => ((impl_CentraliserOf.f kj28 t127 a1).bind fun bt130 => ((laws_eqFuncS.f kj28 bt130.1 t105).bind fun t134 => (if t134 = true then (laws_FnExactCentraliserOf.j2 kj28 bt124.2 bt124.1 (bt130.2 != t106)) else (laws_FnExactCentraliserOf.j2 kj28 bt124.2 bt124.1 true))))) else (some false))))) = some r := by rw [if_neg (show ¬ (false = true) by decide)] at H; exact H
                  clear H
                  have H := H1
                  clear H1
                  replace H := Option.bind_eq_some_iff.mp H
                  obtain ⟨⟨t124, t125⟩, A440, H⟩ := H
                  replace H : ((laws_heldFuncS.f kj28 t125 1).bind fun t126 => (if t126 < 0 then (some false) else (if t126 = t124 then ((laws_toFuncS.f kj28 l0).bind fun t127 => ((impl_CentraliserOf.f kj28 t127 a1).bind fun bt130 => ((laws_eqFuncS.f kj28 bt130.1 t105).bind fun t134 => (if t134 = true then (laws_FnExactCentraliserOf.j2 kj28 t125 t124 (bt130.2 != t106)) else (laws_FnExactCentraliserOf.j2 kj28 t125 t124 true))))) else (some false)))) = some r := H
                  have A44 := Aside0.mk A440
                  clear A440
                  replace H := Option.bind_eq_some_iff.mp H
                  obtain ⟨t126, A450, H⟩ := H
                  replace H : (if t126 < 0 then (some false) else (if t126 = t124 then ((laws_toFuncS.f kj28 l0).bind fun t127 => ((impl_CentraliserOf.f kj28 t127 a1).bind fun bt130 => ((laws_eqFuncS.f kj28 bt130.1 t105).bind fun t134 => (if t134 = true then (laws_FnExactCentraliserOf.j2 kj28 t125 t124 (bt130.2 != t106)) else (laws_FnExactCentraliserOf.j2 kj28 t125 t124 true))))) else (some false))) = some r := H
                  have A45 := Aside0.mk A450
                  clear A450
                  by_cases c46 : t126 < 0
                  · rw [if_pos c46] at H
                    have c46b0 : decide (t126 < 0) = true := decide_eq_true c46
                    clear c46
                    obtain rfl := Option.some.inj H
                    obtain ⟨Ao47, co47, eo47⟩ := Kd.R_slice HO_9.out
                    subst eo47
                    go_wp2_with (first | ((with_reducible refine gate_callee (f := 47) rfl ?_); refine goesL_ (some 68) rfl rfl Try.func47 (by kernel_rfl) rfl #[.slice Ao47 t112.length co47, .int .i64 1] rfl (by (try simp only [List.map_toArray, List.map_cons, List.map_nil]); first | done | rfl | (simp only [List.length_drop, List.length_take]; rfl)) ?_; (with_reducible refine (laws_markFuncS.calls kj28 (fun k_ => some k_ = (.slice Ao47 t112.length co47 : Value).ownBlock) (.slice Ao47 t112.length co47) t112 1 t124 t125 w _ ?side1 ?side2 A44.out).mono ?_); (case side1 => repeat (first | (with_reducible first | exact HB.out | apply below_alloc | apply pw_below_drewN | apply below_drew1) | exact HB.out)); (case side2 => exact Kd.R_tight rfl HO_9.out); rintro e w48 ⟨rfl, hy0, hb, hkp⟩; refine ⟨_, rfl, ?_⟩; have n0_ := Aside0.mk (Kd.R_mono (ok' := fun k_ => some k_ ≠ (.slice Ao47 t112.length co47 : Value).ownBlock) (Kd.R_keptB (HO_6.out) hkp (fun k_ hk_ hs_ => (hk_) hs_)) (fun k_ hk_ => hk_.1)); have n1_ := Aside0.mk (Kd.R_reok rfl hy0 (fun k_ e_ => HO_9.out.1 k_ e_)); have n2_ := Aside0.mk (hb); clear HO_6; clear HO_9; clear HB; have HO_6 := n0_; have HO_9 := n1_; have HB := n2_; clear n0_ n1_ n2_; (try clear hb); (try clear hkp); (try clear hy0)) | ((with_reducible refine gate_callee (f := 48) rfl ?_); refine goesL_ (some 71) rfl rfl Try.func48 (by kernel_rfl) rfl #[.slice Ao47 t125.length co47, .int .i64 1] rfl (by (try simp only [List.map_toArray, List.map_cons, List.map_nil]); first | done | (rw [show t125.length = t112.length from (Kd.R_reads' HO_9.out).1.symm] <;> rfl) | rfl | (simp only [List.length_drop, List.length_take]; rfl)) ?_; (with_reducible refine (laws_heldFuncS.calls kj28 _ _ t125 1 t126 _ ?side1 ?side2 A45.out).mono ?_); (case side1 => repeat (first | exact (Kd.R_reads' HO_9.out).2.2 | (with_reducible refine Kd.C_alloc ?_ _) | (with_reducible refine Kd.C_drewN ?_ _) | (with_reducible refine Kd.C_drew ?_))); (case side2 => rw [show t125.length = t112.length from (Kd.R_reads' HO_9.out).1.symm]; exact (Kd.R_reads' HO_9.out).2.1); rintro e w' ⟨rfl, ⟨nd, rfl⟩⟩; refine ⟨_, rfl, ?_⟩))
                    go_ret
                    exact ⟨by first | rfl | (simp [errW_none, errW_some] <;> rfl) | (simp [*, errW_none, errW_some] <;> rfl), by repeat (first | (with_reducible first | exact HB.out | apply below_alloc | apply pw_below_drewN | apply below_drew1) | exact HB.out)⟩
                  · rw [if_neg c46] at H
                    have c46b0 : decide (t126 < 0) = false := decide_eq_false c46
                    clear c46
                    by_cases c49 : t126 = t124
                    · rw [if_pos c49] at H
                      have c49b0 : (t126 == t124) = true := beq_iff_eq.mpr c49
                      have c49b1 : (t126 != t124) = false := bne_eq_false_iff_eq.mpr c49
                      clear c49
                      replace H := Option.bind_eq_some_iff.mp H
                      obtain ⟨t127, A500, H⟩ := H
                      replace H : ((impl_CentraliserOf.f kj28 t127 a1).bind fun bt130 => ((laws_eqFuncS.f kj28 bt130.1 t105).bind fun t134 => (if t134 = true then (laws_FnExactCentraliserOf.j2 kj28 t125 t124 (bt130.2 != t106)) else (laws_FnExactCentraliserOf.j2 kj28 t125 t124 true)))) = some r := H
                      have A50 := Aside0.mk A500
                      clear A500
                      replace H := Option.bind_eq_some_iff.mp H
                      obtain ⟨⟨t130, t131⟩, A510, H⟩ := H
                      replace H : ((laws_eqFuncS.f kj28 t130 t105).bind fun t134 => (if t134 = true then (laws_FnExactCentraliserOf.j2 kj28 t125 t124 (t131 != t106)) else (laws_FnExactCentraliserOf.j2 kj28 t125 t124 true))) = some r := H
                      have A51 := Aside0.mk A510
                      clear A510
                      have HC52 := Aside0.mk H
                      clear H
                      obtain ⟨Ao53, co53, eo53⟩ := Kd.R_slice HO_9.out
                      subst eo53
                      go_upto_region 25 with (first | ((with_reducible refine gate_callee (f := 47) rfl ?_); refine goesL_ (some 68) rfl rfl Try.func47 (by kernel_rfl) rfl #[.slice Ao53 t112.length co53, .int .i64 1] rfl (by (try simp only [List.map_toArray, List.map_cons, List.map_nil]); first | done | rfl | (simp only [List.length_drop, List.length_take]; rfl)) ?_; (with_reducible refine (laws_markFuncS.calls kj28 (fun k_ => some k_ = (.slice Ao53 t112.length co53 : Value).ownBlock) (.slice Ao53 t112.length co53) t112 1 t124 t125 w _ ?side1 ?side2 A44.out).mono ?_); (case side1 => repeat (first | (with_reducible first | exact HB.out | apply below_alloc | apply pw_below_drewN | apply below_drew1) | exact HB.out)); (case side2 => exact Kd.R_tight rfl HO_9.out); rintro e w54 ⟨rfl, hy0, hb, hkp⟩; refine ⟨_, rfl, ?_⟩; have n0_ := Aside0.mk (Kd.R_mono (ok' := fun k_ => some k_ ≠ (.slice Ao53 t112.length co53 : Value).ownBlock) (Kd.R_keptB (HO_6.out) hkp (fun k_ hk_ hs_ => (hk_) hs_)) (fun k_ hk_ => hk_.1)); have n1_ := Aside0.mk (Kd.R_reok rfl hy0 (fun k_ e_ => HO_9.out.1 k_ e_)); have n2_ := Aside0.mk (hb); clear HO_6; clear HO_9; clear HB; have HO_6 := n0_; have HO_9 := n1_; have HB := n2_; clear n0_ n1_ n2_; (try clear hb); (try clear hkp); (try clear hy0)) | ((with_reducible refine gate_callee (f := 48) rfl ?_); refine goesL_ (some 71) rfl rfl Try.func48 (by kernel_rfl) rfl #[.slice Ao53 t125.length co53, .int .i64 1] rfl (by (try simp only [List.map_toArray, List.map_cons, List.map_nil]); first | done | (rw [show t125.length = t112.length from (Kd.R_reads' HO_9.out).1.symm] <;> rfl) | rfl | (simp only [List.length_drop, List.length_take]; rfl)) ?_; (with_reducible refine (laws_heldFuncS.calls kj28 _ _ t125 1 t126 _ ?side1 ?side2 A45.out).mono ?_); (case side1 => repeat (first | exact (Kd.R_reads' HO_9.out).2.2 | (with_reducible refine Kd.C_alloc ?_ _) | (with_reducible refine Kd.C_drewN ?_ _) | (with_reducible refine Kd.C_drew ?_))); (case side2 => rw [show t125.length = t112.length from (Kd.R_reads' HO_9.out).1.symm]; exact (Kd.R_reads' HO_9.out).2.1); rintro e w' ⟨rfl, ⟨nd, rfl⟩⟩; refine ⟨_, rfl, ?_⟩) | ((with_reducible refine gate_callee (f := 37) rfl ?_); refine goesL_ (some 79) rfl rfl Try.func37 (by kernel_rfl) rfl #[.slice A0 l0.length c0] rfl (by (try simp only [List.map_toArray, List.map_cons, List.map_nil]); first | done | rfl | (simp only [List.length_drop, List.length_take]; rfl)) ?_; (with_reducible refine (laws_toFuncS.calls kj28 _ _ l0 t127 _ ?side1 ?side2 A50.out).mono ?_); (case side1 => repeat (first | exact (Kd.C_below HR0.out (by repeat (first | (with_reducible first | exact HB.out | apply below_alloc | apply pw_below_drewN | apply below_drew1) | exact HB.out))) | (with_reducible refine Kd.C_alloc ?_ _) | (with_reducible refine Kd.C_drewN ?_ _) | (with_reducible refine Kd.C_drew ?_))); (case side2 => exact HC0.out); rintro e w55 ⟨v128, rfl, ho0, hb⟩; refine ⟨_, rfl, ?_⟩; have n0_ := Aside0.mk (Kd.R_elder' (by (with_reducible repeat (first | apply Kd.R_alloc | apply Kd.R_drewN | apply Kd.R_drew)); exact HO_6.out) (Kd.R_base ho0) hb); have n1_ := Aside0.mk (Kd.R_elder' (by (with_reducible repeat (first | apply Kd.R_alloc | apply Kd.R_drewN | apply Kd.R_drew)); exact HO_9.out) (Kd.R_base ho0) hb); have n2_ := Aside0.mk (Kd.R_lower (Kd.R_new' (Kd.R_new' ho0 (Kd.R_lt (by (with_reducible repeat (first | apply Kd.R_alloc | apply Kd.R_drewN | apply Kd.R_drew)); exact HO_6.out))) (Kd.R_lt (by (with_reducible repeat (first | apply Kd.R_alloc | apply Kd.R_drewN | apply Kd.R_drew)); exact HO_9.out))) (below_size (by repeat (first | (with_reducible first | exact HB.out | apply below_alloc | apply pw_below_drewN | apply below_drew1) | exact HB.out)))); have n3_ := Aside0.mk (below_step (by repeat (first | (with_reducible first | exact HB.out | apply below_alloc | apply pw_below_drewN | apply below_drew1) | exact HB.out)) hb); clear HO_6; clear HO_9; clear HB; have HO_6 := n0_; have HO_9 := n1_; have HO129 := n2_; have HB := n3_; clear n0_ n1_ n2_ n3_; (try clear hb); (try clear hb2); (try clear hk); (try clear hi); (try clear ho0); obtain ⟨Ao56, co56, eo56⟩ := Kd.R_slice HO129.out; subst eo56) | ((with_reducible refine gate_callee (f := 46) rfl ?_); refine goesL_ (some 81) rfl rfl Try.func46 (by kernel_rfl) rfl #[.slice Ao56 t127.length co56, .int .i64 a1] rfl (by (try simp only [List.map_toArray, List.map_cons, List.map_nil]); first | done | rfl | (simp only [List.length_drop, List.length_take]; rfl)) ?_; (with_reducible refine (impl_CentraliserOf.calls kj28 _ _ t127 a1 t130 t131 _ ?side1 ?side2 A51.out).mono ?_); (case side1 => repeat (first | exact (Kd.R_reads' HO129.out).2.2 | (with_reducible refine Kd.C_alloc ?_ _) | (with_reducible refine Kd.C_drewN ?_ _) | (with_reducible refine Kd.C_drew ?_))); (case side2 => exact (Kd.R_reads' HO129.out).2.1); rintro e w57 ⟨v132, rfl, ho0, hb⟩; refine ⟨_, rfl, ?_⟩; have n0_ := Aside0.mk (Kd.R_elder' (by (with_reducible repeat (first | apply Kd.R_alloc | apply Kd.R_drewN | apply Kd.R_drew)); exact HO_6.out) (Kd.R_base ho0) hb); have n1_ := Aside0.mk (Kd.R_elder' (by (with_reducible repeat (first | apply Kd.R_alloc | apply Kd.R_drewN | apply Kd.R_drew)); exact HO_9.out) (Kd.R_base ho0) hb); have n2_ := Aside0.mk (Kd.R_elder' (by (with_reducible repeat (first | apply Kd.R_alloc | apply Kd.R_drewN | apply Kd.R_drew)); exact HO129.out) (Kd.R_base ho0) hb); have n3_ := Aside0.mk (Kd.R_lower (Kd.R_new' (Kd.R_new' (Kd.R_new' ho0 (Kd.R_lt (by (with_reducible repeat (first | apply Kd.R_alloc | apply Kd.R_drewN | apply Kd.R_drew)); exact HO_6.out))) (Kd.R_lt (by (with_reducible repeat (first | apply Kd.R_alloc | apply Kd.R_drewN | apply Kd.R_drew)); exact HO_9.out))) (Kd.R_lt (by (with_reducible repeat (first | apply Kd.R_alloc | apply Kd.R_drewN | apply Kd.R_drew)); exact HO129.out))) (below_size (by repeat (first | (with_reducible first | exact HB.out | apply below_alloc | apply pw_below_drewN | apply below_drew1) | exact HB.out)))); have n4_ := Aside0.mk (below_step (by repeat (first | (with_reducible first | exact HB.out | apply below_alloc | apply pw_below_drewN | apply below_drew1) | exact HB.out)) hb); clear HO_6; clear HO_9; clear HO129; clear HB; have HO_6 := n0_; have HO_9 := n1_; have HO129 := n2_; have HO133 := n3_; have HB := n4_; clear n0_ n1_ n2_ n3_ n4_; (try clear hb); (try clear hb2); (try clear hk); (try clear hi); (try clear ho0)))
                      (try simp only [Act.put, List.setIfInBounds_toArray, List.set_cons_zero, List.set_cons_succ])
                      go_cut [92] (fun v92 wc => ∃ (kq : Nat) (x92_51 : Bool), v92 = .bool x92_51 ∧ Aside0 (laws_FnExactCentraliserOf.j2 kq t125 t124 x92_51 = some r) ∧ Aside0 (kq ≤ kj28) ∧ Aside0 (Kd.R k26 26 wc w.heap.size (fun _ => True) (.slice Ao53 t112.length co53) t125) ∧ Aside0 (Below w.heap.size w wc))
                      case first =>
                        have H := HC52.out
                        clear HC52
                        replace H := Option.bind_eq_some_iff.mp H
                        obtain ⟨t134, A580, H⟩ := H
                        replace H : (if t134 = true then (laws_FnExactCentraliserOf.j2 kj28 t125 t124 (t131 != t106)) else (laws_FnExactCentraliserOf.j2 kj28 t125 t124 true)) = some r := H
                        have A58 := Aside0.mk A580
                        clear A580
                        by_cases c59 : t134 = true
                        · subst c59
                          have H1 : (laws_FnExactCentraliserOf.j2 kj28 t125 t124 (t131 != t106)) = some r := by rw [if_pos rfl] at H; exact H
                          clear H
                          have H := H1
                          clear H1
                          have H' := Aside0.mk H
                          clear H
                          obtain ⟨Ao60, co60, eo60⟩ := Kd.R_slice HO133.out
                          subst eo60
                          obtain ⟨Ao61, co61, eo61⟩ := Kd.R_slice HO_6.out
                          subst eo61
                          go_wp2_with (first | ((with_reducible refine gate_callee (f := 39) rfl ?_); refine goesL_ (some 86) rfl rfl Try.func39 (by kernel_rfl) rfl #[.slice Ao60 t130.length co60, .slice Ao61 t105.length co61] rfl (by (try simp only [List.map_toArray, List.map_cons, List.map_nil]); first | done | rfl | (simp only [List.length_drop, List.length_take]; rfl)) ?_; (with_reducible refine (laws_eqFuncS.calls kj28 _ _ t130 _ _ t105 true _ ?side1 ?side2 ?side3 ?side4 A58.out).mono ?_); (case side1 => repeat (first | exact (Kd.R_reads' HO133.out).2.2 | (with_reducible refine Kd.C_alloc ?_ _) | (with_reducible refine Kd.C_drewN ?_ _) | (with_reducible refine Kd.C_drew ?_))); (case side2 => exact (Kd.R_reads' HO133.out).2.1); (case side3 => repeat (first | exact (Kd.R_reads' HO_6.out).2.2 | (with_reducible refine Kd.C_alloc ?_ _) | (with_reducible refine Kd.C_drewN ?_ _) | (with_reducible refine Kd.C_drew ?_))); (case side4 => exact (Kd.R_reads' HO_6.out).2.1); rintro e w62 ⟨rfl, hb⟩; refine ⟨_, rfl, ?_⟩; have n0_ := Aside0.mk (Kd.R_below (by (with_reducible repeat (first | apply Kd.R_alloc | apply Kd.R_drewN | apply Kd.R_drew)); exact HO_6.out) hb); have n1_ := Aside0.mk (Kd.R_below (by (with_reducible repeat (first | apply Kd.R_alloc | apply Kd.R_drewN | apply Kd.R_drew)); exact HO_9.out) hb); have n2_ := Aside0.mk (Kd.R_below (by (with_reducible repeat (first | apply Kd.R_alloc | apply Kd.R_drewN | apply Kd.R_drew)); exact HO129.out) hb); have n3_ := Aside0.mk (Kd.R_below (by (with_reducible repeat (first | apply Kd.R_alloc | apply Kd.R_drewN | apply Kd.R_drew)); exact HO133.out) hb); have n4_ := Aside0.mk (below_step (by repeat (first | (with_reducible first | exact HB.out | apply below_alloc | apply pw_below_drewN | apply below_drew1) | exact HB.out)) hb); clear HO_6; clear HO_9; clear HO129; clear HO133; clear HB; have HO_6 := n0_; have HO_9 := n1_; have HO129 := n2_; have HO133 := n3_; have HB := n4_; clear n0_ n1_ n2_ n3_ n4_; (try clear hb); (try clear hb2); (try clear hk); (try clear hi)))
                          go_meet
                          case rel => exact ⟨_, ((t131 != t106)), (by first | rfl | (simp; done) | (simp [*]; done)), H', ⟨by have := HJ8.out; have := HJ28.out; first | omega | exact Nat.le_refl _⟩, ⟨by (with_reducible repeat (first | apply Kd.R_alloc | apply Kd.R_drewN | apply Kd.R_drew)); exact Kd.R_mono HO_9.out (fun _ hk => trivial)⟩, ⟨by repeat (first | (with_reducible first | exact HB.out | apply below_alloc | apply pw_below_drewN | apply below_drew1) | exact HB.out)⟩⟩
                        · replace c59 := Bool.eq_false_iff.mpr c59
                          subst c59
                          have H1 : (laws_FnExactCentraliserOf.j2 kj28 t125 t124 true) = some r := by rw [if_neg (show ¬ (false = true) by decide)] at H; exact H
                          clear H
                          have H := H1
                          clear H1
                          have H' := Aside0.mk H
                          clear H
                          obtain ⟨Ao63, co63, eo63⟩ := Kd.R_slice HO133.out
                          subst eo63
                          obtain ⟨Ao64, co64, eo64⟩ := Kd.R_slice HO_6.out
                          subst eo64
                          go_wp2_with (first | ((with_reducible refine gate_callee (f := 39) rfl ?_); refine goesL_ (some 86) rfl rfl Try.func39 (by kernel_rfl) rfl #[.slice Ao63 t130.length co63, .slice Ao64 t105.length co64] rfl (by (try simp only [List.map_toArray, List.map_cons, List.map_nil]); first | done | rfl | (simp only [List.length_drop, List.length_take]; rfl)) ?_; (with_reducible refine (laws_eqFuncS.calls kj28 _ _ t130 _ _ t105 false _ ?side1 ?side2 ?side3 ?side4 A58.out).mono ?_); (case side1 => repeat (first | exact (Kd.R_reads' HO133.out).2.2 | (with_reducible refine Kd.C_alloc ?_ _) | (with_reducible refine Kd.C_drewN ?_ _) | (with_reducible refine Kd.C_drew ?_))); (case side2 => exact (Kd.R_reads' HO133.out).2.1); (case side3 => repeat (first | exact (Kd.R_reads' HO_6.out).2.2 | (with_reducible refine Kd.C_alloc ?_ _) | (with_reducible refine Kd.C_drewN ?_ _) | (with_reducible refine Kd.C_drew ?_))); (case side4 => exact (Kd.R_reads' HO_6.out).2.1); rintro e w65 ⟨rfl, hb⟩; refine ⟨_, rfl, ?_⟩; have n0_ := Aside0.mk (Kd.R_below (by (with_reducible repeat (first | apply Kd.R_alloc | apply Kd.R_drewN | apply Kd.R_drew)); exact HO_6.out) hb); have n1_ := Aside0.mk (Kd.R_below (by (with_reducible repeat (first | apply Kd.R_alloc | apply Kd.R_drewN | apply Kd.R_drew)); exact HO_9.out) hb); have n2_ := Aside0.mk (Kd.R_below (by (with_reducible repeat (first | apply Kd.R_alloc | apply Kd.R_drewN | apply Kd.R_drew)); exact HO129.out) hb); have n3_ := Aside0.mk (Kd.R_below (by (with_reducible repeat (first | apply Kd.R_alloc | apply Kd.R_drewN | apply Kd.R_drew)); exact HO133.out) hb); have n4_ := Aside0.mk (below_step (by repeat (first | (with_reducible first | exact HB.out | apply below_alloc | apply pw_below_drewN | apply below_drew1) | exact HB.out)) hb); clear HO_6; clear HO_9; clear HO129; clear HO133; clear HB; have HO_6 := n0_; have HO_9 := n1_; have HO129 := n2_; have HO133 := n3_; have HB := n4_; clear n0_ n1_ n2_ n3_ n4_; (try clear hb); (try clear hb2); (try clear hk); (try clear hi)))
                          go_meet
                          case rel => exact ⟨_, (true), (by first | rfl | (simp; done) | (simp [*]; done)), H', ⟨by have := HJ8.out; have := HJ28.out; first | omega | exact Nat.le_refl _⟩, ⟨by (with_reducible repeat (first | apply Kd.R_alloc | apply Kd.R_drewN | apply Kd.R_drew)); exact Kd.R_mono HO_9.out (fun _ hk => trivial)⟩, ⟨by repeat (first | (with_reducible first | exact HB.out | apply below_alloc | apply pw_below_drewN | apply below_drew1) | exact HB.out)⟩⟩
                      case rest =>
                        clear HC52
                        try clear c1
                        try clear c2
                        try clear p2
                        try clear c3
                        try clear c4
                        try clear c4b0
                        try clear c5
                        try clear c13
                        try clear c17
                        try clear c24
                        try clear c27
                        try clear c34
                        try clear c34b0
                        try clear c35
                        try clear c36
                        try clear c37
                        try clear c39
                        try clear c43
                        try clear c45
                        try clear c46
                        try clear c46b0
                        try clear c47
                        try clear c48
                        try clear c49
                        try clear c49b0
                        try clear c49b1
                        try clear c59
                        try clear p2
                        obtain ⟨kq, x92_51, rfl, HA, HJ51, HO_9, HB⟩ := hcut
                        have hl9_51 := (Kd.R_reads' HO_9.out).1
                        rw [hl9_51] at HO_9
                        (try simp only [hl9_51])
                        cases kq with
                        | zero => exact absurd HA.out (by simp [laws_FnExactCentraliserOf.j2])
                        | succ kj51 =>
                          have H := HA.out
                          clear HA
                          simp only [laws_FnExactCentraliserOf.j2] at H
                          by_cases c66 : x92_51 = true
                          · subst c66
                            have H1 : (some false) = some r := by rw [if_pos rfl] at H; exact H
                            clear H
                            have H := H1
                            clear H1
                            obtain rfl := Option.some.inj H
                            go_wp2
                            go_ret
                            exact ⟨by first | rfl | (simp [errW_none, errW_some] <;> rfl) | (simp [*, errW_none, errW_some] <;> rfl), by repeat (first | (with_reducible first | exact HB.out | apply below_alloc | apply pw_below_drewN | apply below_drew1) | exact HB.out)⟩
                          · replace c66 := Bool.eq_false_iff.mpr c66
                            subst c66
                            have H1 : ((laws_heldFuncS.f kj51 t125 1).bind fun t135 => (if t135 < 0 then (some false) else (if t135 = t124 then (some true) else (some false)))) = some r := by rw [if_neg (show ¬ (false = true) by decide)] at H; exact H
                            clear H
                            have H := H1
                            clear H1
                            replace H := Option.bind_eq_some_iff.mp H
                            obtain ⟨t135, A670, H⟩ := H
                            replace H : (if t135 < 0 then (some false) else (if t135 = t124 then (some true) else (some false))) = some r := H
                            have A67 := Aside0.mk A670
                            clear A670
                            by_cases c68 : t135 < 0
                            · rw [if_pos c68] at H
                              have c68b0 : decide (t135 < 0) = true := decide_eq_true c68
                              clear c68
                              obtain rfl := Option.some.inj H
                              go_wp2_with (first | ((with_reducible refine gate_callee (f := 48) rfl ?_); refine goesL_ (some 95) rfl rfl Try.func48 (by kernel_rfl) rfl #[.slice Ao53 t125.length co53, .int .i64 1] rfl (by (try simp only [List.map_toArray, List.map_cons, List.map_nil]); first | done | rfl | (simp only [List.length_drop, List.length_take]; rfl)) ?_; (with_reducible refine (laws_heldFuncS.calls kj51 _ _ t125 1 t135 _ ?side1 ?side2 A67.out).mono ?_); (case side1 => repeat (first | exact (Kd.R_reads' HO_9.out).2.2 | (with_reducible refine Kd.C_alloc ?_ _) | (with_reducible refine Kd.C_drewN ?_ _) | (with_reducible refine Kd.C_drew ?_))); (case side2 => exact (Kd.R_reads' HO_9.out).2.1); rintro e w' ⟨rfl, ⟨nd, rfl⟩⟩; refine ⟨_, rfl, ?_⟩))
                              go_ret
                              exact ⟨by first | rfl | (simp [errW_none, errW_some] <;> rfl) | (simp [*, errW_none, errW_some] <;> rfl), by repeat (first | (with_reducible first | exact HB.out | apply below_alloc | apply pw_below_drewN | apply below_drew1) | exact HB.out)⟩
                            · rw [if_neg c68] at H
                              have c68b0 : decide (t135 < 0) = false := decide_eq_false c68
                              clear c68
                              by_cases c69 : t135 = t124
                              · rw [if_pos c69] at H
                                have c69b0 : (t135 == t124) = true := beq_iff_eq.mpr c69
                                have c69b1 : (t135 != t124) = false := bne_eq_false_iff_eq.mpr c69
                                clear c69
                                obtain rfl := Option.some.inj H
                                go_wp2_with (first | ((with_reducible refine gate_callee (f := 48) rfl ?_); refine goesL_ (some 95) rfl rfl Try.func48 (by kernel_rfl) rfl #[.slice Ao53 t125.length co53, .int .i64 1] rfl (by (try simp only [List.map_toArray, List.map_cons, List.map_nil]); first | done | rfl | (simp only [List.length_drop, List.length_take]; rfl)) ?_; (with_reducible refine (laws_heldFuncS.calls kj51 _ _ t125 1 t135 _ ?side1 ?side2 A67.out).mono ?_); (case side1 => repeat (first | exact (Kd.R_reads' HO_9.out).2.2 | (with_reducible refine Kd.C_alloc ?_ _) | (with_reducible refine Kd.C_drewN ?_ _) | (with_reducible refine Kd.C_drew ?_))); (case side2 => exact (Kd.R_reads' HO_9.out).2.1); rintro e w' ⟨rfl, ⟨nd, rfl⟩⟩; refine ⟨_, rfl, ?_⟩))
                                go_ret
                                exact ⟨by first | rfl | (simp [errW_none, errW_some] <;> rfl) | (simp [*, errW_none, errW_some] <;> rfl), by repeat (first | (with_reducible first | exact HB.out | apply below_alloc | apply pw_below_drewN | apply below_drew1) | exact HB.out)⟩
                              · rw [if_neg c69] at H
                                have c69b0 : (t135 == t124) = false := beq_eq_false_iff_ne.mpr c69
                                have c69b1 : (t135 != t124) = true := bne_iff_ne.mpr c69
                                obtain rfl := Option.some.inj H
                                go_wp2_with (first | ((with_reducible refine gate_callee (f := 48) rfl ?_); refine goesL_ (some 95) rfl rfl Try.func48 (by kernel_rfl) rfl #[.slice Ao53 t125.length co53, .int .i64 1] rfl (by (try simp only [List.map_toArray, List.map_cons, List.map_nil]); first | done | rfl | (simp only [List.length_drop, List.length_take]; rfl)) ?_; (with_reducible refine (laws_heldFuncS.calls kj51 _ _ t125 1 t135 _ ?side1 ?side2 A67.out).mono ?_); (case side1 => repeat (first | exact (Kd.R_reads' HO_9.out).2.2 | (with_reducible refine Kd.C_alloc ?_ _) | (with_reducible refine Kd.C_drewN ?_ _) | (with_reducible refine Kd.C_drew ?_))); (case side2 => exact (Kd.R_reads' HO_9.out).2.1); rintro e w' ⟨rfl, ⟨nd, rfl⟩⟩; refine ⟨_, rfl, ?_⟩))
                                go_ret
                                exact ⟨by first | rfl | (simp [errW_none, errW_some] <;> rfl) | (simp [*, errW_none, errW_some] <;> rfl), by repeat (first | (with_reducible first | exact HB.out | apply below_alloc | apply pw_below_drewN | apply below_drew1) | exact HB.out)⟩
                    · rw [if_neg c49] at H
                      have c49b0 : (t126 == t124) = false := beq_eq_false_iff_ne.mpr c49
                      have c49b1 : (t126 != t124) = true := bne_iff_ne.mpr c49
                      obtain rfl := Option.some.inj H
                      obtain ⟨Ao70, co70, eo70⟩ := Kd.R_slice HO_9.out
                      subst eo70
                      go_wp2_with (first | ((with_reducible refine gate_callee (f := 47) rfl ?_); refine goesL_ (some 68) rfl rfl Try.func47 (by kernel_rfl) rfl #[.slice Ao70 t112.length co70, .int .i64 1] rfl (by (try simp only [List.map_toArray, List.map_cons, List.map_nil]); first | done | rfl | (simp only [List.length_drop, List.length_take]; rfl)) ?_; (with_reducible refine (laws_markFuncS.calls kj28 (fun k_ => some k_ = (.slice Ao70 t112.length co70 : Value).ownBlock) (.slice Ao70 t112.length co70) t112 1 t124 t125 w _ ?side1 ?side2 A44.out).mono ?_); (case side1 => repeat (first | (with_reducible first | exact HB.out | apply below_alloc | apply pw_below_drewN | apply below_drew1) | exact HB.out)); (case side2 => exact Kd.R_tight rfl HO_9.out); rintro e w71 ⟨rfl, hy0, hb, hkp⟩; refine ⟨_, rfl, ?_⟩; have n0_ := Aside0.mk (Kd.R_mono (ok' := fun k_ => some k_ ≠ (.slice Ao70 t112.length co70 : Value).ownBlock) (Kd.R_keptB (HO_6.out) hkp (fun k_ hk_ hs_ => (hk_) hs_)) (fun k_ hk_ => hk_.1)); have n1_ := Aside0.mk (Kd.R_reok rfl hy0 (fun k_ e_ => HO_9.out.1 k_ e_)); have n2_ := Aside0.mk (hb); clear HO_6; clear HO_9; clear HB; have HO_6 := n0_; have HO_9 := n1_; have HB := n2_; clear n0_ n1_ n2_; (try clear hb); (try clear hkp); (try clear hy0)) | ((with_reducible refine gate_callee (f := 48) rfl ?_); refine goesL_ (some 71) rfl rfl Try.func48 (by kernel_rfl) rfl #[.slice Ao70 t125.length co70, .int .i64 1] rfl (by (try simp only [List.map_toArray, List.map_cons, List.map_nil]); first | done | (rw [show t125.length = t112.length from (Kd.R_reads' HO_9.out).1.symm] <;> rfl) | rfl | (simp only [List.length_drop, List.length_take]; rfl)) ?_; (with_reducible refine (laws_heldFuncS.calls kj28 _ _ t125 1 t126 _ ?side1 ?side2 A45.out).mono ?_); (case side1 => repeat (first | exact (Kd.R_reads' HO_9.out).2.2 | (with_reducible refine Kd.C_alloc ?_ _) | (with_reducible refine Kd.C_drewN ?_ _) | (with_reducible refine Kd.C_drew ?_))); (case side2 => rw [show t125.length = t112.length from (Kd.R_reads' HO_9.out).1.symm]; exact (Kd.R_reads' HO_9.out).2.1); rintro e w' ⟨rfl, ⟨nd, rfl⟩⟩; refine ⟨_, rfl, ?_⟩))
                      go_ret
                      exact ⟨by first | rfl | (simp [errW_none, errW_some] <;> rfl) | (simp [*, errW_none, errW_some] <;> rfl), by repeat (first | (with_reducible first | exact HB.out | apply below_alloc | apply pw_below_drewN | apply below_drew1) | exact HB.out)⟩
          · replace c27 := Bool.eq_false_iff.mpr c27
            subst c27
            have H1 : (some false) = some r := by rw [if_neg (show ¬ (false = true) by decide)] at H; exact H
            clear H
            have H := H1
            clear H1
            obtain rfl := Option.some.inj H
            go_wp2_with (first | ((with_reducible refine gate_callee (f := 37) rfl ?_); refine goesL_ (some 47) rfl rfl Try.func37 (by kernel_rfl) rfl #[.slice A0 l0.length c0] rfl (by (try simp only [List.map_toArray, List.map_cons, List.map_nil]); first | done | rfl | (simp only [List.length_drop, List.length_take]; rfl)) ?_; (with_reducible refine (laws_toFuncS.calls kj8 _ _ l0 t117 _ ?side1 ?side2 A25.out).mono ?_); (case side1 => repeat (first | exact (Kd.C_below HR0.out HB.out) | (with_reducible refine Kd.C_alloc ?_ _) | (with_reducible refine Kd.C_drewN ?_ _) | (with_reducible refine Kd.C_drew ?_))); (case side2 => exact HC0.out); rintro e w72 ⟨v118, rfl, ho0, hb⟩; refine ⟨_, rfl, ?_⟩; have n0_ := Aside0.mk (Kd.R_elder' (by (with_reducible repeat (first | apply Kd.R_alloc | apply Kd.R_drewN | apply Kd.R_drew)); exact HO_6.out) (Kd.R_base ho0) hb); have n1_ := Aside0.mk (Kd.R_elder' (by (with_reducible repeat (first | apply Kd.R_alloc | apply Kd.R_drewN | apply Kd.R_drew)); exact HO_8.out) (Kd.R_base ho0) hb); have n2_ := Aside0.mk (Kd.R_elder' (by (with_reducible repeat (first | apply Kd.R_alloc | apply Kd.R_drewN | apply Kd.R_drew)); exact HO_9.out) (Kd.R_base ho0) hb); have n3_ := Aside0.mk (Kd.R_lower (Kd.R_new' (Kd.R_new' (Kd.R_new' ho0 (Kd.R_lt (by (with_reducible repeat (first | apply Kd.R_alloc | apply Kd.R_drewN | apply Kd.R_drew)); exact HO_6.out))) (Kd.R_lt (by (with_reducible repeat (first | apply Kd.R_alloc | apply Kd.R_drewN | apply Kd.R_drew)); exact HO_8.out))) (Kd.R_lt (by (with_reducible repeat (first | apply Kd.R_alloc | apply Kd.R_drewN | apply Kd.R_drew)); exact HO_9.out))) (below_size (by repeat (first | (with_reducible first | exact HB.out | apply below_alloc | apply pw_below_drewN | apply below_drew1) | exact HB.out)))); have n4_ := Aside0.mk (below_step (by repeat (first | (with_reducible first | exact HB.out | apply below_alloc | apply pw_below_drewN | apply below_drew1) | exact HB.out)) hb); clear HO_6; clear HO_8; clear HO_9; clear HB; have HO_6 := n0_; have HO_8 := n1_; have HO_9 := n2_; have HO119 := n3_; have HB := n4_; clear n0_ n1_ n2_ n3_ n4_; (try clear hb); (try clear hb2); (try clear hk); (try clear hi); (try clear ho0); obtain ⟨Ao73, co73, eo73⟩ := Kd.R_slice HO119.out; subst eo73) | ((with_reducible refine gate_callee (f := 39) rfl ?_); refine goesL_ (some 48) rfl rfl Try.func39 (by kernel_rfl) rfl #[.slice Ao14 t102.length co14, .slice Ao73 t117.length co73] rfl (by (try simp only [List.map_toArray, List.map_cons, List.map_nil]); first | done | rfl | (simp only [List.length_drop, List.length_take]; rfl)) ?_; (with_reducible refine (laws_eqFuncS.calls kj8 _ _ t102 _ _ t117 false _ ?side1 ?side2 ?side3 ?side4 A26.out).mono ?_); (case side1 => repeat (first | exact (Kd.R_reads' HO_8.out).2.2 | (with_reducible refine Kd.C_alloc ?_ _) | (with_reducible refine Kd.C_drewN ?_ _) | (with_reducible refine Kd.C_drew ?_))); (case side2 => exact (Kd.R_reads' HO_8.out).2.1); (case side3 => repeat (first | exact (Kd.R_reads' HO119.out).2.2 | (with_reducible refine Kd.C_alloc ?_ _) | (with_reducible refine Kd.C_drewN ?_ _) | (with_reducible refine Kd.C_drew ?_))); (case side4 => exact (Kd.R_reads' HO119.out).2.1); rintro e w74 ⟨rfl, hb⟩; refine ⟨_, rfl, ?_⟩; have n0_ := Aside0.mk (Kd.R_below (by (with_reducible repeat (first | apply Kd.R_alloc | apply Kd.R_drewN | apply Kd.R_drew)); exact HO_6.out) hb); have n1_ := Aside0.mk (Kd.R_below (by (with_reducible repeat (first | apply Kd.R_alloc | apply Kd.R_drewN | apply Kd.R_drew)); exact HO_8.out) hb); have n2_ := Aside0.mk (Kd.R_below (by (with_reducible repeat (first | apply Kd.R_alloc | apply Kd.R_drewN | apply Kd.R_drew)); exact HO_9.out) hb); have n3_ := Aside0.mk (Kd.R_below (by (with_reducible repeat (first | apply Kd.R_alloc | apply Kd.R_drewN | apply Kd.R_drew)); exact HO119.out) hb); have n4_ := Aside0.mk (below_step (by repeat (first | (with_reducible first | exact HB.out | apply below_alloc | apply pw_below_drewN | apply below_drew1) | exact HB.out)) hb); clear HO_6; clear HO_8; clear HO_9; clear HO119; clear HB; have HO_6 := n0_; have HO_8 := n1_; have HO_9 := n2_; have HO119 := n3_; have HB := n4_; clear n0_ n1_ n2_ n3_ n4_; (try clear hb); (try clear hb2); (try clear hk); (try clear hi)))
            go_ret
            exact ⟨by first | rfl | (simp [errW_none, errW_some] <;> rfl) | (simp [*, errW_none, errW_some] <;> rfl), by repeat (first | (with_reducible first | exact HB.out | apply below_alloc | apply pw_below_drewN | apply below_drew1) | exact HB.out)⟩
end
section
namespace QFnExactCentraliserOf
def ok23 (x : S23) : Prop := okI x.f0 ∧ okI x.f1
instance : Inhabited S23 := ⟨z23⟩
theorem op23 (w : World) : Opens Try.prog w 23 k23 ok23 := opens_iso (opens_struct2 Try.underlying23 (by kernel_rfl) (by kernel_rfl) (by kernel_rfl) (by kernel_rfl) (by kernel_rfl) (opens_i64 Try.underlying2) (opens_i64 Try.underlying2)) (fun x : S23 => (x.f0, x.f1)) (fun p => ⟨p.1, p.2⟩) (fun _ => rfl)
def laws_FnExactCentraliserOf.Pure : Prop := ∀ (y0 : List (S23)) (y1 : Int), (y0.length ≤ 9223372036854775807 ∧ ∀ z ∈ y0, ok23 z) → okI y1 → ∃ k, laws_FnExactCentraliserOf.f k y0 y1 = some true
end QFnExactCentraliserOf
end
section
theorem PuFnExactCentraliserOf.proved : QFnExactCentraliserOf.laws_FnExactCentraliserOf.Pure := by
  intro l a hy ha
  refine Ev.get ?_
  unfold laws_FnExactCentraliserOf.f laws_szFuncS.f
  have hm := hy.1
  rw [wrap64_id _ (by omega) (by omega)]
  by_cases hl : l.length ≤ 1048576
  · have hl2 : (l.map cF).length ≤ 1048576 := by rw [List.length_map]; exact hl
    have hA := cenA_len a (l.map cF)
    have hA2 : (cenA a (l.map cF)).1.length ≤ 1048576 := by omega
    simp only [if_neg (show ¬ ((1048576 : Int) - (l.length : Int) < 0) by omega), Option.bind_some]
    refine Ev.bind (g := fun k t => Option.bind _ _) (toFuncS_ev _ hl) ?_
    refine Ev.bind (g := fun k t => Option.bind _ _) (spec_cen_ev a _ hl2) ?_
    refine Ev.bind (g := fun k t => Option.bind _ _) (toFuncS_ev _ hl) ?_
    refine Ev.bind (g := fun k t => Option.bind _ _) (impl_cen_ev a _) ?_
    refine Ev.bind (g := fun k t => ite _ _ _) (eqFuncS_ev _ hA2) ?_
    simp only [if_true, bne_self_eq_false]
    refine Ev.step (fun k => by simp only [laws_FnExactCentraliserOf.j0, Bool.false_eq_true, if_false]; rfl) ?_
    refine Ev.bind (g := fun k t => Option.bind _ _) (toFuncS_ev _ hl) ?_
    refine Ev.bind (g := fun k t => ite _ _ _) (eqFuncS_ev _ hl2) ?_
    simp only [if_true]
    refine Ev.bind (g := fun k t => ite _ _ _) (mark_ev _ hl2) ?_
    simp only [if_neg (show ¬ (1 + 2 * (((l.map cF).length : Nat) : Int) < 0) by omega)]
    refine Ev.bind (g := fun k t => ite _ _ _) (eqFuncS_ev _ hA2) ?_
    simp only [if_true, bne_self_eq_false]
    refine Ev.step (fun k => by simp only [laws_FnExactCentraliserOf.j1, Bool.false_eq_true, if_false]; rfl) ?_
    refine Ev.bind (g := fun k t => Option.bind _ _) (mark_ev _ hA2) ?_
    refine Ev.bind (g := fun k t => ite _ _ _) (held_ev _ hA2) ?_
    simp only [if_neg (show ¬ (1 + 2 * (((cenA a (l.map cF)).1.length : Nat) : Int) < 0) by omega), if_true]
    refine Ev.bind (g := fun k t => Option.bind _ _) (toFuncS_ev _ hl) ?_
    refine Ev.bind (g := fun k t => Option.bind _ _) (impl_cen_ev a _) ?_
    refine Ev.bind (g := fun k t => ite _ _ _) (eqFuncS_ev _ hA2) ?_
    simp only [if_true, bne_self_eq_false]
    refine Ev.step (fun k => by simp only [laws_FnExactCentraliserOf.j2, Bool.false_eq_true, if_false]; rfl) ?_
    refine Ev.bind (g := fun k t => ite _ _ _) (held_ev _ hA2) ?_
    simp only [if_neg (show ¬ (1 + 2 * (((cenA a (l.map cF)).1.length : Nat) : Int) < 0) by omega), if_true]
    exact Ev.const _
  · simp only [if_pos (show (1048576 : Int) - (l.length : Int) < 0 by omega), Option.bind_some]
    simp
    exact Ev.const _
end
end Go.Proofs.Ytbnngmjkoopbmaa.D
