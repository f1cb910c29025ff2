/-
  What the Go functions that FnExactIsSemilattice reaches hand back, each as a plain function with a proof that the call does so, and plain lemmas on them; conditions: those of each theorem. Here: impl IsSemilattice 1.
-/
import Derived.Test.YtbnngmjkoopbmaaProg
import Derived.Below
import Derived.Deep.Draws
import Derived.Deep.AppendLies
import Derived.Maps.AppendAt
import Derived.OwnWalk
import Derived.Laws.BytesArg
import Derived.Laws.MakeOwn
import Derived.Laws.OwnMore
import Derived.Deep.OwnRows
import Derived.Tactics
import Derived.Lib.ConvBytes
import Derived.Laws.Slices
import Derived.WalkKit
import Derived.KernelRfl
import Derived.RowKit3
import Derived.Deep.LoopGhost
import Derived.Deep.QuietTactic
import Derived.BigQuiet
import Derived.WideLaws
import Derived.Deep.DeepCutAuto
import Derived.Deep.CutBlock
import Derived.Deep.RegionHeld3
import Derived.Laws.Rows
import Derived.Lib.AppendStr
import Derived.ArgAppend
import Derived.Laws.IdiomCopy
import Derived.OrdersHeld
import Derived.Laws.BitsLemmas
import Derived.RowKit
import Derived.Test.YtbnngmjkoopbmaaWWords
import Derived.Test.YtbnngmjkoopbmaaWLast
import Derived.Test.YtbnngmjkoopbmaaWTab
import Derived.Test.YtbnngmjkoopbmaaWFour
import Derived.Test.YtbnngmjkoopbmaaWQPut
import Derived.Test.YtbnngmjkoopbmaaWApart
import Derived.Test.YtbnngmjkoopbmaaWArr
import Derived.Test.YtbnngmjkoopbmaaWZeros
import Derived.Test.YtbnngmjkoopbmaaWFoot
import Derived.Test.YtbnngmjkoopbmaaWKept
import Derived.Test.YtbnngmjkoopbmaaWShare
import Derived.Test.YtbnngmjkoopbmaaWN
import Derived.Test.YtbnngmjkoopbmaaWFootNe
import Derived.Test.YtbnngmjkoopbmaaWAt
import Derived.Test.YtbnngmjkoopbmaaWEqStruct
import Derived.Test.YtbnngmjkoopbmaaWRepsOne
import Derived.Test.YtbnngmjkoopbmaaWInv
import Derived.Test.YtbnngmjkoopbmaaWInvWords
import Derived.Test.YtbnngmjkoopbmaaWGuard
import Derived.Test.YtbnngmjkoopbmaaWNEv
import Derived.Test.YtbnngmjkoopbmaaWMore
import Derived.ProofKit
import Derived.OpenShut
import Derived.ShutString
import Derived.ChangeOld
import Derived.SizedLaws
import Derived.Deep.Slices
import Derived.DataReads
import Derived.Shelf.Abstract
import Derived.Test.YtbnngmjkoopbmaaCFnExactIsSemilattice0
import Derived.Test.YtbnngmjkoopbmaaCFnExactIsSemilattice1
namespace Go.Proofs.Ytbnngmjkoopbmaa.D
open Go.RowKit Go.Proofs.YtbnngmjkoopbmaaW.PrintWords Go.Proofs.YtbnngmjkoopbmaaW.PrintLast Go.Proofs.YtbnngmjkoopbmaaW.PrintMore
set_option linter.unusedVariables false
set_option linter.unusedSimpArgs false
section
attribute [local go_sem] max2_int min2_int max_two min_two max_three min_three max_four min_four
/-! ### impl_IsSemilattice_1: function 58 -/
def impl_IsSemilattice_1.f (k : Nat) (a0 : Int) (a1 : Int) (a2_0 : Int) (a2_1 : Int) : Option (Bool) := (impl_Func_of.f k a2_0 a2_1 (([a1, 0] : List Int))).bind fun t105 => ((impl_Func_of.f k a2_0 a2_1 (([a0, t105] : List Int))).bind fun t109 => ((impl_Func_of.f k a2_0 a2_1 (([a0, a1] : List Int))).bind fun t113 => ((impl_Func_of.f k a2_0 a2_1 (([t113, 0] : List Int))).bind fun t117 => (if t109 = t117 then ((impl_Func_of.f k a2_0 a2_1 (([a1, 1] : List Int))).bind fun t121 => ((impl_Func_of.f k a2_0 a2_1 (([a0, t121] : List Int))).bind fun t125 => ((impl_Func_of.f k a2_0 a2_1 (([a0, a1] : List Int))).bind fun t129 => ((impl_Func_of.f k a2_0 a2_1 (([t129, 1] : List Int))).bind fun t133 => (some (t125 == t133)))))) else (some false)))))
theorem impl_IsSemilattice_1.mono : ∀ a0 a1 a2 a3 k, LeO (impl_IsSemilattice_1.f k a0 a1 a2 a3) (impl_IsSemilattice_1.f (k + 1) a0 a1 a2 a3) := by
  intro a0 a1 a2 a3 k
  unfold impl_IsSemilattice_1.f
  repeat' first
      | (with_reducible exact impl_Func_of.mono _ _ _ _)
      | (with_reducible exact LeO.refl _)
      | (with_reducible exact LeO.none _)
      | (with_reducible refine LeO.ite ?_ ?_)
      | (with_reducible refine LeO.bind ?_ (fun _ => ?_))
      | exact impl_Func_of.mono _ _ _ _
      | exact LeO.none _
      | refine LeO.ite ?_ ?_
      | refine LeO.bind ?_ (fun _ => ?_)
def impl_IsSemilattice_1.T1 : Bool × List (List Nat × List Nat) := (true, [([], []), ([], []), ([], []), ([], []), ([3], [3]), ([2, 4], [2, 4]), ([1, 5], [1, 5]), ([0, 6, 5], [0, 6]), ([], []), ([], []), ([], []), ([], []), ([10, 11], [10, 11]), ([9, 12, 7], [9, 12]), ([13], [13]), ([8, 14, 13], [8, 14]), ([7, 15], [7, 15]), ([16, 15], [16]), ([17], [17]), ([17], [17]), ([17], [17]), ([17], [17]), ([21, 17], [17, 21]), ([20, 22, 17, 17], [17, 20, 22]), ([19, 23, 17], [17, 19, 23]), ([18, 24, 23, 17], [17, 18, 24]), ([17], [17]), ([17], [17]), ([17], [17]), ([17], [17]), ([28, 29, 17], [17, 28, 29]), ([27, 30, 25, 17], [17, 27, 30]), ([31, 17], [17, 31]), ([26, 32, 31, 17], [17, 26, 32]), ([25, 33, 17], [17, 25, 33]), ([17, 34], [17, 34]), ([35, 33, 0, 1, 2, 3, 4, 5, 6, 7, 8, 9, 10, 11, 12, 13, 14, 15, 16, 17, 18, 19, 20, 21, 22, 23, 24, 25, 26, 27, 28, 29, 30, 31, 32, 33, 34, 35], [35])])
def impl_IsSemilattice_1.B1 : List Nat := [0, 0, 0, 0, 8, 28, 62, 127, 0, 0, 0, 0, 3072, 7935, 16127, 32767, 65535, 131071, 262143, 262143, 262143, 262143, 2359295, 7602175, 16515071, 33554431, 262143, 262143, 262143, 262143, 805568511, 2080374783, 4227858431, 8589934591, 17179869183, 34359738367, 68719476735]
theorem impl_IsSemilattice_1.tab1 : rtab .any (opsOf Try.f58 1) = impl_IsSemilattice_1.T1 := by kernel_rfl
theorem impl_IsSemilattice_1.bits1 : waitsOk impl_IsSemilattice_1.T1.2 impl_IsSemilattice_1.B1 = true := by kernel_rfl
set_option maxHeartbeats 8000000 in
set_option maxRecDepth 100000 in
theorem impl_IsSemilattice_1.calls (k : Nat) (a0 : Int) (a1 : Int) (g2c : Nat) (a2_0 : Int) (a2_1 : Int) (r : Bool) (w : World) (hb2 : w.heap[g2c]? = some (.cells #[.int .i64 a2_0, .int .i64 a2_1] 26 (0, 0))) (h : impl_IsSemilattice_1.f k a0 a1 a2_0 a2_1 = some r) :
    Calls Try.prog 58 #[.int .i64 a0, .int .i64 a1, .pointer (some ⟨g2c, 0, none⟩)] w fun e w' => e = .returned (.bool r) ∧ Below w.heap.size w w' := by
  have hu26 := Try.underlying26
  have BK101 := Aside0.mk hb2
  clear hb2
  have HB := Aside0.mk (Below.refl w.heap.size w)
  have H : ((impl_Func_of.f k a2_0 a2_1 (([a1, 0] : List Int))).bind fun t105 => ((impl_Func_of.f k a2_0 a2_1 (([a0, t105] : List Int))).bind fun t109 => ((impl_Func_of.f k a2_0 a2_1 (([a0, a1] : List Int))).bind fun t113 => ((impl_Func_of.f k a2_0 a2_1 (([t113, 0] : List Int))).bind fun t117 => (if t109 = t117 then ((impl_Func_of.f k a2_0 a2_1 (([a1, 1] : List Int))).bind fun t121 => ((impl_Func_of.f k a2_0 a2_1 (([a0, t121] : List Int))).bind fun t125 => ((impl_Func_of.f k a2_0 a2_1 (([a0, a1] : List Int))).bind fun t129 => ((impl_Func_of.f k a2_0 a2_1 (([t129, 1] : List Int))).bind fun t133 => (some (t125 == t133)))))) else (some false)))))) = some r := h
  clear h
  obtain ⟨y102, hy102⟩ : ∃ y_ : List Int, y_ = (([a1, 0] : List Int)) := ⟨_, rfl⟩
  replace H : ((impl_Func_of.f k a2_0 a2_1 y102).bind fun t105 => ((impl_Func_of.f k a2_0 a2_1 (([a0, t105] : List Int))).bind fun t109 => ((impl_Func_of.f k a2_0 a2_1 (([a0, a1] : List Int))).bind fun t113 => ((impl_Func_of.f k a2_0 a2_1 (([t113, 0] : List Int))).bind fun t117 => (if t109 = t117 then ((impl_Func_of.f k a2_0 a2_1 (([a1, 1] : List Int))).bind fun t121 => ((impl_Func_of.f k a2_0 a2_1 (([a0, t121] : List Int))).bind fun t125 => ((impl_Func_of.f k a2_0 a2_1 (([a0, a1] : List Int))).bind fun t129 => ((impl_Func_of.f k a2_0 a2_1 (([t129, 1] : List Int))).bind fun t133 => (some (t125 == t133)))))) else (some false)))))) = some r := by first | (rw [hy102]; with_reducible exact H) | (have H2_ := (Option.bind_some _ _).symm.trans H; rw [hy102]; with_reducible exact H2_) | (have H2_ := (Option.bind_some _ _).symm.trans H; with_reducible exact H2_) | with_reducible exact H | (rw [hy102]; exact H) | exact H
  have Ny102 := Aside0.mk hy102
  clear hy102
  replace H := Option.bind_eq_some_iff.mp H
  obtain ⟨t105, A40, H⟩ := H
  replace H : ((impl_Func_of.f k a2_0 a2_1 (([a0, t105] : List Int))).bind fun t109 => ((impl_Func_of.f k a2_0 a2_1 (([a0, a1] : List Int))).bind fun t113 => ((impl_Func_of.f k a2_0 a2_1 (([t113, 0] : List Int))).bind fun t117 => (if t109 = t117 then ((impl_Func_of.f k a2_0 a2_1 (([a1, 1] : List Int))).bind fun t121 => ((impl_Func_of.f k a2_0 a2_1 (([a0, t121] : List Int))).bind fun t125 => ((impl_Func_of.f k a2_0 a2_1 (([a0, a1] : List Int))).bind fun t129 => ((impl_Func_of.f k a2_0 a2_1 (([t129, 1] : List Int))).bind fun t133 => (some (t125 == t133)))))) else (some false))))) = some r := H
  have A4 := Aside0.mk A40
  clear A40
  obtain ⟨y106, hy106⟩ : ∃ y_ : List Int, y_ = (([a0, t105] : List Int)) := ⟨_, rfl⟩
  replace H : ((impl_Func_of.f k a2_0 a2_1 y106).bind fun t109 => ((impl_Func_of.f k a2_0 a2_1 (([a0, a1] : List Int))).bind fun t113 => ((impl_Func_of.f k a2_0 a2_1 (([t113, 0] : List Int))).bind fun t117 => (if t109 = t117 then ((impl_Func_of.f k a2_0 a2_1 (([a1, 1] : List Int))).bind fun t121 => ((impl_Func_of.f k a2_0 a2_1 (([a0, t121] : List Int))).bind fun t125 => ((impl_Func_of.f k a2_0 a2_1 (([a0, a1] : List Int))).bind fun t129 => ((impl_Func_of.f k a2_0 a2_1 (([t129, 1] : List Int))).bind fun t133 => (some (t125 == t133)))))) else (some false))))) = some r := by first | (rw [hy106]; with_reducible exact H) | (have H2_ := (Option.bind_some _ _).symm.trans H; rw [hy106]; with_reducible exact H2_) | (have H2_ := (Option.bind_some _ _).symm.trans H; with_reducible exact H2_) | with_reducible exact H | (rw [hy106]; exact H) | exact H
  have Ny106 := Aside0.mk hy106
  clear hy106
  replace H := Option.bind_eq_some_iff.mp H
  obtain ⟨t109, A50, H⟩ := H
  replace H : ((impl_Func_of.f k a2_0 a2_1 (([a0, a1] : List Int))).bind fun t113 => ((impl_Func_of.f k a2_0 a2_1 (([t113, 0] : List Int))).bind fun t117 => (if t109 = t117 then ((impl_Func_of.f k a2_0 a2_1 (([a1, 1] : List Int))).bind fun t121 => ((impl_Func_of.f k a2_0 a2_1 (([a0, t121] : List Int))).bind fun t125 => ((impl_Func_of.f k a2_0 a2_1 (([a0, a1] : List Int))).bind fun t129 => ((impl_Func_of.f k a2_0 a2_1 (([t129, 1] : List Int))).bind fun t133 => (some (t125 == t133)))))) else (some false)))) = some r := H
  have A5 := Aside0.mk A50
  clear A50
  obtain ⟨y110, hy110⟩ : ∃ y_ : List Int, y_ = (([a0, a1] : List Int)) := ⟨_, rfl⟩
  replace H : ((impl_Func_of.f k a2_0 a2_1 y110).bind fun t113 => ((impl_Func_of.f k a2_0 a2_1 (([t113, 0] : List Int))).bind fun t117 => (if t109 = t117 then ((impl_Func_of.f k a2_0 a2_1 (([a1, 1] : List Int))).bind fun t121 => ((impl_Func_of.f k a2_0 a2_1 (([a0, t121] : List Int))).bind fun t125 => ((impl_Func_of.f k a2_0 a2_1 (([a0, a1] : List Int))).bind fun t129 => ((impl_Func_of.f k a2_0 a2_1 (([t129, 1] : List Int))).bind fun t133 => (some (t125 == t133)))))) else (some false)))) = some r := by first | (rw [hy110]; with_reducible exact H) | (have H2_ := (Option.bind_some _ _).symm.trans H; rw [hy110]; with_reducible exact H2_) | (have H2_ := (Option.bind_some _ _).symm.trans H; with_reducible exact H2_) | with_reducible exact H | (rw [hy110]; exact H) | exact H
  have Ny110 := Aside0.mk hy110
  clear hy110
  replace H := Option.bind_eq_some_iff.mp H
  obtain ⟨t113, A60, H⟩ := H
  replace H : ((impl_Func_of.f k a2_0 a2_1 (([t113, 0] : List Int))).bind fun t117 => (if t109 = t117 then ((impl_Func_of.f k a2_0 a2_1 (([a1, 1] : List Int))).bind fun t121 => ((impl_Func_of.f k a2_0 a2_1 (([a0, t121] : List Int))).bind fun t125 => ((impl_Func_of.f k a2_0 a2_1 (([a0, a1] : List Int))).bind fun t129 => ((impl_Func_of.f k a2_0 a2_1 (([t129, 1] : List Int))).bind fun t133 => (some (t125 == t133)))))) else (some false))) = some r := H
  have A6 := Aside0.mk A60
  clear A60
  obtain ⟨y114, hy114⟩ : ∃ y_ : List Int, y_ = (([t113, 0] : List Int)) := ⟨_, rfl⟩
  replace H : ((impl_Func_of.f k a2_0 a2_1 y114).bind fun t117 => (if t109 = t117 then ((impl_Func_of.f k a2_0 a2_1 (([a1, 1] : List Int))).bind fun t121 => ((impl_Func_of.f k a2_0 a2_1 (([a0, t121] : List Int))).bind fun t125 => ((impl_Func_of.f k a2_0 a2_1 (([a0, a1] : List Int))).bind fun t129 => ((impl_Func_of.f k a2_0 a2_1 (([t129, 1] : List Int))).bind fun t133 => (some (t125 == t133)))))) else (some false))) = some r := by first | (rw [hy114]; with_reducible exact H) | (have H2_ := (Option.bind_some _ _).symm.trans H; rw [hy114]; with_reducible exact H2_) | (have H2_ := (Option.bind_some _ _).symm.trans H; with_reducible exact H2_) | with_reducible exact H | (rw [hy114]; exact H) | exact H
  have Ny114 := Aside0.mk hy114
  clear hy114
  replace H := Option.bind_eq_some_iff.mp H
  obtain ⟨t117, A70, H⟩ := H
  replace H : (if t109 = t117 then ((impl_Func_of.f k a2_0 a2_1 (([a1, 1] : List Int))).bind fun t121 => ((impl_Func_of.f k a2_0 a2_1 (([a0, t121] : List Int))).bind fun t125 => ((impl_Func_of.f k a2_0 a2_1 (([a0, a1] : List Int))).bind fun t129 => ((impl_Func_of.f k a2_0 a2_1 (([t129, 1] : List Int))).bind fun t133 => (some (t125 == t133)))))) else (some false)) = some r := H
  have A7 := Aside0.mk A70
  clear A70
  by_cases c8 : t109 = t117
  · rw [if_pos c8] at H
    have c8b0 : (t109 == t117) = true := beq_iff_eq.mpr c8
    have c8b1 : (t109 != t117) = false := bne_eq_false_iff_eq.mpr c8
    clear c8
    obtain ⟨y118, hy118⟩ : ∃ y_ : List Int, y_ = (([a1, 1] : List Int)) := ⟨_, rfl⟩
    replace H : ((impl_Func_of.f k a2_0 a2_1 y118).bind fun t121 => ((impl_Func_of.f k a2_0 a2_1 (([a0, t121] : List Int))).bind fun t125 => ((impl_Func_of.f k a2_0 a2_1 (([a0, a1] : List Int))).bind fun t129 => ((impl_Func_of.f k a2_0 a2_1 (([t129, 1] : List Int))).bind fun t133 => (some (t125 == t133)))))) = some r := by first | (rw [hy118]; with_reducible exact H) | (have H2_ := (Option.bind_some _ _).symm.trans H; rw [hy118]; with_reducible exact H2_) | (have H2_ := (Option.bind_some _ _).symm.trans H; with_reducible exact H2_) | with_reducible exact H | (rw [hy118]; exact H) | exact H
    have Ny118 := Aside0.mk hy118
    clear hy118
    replace H := Option.bind_eq_some_iff.mp H
    obtain ⟨t121, A90, H⟩ := H
    replace H : ((impl_Func_of.f k a2_0 a2_1 (([a0, t121] : List Int))).bind fun t125 => ((impl_Func_of.f k a2_0 a2_1 (([a0, a1] : List Int))).bind fun t129 => ((impl_Func_of.f k a2_0 a2_1 (([t129, 1] : List Int))).bind fun t133 => (some (t125 == t133))))) = some r := H
    have A9 := Aside0.mk A90
    clear A90
    obtain ⟨y122, hy122⟩ : ∃ y_ : List Int, y_ = (([a0, t121] : List Int)) := ⟨_, rfl⟩
    replace H : ((impl_Func_of.f k a2_0 a2_1 y122).bind fun t125 => ((impl_Func_of.f k a2_0 a2_1 (([a0, a1] : List Int))).bind fun t129 => ((impl_Func_of.f k a2_0 a2_1 (([t129, 1] : List Int))).bind fun t133 => (some (t125 == t133))))) = some r := by first | (rw [hy122]; with_reducible exact H) | (have H2_ := (Option.bind_some _ _).symm.trans H; rw [hy122]; with_reducible exact H2_) | (have H2_ := (Option.bind_some _ _).symm.trans H; with_reducible exact H2_) | with_reducible exact H | (rw [hy122]; exact H) | exact H
    have Ny122 := Aside0.mk hy122
    clear hy122
    replace H := Option.bind_eq_some_iff.mp H
    obtain ⟨t125, A100, H⟩ := H
    replace H : ((impl_Func_of.f k a2_0 a2_1 (([a0, a1] : List Int))).bind fun t129 => ((impl_Func_of.f k a2_0 a2_1 (([t129, 1] : List Int))).bind fun t133 => (some (t125 == t133)))) = some r := H
    have A10 := Aside0.mk A100
    clear A100
    obtain ⟨y126, hy126⟩ : ∃ y_ : List Int, y_ = (([a0, a1] : List Int)) := ⟨_, rfl⟩
    replace H : ((impl_Func_of.f k a2_0 a2_1 y126).bind fun t129 => ((impl_Func_of.f k a2_0 a2_1 (([t129, 1] : List Int))).bind fun t133 => (some (t125 == t133)))) = some r := by first | (rw [hy126]; with_reducible exact H) | (have H2_ := (Option.bind_some _ _).symm.trans H; rw [hy126]; with_reducible exact H2_) | (have H2_ := (Option.bind_some _ _).symm.trans H; with_reducible exact H2_) | with_reducible exact H | (rw [hy126]; exact H) | exact H
    have Ny126 := Aside0.mk hy126
    clear hy126
    replace H := Option.bind_eq_some_iff.mp H
    obtain ⟨t129, A110, H⟩ := H
    replace H : ((impl_Func_of.f k a2_0 a2_1 (([t129, 1] : List Int))).bind fun t133 => (some (t125 == t133))) = some r := H
    have A11 := Aside0.mk A110
    clear A110
    obtain ⟨y130, hy130⟩ : ∃ y_ : List Int, y_ = (([t129, 1] : List Int)) := ⟨_, rfl⟩
    replace H : ((impl_Func_of.f k a2_0 a2_1 y130).bind fun t133 => (some (t125 == t133))) = some r := by first | (rw [hy130]; with_reducible exact H) | (have H2_ := (Option.bind_some _ _).symm.trans H; rw [hy130]; with_reducible exact H2_) | (have H2_ := (Option.bind_some _ _).symm.trans H; with_reducible exact H2_) | with_reducible exact H | (rw [hy130]; exact H) | exact H
    have Ny130 := Aside0.mk hy130
    clear hy130
    replace H := Option.bind_eq_some_iff.mp H
    obtain ⟨t133, A120, H⟩ := H
    replace H : (some (t125 == t133)) = some r := H
    have A12 := Aside0.mk A120
    clear A120
    obtain rfl := Option.some.inj H
    go_enter Try.func58, Try.ntmps58
    try go_wp2
    have n0_ := Aside0.mk (blk_drew BK101.out)
    have n1_ := Aside0.mk (below_drew1 HB.out)
    clear BK101
    clear HB
    have BK101 := n0_
    have HB := n1_
    clear n0_ n1_
    refine start_ (n := 37) (S := fun w' => True) (ds := []) #[false, false, false, false, false, false, false, false, false, false, false, false, false, false, false, false, false, false, false, false, false, false, false, false, false, false, false, false, false, false, false, false, false, false, false, false, false] (by kernel_rfl) rfl rfl trivial (fun hHeld => ?_); refine with_tabW impl_IsSemilattice_1.tab1 impl_IsSemilattice_1.bits1 (fun HT_ HW_ => ?_)
    generalize w.drew = w13 at BK101 HB hHeld ⊢
    refine pure_ (i := 1) (N := some 7) (v := ?_) (a' := ?_) #[false, true, false, false, false, false, false, false, false, false, false, false, false, false, false, false, false, false, false, false, false, false, false, false, false, false, false, false, false, false, false, false, false, false, false, false, false] rfl rfl (any_of HT_.out (by kernel_rfl)) (fun _ _ _ h => h) (Or.inl ⟨by rfl, ?_⟩) ?_ ?_
    rotate_left
    · intro w'
      go_simp
      with_reducible rfl
    rotate_left
    · simp only [Act.put, List.setIfInBounds_toArray, List.set_cons_zero, List.set_cons_succ, i64_w, i32_w]
      rfl
    refine pure_ (i := 3) (N := some 9) (v := ?_) (a' := ?_) #[false, true, false, true, false, false, false, false, false, false, false, false, false, false, false, false, false, false, false, false, false, false, false, false, false, false, false, false, false, false, false, false, false, false, false, false, false] rfl rfl (any_of HT_.out (by kernel_rfl)) (fun _ _ _ h => h) (Or.inl ⟨by rfl, ?_⟩) ?_ ?_
    rotate_left
    · intro w'
      go_simp
      with_reducible rfl
    rotate_left
    · simp only [Act.put, List.setIfInBounds_toArray, List.set_cons_zero, List.set_cons_succ, i64_w, i32_w]
      rfl
    refine pure_ (i := 10) (N := some 16) (v := ?_) (a' := ?_) #[false, true, false, true, false, false, false, false, false, false, true, false, false, false, false, false, false, false, false, false, false, false, false, false, false, false, false, false, false, false, false, false, false, false, false, false, false] rfl rfl (any_of HT_.out (by kernel_rfl)) (fun _ _ _ h => h) (Or.inl ⟨by rfl, ?_⟩) ?_ ?_
    rotate_left
    · intro w'
      go_simp
      with_reducible rfl
    rotate_left
    · simp only [Act.put, List.setIfInBounds_toArray, List.set_cons_zero, List.set_cons_succ, i64_w, i32_w]
      rfl
    refine pure_ (i := 11) (N := some 17) (v := ?_) (a' := ?_) #[false, true, false, true, false, false, false, false, false, false, true, true, false, false, false, false, false, false, false, false, false, false, false, false, false, false, false, false, false, false, false, false, false, false, false, false, false] rfl rfl (any_of HT_.out (by kernel_rfl)) (fun _ _ _ h => h) (Or.inl ⟨by rfl, ?_⟩) ?_ ?_
    rotate_left
    · intro w'
      go_simp
      with_reducible rfl
    rotate_left
    · simp only [Act.put, List.setIfInBounds_toArray, List.set_cons_zero, List.set_cons_succ, i64_w, i32_w]
      rfl
    refine inv_at [0, 2, 4, 5, 6, 7, 8, 9, 12, 13, 14, 15, 16, 17, 18, 19, 20, 21, 22, 23, 24, 25, 26, 27, 28, 29, 30, 31, 32, 33, 34, 35, 36] (fun a0_ b a w' => ∃ (v103 : Value) (v107 : Value) (v111 : Value) (v115 : Value) (v119 : Value) (v123 : Value) (v127 : Value) (v131 : Value), a = putSel a0_ b [(0, 6, .agg #[.int .i64 a2_0, .int .i64 a2_1]), (2, 8, .agg #[.int .i64 a2_0, .int .i64 a2_1]), (4, 10, v103), (5, 11, .int .i64 t105), (6, 12, v107), (7, 13, .int .i64 t109), (8, 14, .agg #[.int .i64 a2_0, .int .i64 a2_1]), (9, 15, .agg #[.int .i64 a2_0, .int .i64 a2_1]), (12, 18, v111), (13, 19, .int .i64 t113), (14, 20, v115), (15, 21, .int .i64 t117), (16, 22, .bool (t109 == t117)), (17, 23, .bool (t109 == t117)), (18, 24, .agg #[.int .i64 a2_0, .int .i64 a2_1]), (19, 25, .int .i64 a0), (20, 26, .agg #[.int .i64 a2_0, .int .i64 a2_1]), (21, 27, .int .i64 a1), (22, 28, v119), (23, 29, .int .i64 t121), (24, 30, v123), (25, 31, .int .i64 t125), (26, 32, .agg #[.int .i64 a2_0, .int .i64 a2_1]), (27, 33, .agg #[.int .i64 a2_0, .int .i64 a2_1]), (28, 34, .int .i64 a0), (29, 35, .int .i64 a1), (30, 36, v127), (31, 37, .int .i64 t129), (32, 38, v131), (33, 39, .int .i64 t133), (34, 40, .bool (t125 == t133)), (35, 41, .bool (t125 == t133)), (36, 5, .bool (t125 == t133))] ∧ (w'.heap[g2c]? = some (.cells #[.int .i64 a2_0, .int .i64 a2_1] 26 (0, 0))) ∧ (Below w.heap.size w w') ∧ (b 4 = true → Kd.R (Kd.int .i64) 2 w' w.heap.size (fun _ => True) v103 y102) ∧ (b 6 = true → Kd.R (Kd.int .i64) 2 w' w.heap.size (fun _ => True) v107 y106) ∧ (b 12 = true → Kd.R (Kd.int .i64) 2 w' w.heap.size (fun _ => True) v111 y110) ∧ (b 14 = true → Kd.R (Kd.int .i64) 2 w' w.heap.size (fun _ => True) v115 y114) ∧ (b 22 = true → Kd.R (Kd.int .i64) 2 w' w.heap.size (fun _ => True) v119 y118) ∧ (b 24 = true → Kd.R (Kd.int .i64) 2 w' w.heap.size (fun _ => True) v123 y122) ∧ (b 30 = true → Kd.R (Kd.int .i64) 2 w' w.heap.size (fun _ => True) v127 y126) ∧ (b 32 = true → Kd.R (Kd.int .i64) 2 w' w.heap.size (fun _ => True) v131 y130)) HT_.out HW_.out (by kernel_rfl) (by kernel_rfl) ?_ ?_ ?_
    · exact ⟨.bool false, .bool false, .bool false, .bool false, .bool false, .bool false, .bool false, .bool false, by simp only [putSel, Bool.false_eq_true, if_false], BK101.out, HB.out, fun h_ => absurd h_ (by decide), fun h_ => absurd h_ (by decide), fun h_ => absurd h_ (by decide), fun h_ => absurd h_ (by decide), fun h_ => absurd h_ (by decide), fun h_ => absurd h_ (by decide), fun h_ => absurd h_ (by decide), fun h_ => absurd h_ (by decide)⟩
    · skip
      clear BK101 HB
      refine steps_cons ?_ ?_
      · rintro b a w' ⟨v103, v107, v111, v115, v119, v123, v127, v131, ha, Q_BK101, Q_HB, Q_HO104, Q_HO108, Q_HO112, Q_HO116, Q_HO120, Q_HO124, Q_HO128, Q_HO132⟩ hb_ hon hoff
        refine ⟨_, rfl, fun K hK => ?_⟩
        have e2 : a.tmps[2]? = some (.pointer (some ⟨g2c, 0, none⟩)) := by rw [ha]; exact (putSel_off rfl).trans rfl
        replace ha := Aside0.mk ha
        have BK101 := Aside0.mk Q_BK101
        have HB := Aside0.mk Q_HB
        have hc0_ : w'.cell? ⟨g2c, 0, none⟩ = some (.int .i64 a2_0) := (blk_cell BK101.out 0).trans rfl
        have hc1_ : w'.cell? ⟨g2c, 1, none⟩ = some (.int .i64 a2_1) := (blk_cell BK101.out 1).trans rfl
        refine value_ (w1 := w') (v := .agg #[.int .i64 a2_0, .int .i64 a2_1]) (by rfl) rfl ?_ ?_
        · go_simp
          (try simp only [i64_w])
          try rfl
        refine hK.out _ _ ⟨v103, v107, v111, v115, v119, v123, v127, v131, (by rw [ha.out]; exact putSel_upk 0 hb_ rfl rfl rfl), Q_BK101, Q_HB, Q_HO104, Q_HO108, Q_HO112, fun h0_ => absurd ((hoff 14 (by kernel_rfl)).symm.trans h0_) (by decide), fun h0_ => absurd ((hoff 22 (by kernel_rfl)).symm.trans h0_) (by decide), fun h0_ => absurd ((hoff 24 (by kernel_rfl)).symm.trans h0_) (by decide), fun h0_ => absurd ((hoff 30 (by kernel_rfl)).symm.trans h0_) (by decide), fun h0_ => absurd ((hoff 32 (by kernel_rfl)).symm.trans h0_) (by decide)⟩
      refine steps_cons ?_ ?_
      · rintro b a w' ⟨v103, v107, v111, v115, v119, v123, v127, v131, ha, Q_BK101, Q_HB, Q_HO104, Q_HO108, Q_HO112, Q_HO116, Q_HO120, Q_HO124, Q_HO128, Q_HO132⟩ hb_ hon hoff
        refine ⟨_, rfl, fun K hK => ?_⟩
        have e2 : a.tmps[2]? = some (.pointer (some ⟨g2c, 0, none⟩)) := by rw [ha]; exact (putSel_off rfl).trans rfl
        replace ha := Aside0.mk ha
        have BK101 := Aside0.mk Q_BK101
        have HB := Aside0.mk Q_HB
        have hc0_ : w'.cell? ⟨g2c, 0, none⟩ = some (.int .i64 a2_0) := (blk_cell BK101.out 0).trans rfl
        have hc1_ : w'.cell? ⟨g2c, 1, none⟩ = some (.int .i64 a2_1) := (blk_cell BK101.out 1).trans rfl
        refine value_ (w1 := w') (v := .agg #[.int .i64 a2_0, .int .i64 a2_1]) (by rfl) rfl ?_ ?_
        · go_simp
          (try simp only [i64_w])
          try rfl
        refine hK.out _ _ ⟨v103, v107, v111, v115, v119, v123, v127, v131, (by rw [ha.out]; exact putSel_upk 1 hb_ rfl rfl rfl), Q_BK101, Q_HB, Q_HO104, fun h0_ => absurd ((hoff 6 (by kernel_rfl)).symm.trans h0_) (by decide), Q_HO112, fun h0_ => absurd ((hoff 14 (by kernel_rfl)).symm.trans h0_) (by decide), fun h0_ => absurd ((hoff 22 (by kernel_rfl)).symm.trans h0_) (by decide), fun h0_ => absurd ((hoff 24 (by kernel_rfl)).symm.trans h0_) (by decide), fun h0_ => absurd ((hoff 30 (by kernel_rfl)).symm.trans h0_) (by decide), fun h0_ => absurd ((hoff 32 (by kernel_rfl)).symm.trans h0_) (by decide)⟩
      refine steps_cons ?_ ?_
      · rintro b a w' ⟨v103, v107, v111, v115, v119, v123, v127, v131, ha, Q_BK101, Q_HB, Q_HO104, Q_HO108, Q_HO112, Q_HO116, Q_HO120, Q_HO124, Q_HO128, Q_HO132⟩ hb_ hon hoff
        refine ⟨_, rfl, fun K hK => ?_⟩
        have e9 : a.tmps[9]? = some (.int .i64 a1) := by rw [ha]; exact (putSel_off rfl).trans rfl
        replace ha := Aside0.mk ha
        have BK101 := Aside0.mk Q_BK101
        have HB := Aside0.mk Q_HB
        refine Kd.R_lit_step (Kd.int .i64) _ 2 ?hg (N := 10) ?hd (xs := ([a1, 0] : List Int)) (inner := [.int .i64 a1, .int .i64 0]) (ok := fun _ => True) (okp := fun _ => True) ?hr ?hp (fun _ hk => by first | exact trivial | exact hk) trivial (Below.refl _ _) (Nat.le_refl _) (by simp) ?_; (case hd => rfl); (case hg => rfl); (case hr => first | (go_simp; done) | (go_simp; rfl)); (case hp => exact (Reps.one (show Kd.M (Kd.int .i64) _ _ _ a1 [.int .i64 a1] from rfl) (Reps.one (show Kd.M (Kd.int .i64) _ _ _ 0 [.int .i64 0] from rfl) (Reps.none _ _))))
        intro v103 w14 ho15 hb hg_ hnew_
        clear hg_ hnew_
        (first | rw [← Ny102.out] at ho15 | (simp only [Int.reduceToNat] at ho15; rw [← Ny102.out] at ho15))
        have n0_ := Aside0.mk (Kd.R_lower ho15 (below_size (by repeat (first | (with_reducible first | exact HB.out | apply below_alloc | apply pw_below_drewN | apply below_drew1 | refine below_set ?_ GE101.out) | exact HB.out))))
        have n1_ := Aside0.mk (blk_below (g := g2c) (o := .cells #[.int .i64 a2_0, .int .i64 a2_1] 26 (0, 0)) (by (with_reducible repeat (first | refine blk_drewN ?_ _ | refine blk_drew ?_ | refine blk_alloc ?_ _)); exact BK101.out) hb)
        have n2_ := Aside0.mk (below_step (by repeat (first | (with_reducible first | exact HB.out | apply below_alloc | apply pw_below_drewN | apply below_drew1 | refine below_set ?_ GE101.out) | exact HB.out)) hb)
        have z_HO112 := fun (h0_ : b 12 = true) => (show Kd.R (Kd.int .i64) 2 w14 w.heap.size (fun _ => True) v111 y110 from by first | exact (Kd.R_elder' (by (with_reducible repeat (first | apply Kd.R_alloc | apply Kd.R_drewN | apply Kd.R_drew)); exact (Q_HO112 h0_)) (Kd.R_base ho15) hb) | exact Kd.R_mono (Kd.R_elder' (by (with_reducible repeat (first | apply Kd.R_alloc | apply Kd.R_drewN | apply Kd.R_drew)); exact (Q_HO112 h0_)) (Kd.R_base ho15) hb) (fun _ h_ => by first | trivial | exact h_ | exact h_.1))
        clear BK101
        clear HB
        have HO104 := n0_
        have BK101 := n1_
        have HB := n2_
        clear n0_ n1_ n2_
        clear hb ho15
        refine hK.out _ _ ⟨v103, v107, v111, v115, v119, v123, v127, v131, (by rw [ha.out]; exact putSel_upk 2 hb_ rfl rfl rfl), (by (with_reducible repeat (first | refine blk_drewN ?_ _ | refine blk_drew ?_ | refine blk_alloc ?_ _)); exact BK101.out), (by repeat (first | (with_reducible first | exact HB.out | apply below_alloc | apply pw_below_drewN | apply below_drew1 | refine below_set ?_ GE101.out) | exact HB.out)), fun _ => (by (with_reducible repeat (first | apply Kd.R_alloc | apply Kd.R_drewN | apply Kd.R_drew)); exact HO104.out), fun h0_ => absurd ((hoff 6 (by kernel_rfl)).symm.trans h0_) (by decide), z_HO112, fun h0_ => absurd ((hoff 14 (by kernel_rfl)).symm.trans h0_) (by decide), fun h0_ => absurd ((hoff 22 (by kernel_rfl)).symm.trans h0_) (by decide), fun h0_ => absurd ((hoff 24 (by kernel_rfl)).symm.trans h0_) (by decide), fun h0_ => absurd ((hoff 30 (by kernel_rfl)).symm.trans h0_) (by decide), fun h0_ => absurd ((hoff 32 (by kernel_rfl)).symm.trans h0_) (by decide)⟩
      refine steps_cons ?_ ?_
      · rintro b a w' ⟨v103, v107, v111, v115, v119, v123, v127, v131, ha, Q_BK101, Q_HB, Q_HO104, Q_HO108, Q_HO112, Q_HO116, Q_HO120, Q_HO124, Q_HO128, Q_HO132⟩ hb_ hon hoff
        refine ⟨_, rfl, fun K hK => ?_⟩
        have e8 : a.tmps[8]? = some (.agg #[.int .i64 a2_0, .int .i64 a2_1]) := by rw [ha]; exact putSel_on (e := (2, 8, .agg #[.int .i64 a2_0, .int .i64 a2_1])) 1 rfl rfl (hon 2 (by kernel_rfl)) rfl
        have e10 : a.tmps[10]? = some (v103) := by rw [ha]; exact putSel_on (e := (4, 10, v103)) 2 rfl rfl (hon 4 (by kernel_rfl)) rfl
        replace ha := Aside0.mk ha
        have BK101 := Aside0.mk Q_BK101
        have HB := Aside0.mk Q_HB
        have HO104 := Aside0.mk (Q_HO104 (hon 4 (by kernel_rfl)))
        obtain ⟨Ao17, co17, eo17⟩ := Kd.R_slice HO104.out
        (first | subst eo17 | (injection eo17 with f1_ f2_ f3_; have f4_ := f1_.symm; have f5_ := f3_.symm; clear f1_ f2_ f3_; subst f4_; subst f5_))
        refine goes_ Try.func56 (by kernel_rfl) rfl #[.agg #[.int .i64 a2_0, .int .i64 a2_1], .slice Ao17 y102.length co17] (by rfl) rfl rfl (by first | (simp only [List.map_toArray, List.map_cons, List.map_nil, Act.eval, Array.getD_eq_getD_getElem?, Option.getD_some, e8, e10]; done) | (simp only [List.map_toArray, List.map_cons, List.map_nil, Act.eval, Array.getD_eq_getD_getElem?, Option.getD_some, e8, e10]; rfl)) ?_
        with_reducible refine (impl_Func_of.calls k a2_0 a2_1 _ _ y102 t105 _ ?side1 ?side2 A4.out).mono ?_
        (case side1 => repeat (first | exact (Kd.R_reads' HO104.out).2.2 | (with_reducible refine Kd.C_alloc ?_ _) | (with_reducible refine Kd.C_drewN ?_ _) | (with_reducible refine Kd.C_drew ?_)))
        (case side2 => exact (Kd.R_reads' HO104.out).2.1)
        rintro e w18 ⟨rfl, hb⟩
        refine ⟨_, rfl, ?_⟩
        have n0_ := Aside0.mk (Kd.R_below (by (with_reducible repeat (first | apply Kd.R_alloc | apply Kd.R_drewN | apply Kd.R_drew)); exact HO104.out) hb)
        have n1_ := Aside0.mk (blk_below (g := g2c) (o := .cells #[.int .i64 a2_0, .int .i64 a2_1] 26 (0, 0)) (by (with_reducible repeat (first | refine blk_drewN ?_ _ | refine blk_drew ?_ | refine blk_alloc ?_ _)); exact BK101.out) hb)
        have n2_ := Aside0.mk (below_step (by repeat (first | (with_reducible first | exact HB.out | apply below_alloc | apply pw_below_drewN | apply below_drew1 | refine below_set ?_ GE101.out) | exact HB.out)) hb)
        have z_HO112 := fun (h0_ : b 12 = true) => (show Kd.R (Kd.int .i64) 2 w18 w.heap.size (fun _ => True) v111 y110 from by first | exact (Kd.R_below (by (with_reducible repeat (first | apply Kd.R_alloc | apply Kd.R_drewN | apply Kd.R_drew)); exact (Q_HO112 h0_)) hb) | exact Kd.R_mono (Kd.R_below (by (with_reducible repeat (first | apply Kd.R_alloc | apply Kd.R_drewN | apply Kd.R_drew)); exact (Q_HO112 h0_)) hb) (fun _ h_ => by first | trivial | exact h_ | exact h_.1))
        clear HO104
        clear BK101
        clear HB
        have HO104 := n0_
        have BK101 := n1_
        have HB := n2_
        clear n0_ n1_ n2_
        (try clear hb)
        (try clear hb2)
        (try clear hk)
        (try clear hi)
        refine hK.out _ _ ⟨.slice Ao17 y102.length co17, v107, v111, v115, v119, v123, v127, v131, (by rw [ha.out]; exact putSel_upk 3 hb_ rfl rfl rfl), (by (with_reducible repeat (first | refine blk_drewN ?_ _ | refine blk_drew ?_ | refine blk_alloc ?_ _)); exact BK101.out), (by repeat (first | (with_reducible first | exact HB.out | apply below_alloc | apply pw_below_drewN | apply below_drew1 | refine below_set ?_ GE101.out) | exact HB.out)), fun _ => (by (with_reducible repeat (first | apply Kd.R_alloc | apply Kd.R_drewN | apply Kd.R_drew)); exact HO104.out), fun h0_ => absurd ((hoff 6 (by kernel_rfl)).symm.trans h0_) (by decide), z_HO112, fun h0_ => absurd ((hoff 14 (by kernel_rfl)).symm.trans h0_) (by decide), fun h0_ => absurd ((hoff 22 (by kernel_rfl)).symm.trans h0_) (by decide), fun h0_ => absurd ((hoff 24 (by kernel_rfl)).symm.trans h0_) (by decide), fun h0_ => absurd ((hoff 30 (by kernel_rfl)).symm.trans h0_) (by decide), fun h0_ => absurd ((hoff 32 (by kernel_rfl)).symm.trans h0_) (by decide)⟩
      refine steps_cons ?_ ?_
      · rintro b a w' ⟨v103, v107, v111, v115, v119, v123, v127, v131, ha, Q_BK101, Q_HB, Q_HO104, Q_HO108, Q_HO112, Q_HO116, Q_HO120, Q_HO124, Q_HO128, Q_HO132⟩ hb_ hon hoff
        refine ⟨_, rfl, fun K hK => ?_⟩
        have e7 : a.tmps[7]? = some (.int .i64 a0) := by rw [ha]; exact (putSel_off rfl).trans rfl
        have e11 : a.tmps[11]? = some (.int .i64 t105) := by rw [ha]; exact putSel_on (e := (5, 11, .int .i64 t105)) 3 rfl rfl (hon 5 (by kernel_rfl)) rfl
        replace ha := Aside0.mk ha
        have BK101 := Aside0.mk Q_BK101
        have HB := Aside0.mk Q_HB
        have HO104 := Aside0.mk (Q_HO104 (hon 4 (by kernel_rfl)))
        refine Kd.R_lit_step (Kd.int .i64) _ 2 ?hg (N := 12) ?hd (xs := ([a0, t105] : List Int)) (inner := [.int .i64 a0, .int .i64 t105]) (ok := fun _ => True) (okp := fun _ => True) ?hr ?hp (fun _ hk => by first | exact trivial | exact hk) trivial (Below.refl _ _) (Nat.le_refl _) (by simp) ?_; (case hd => rfl); (case hg => rfl); (case hr => first | (go_simp; done) | (go_simp; rfl)); (case hp => exact (Reps.one (show Kd.M (Kd.int .i64) _ _ _ a0 [.int .i64 a0] from rfl) (Reps.one (show Kd.M (Kd.int .i64) _ _ _ t105 [.int .i64 t105] from rfl) (Reps.none _ _))))
        intro v107 w19 ho20 hb hg_ hnew_
        clear hg_ hnew_
        (first | rw [← Ny106.out] at ho20 | (simp only [Int.reduceToNat] at ho20; rw [← Ny106.out] at ho20))
        have n0_ := Aside0.mk (Kd.R_elder' (by (with_reducible repeat (first | apply Kd.R_alloc | apply Kd.R_drewN | apply Kd.R_drew)); exact HO104.out) (Kd.R_base ho20) hb)
        have n1_ := Aside0.mk (Kd.R_lower (Kd.R_new' ho20 (Kd.R_lt (by (with_reducible repeat (first | apply Kd.R_alloc | apply Kd.R_drewN | apply Kd.R_drew)); exact HO104.out))) (below_size (by repeat (first | (with_reducible first | exact HB.out | apply below_alloc | apply pw_below_drewN | apply below_drew1 | refine below_set ?_ GE101.out) | exact HB.out))))
        have n2_ := Aside0.mk (blk_below (g := g2c) (o := .cells #[.int .i64 a2_0, .int .i64 a2_1] 26 (0, 0)) (by (with_reducible repeat (first | refine blk_drewN ?_ _ | refine blk_drew ?_ | refine blk_alloc ?_ _)); exact BK101.out) hb)
        have n3_ := Aside0.mk (below_step (by repeat (first | (with_reducible first | exact HB.out | apply below_alloc | apply pw_below_drewN | apply below_drew1 | refine below_set ?_ GE101.out) | exact HB.out)) hb)
        have z_HO112 := fun (h0_ : b 12 = true) => (show Kd.R (Kd.int .i64) 2 w19 w.heap.size (fun _ => True) v111 y110 from by first | exact (Kd.R_elder' (by (with_reducible repeat (first | apply Kd.R_alloc | apply Kd.R_drewN | apply Kd.R_drew)); exact (Q_HO112 h0_)) (Kd.R_base ho20) hb) | exact Kd.R_mono (Kd.R_elder' (by (with_reducible repeat (first | apply Kd.R_alloc | apply Kd.R_drewN | apply Kd.R_drew)); exact (Q_HO112 h0_)) (Kd.R_base ho20) hb) (fun _ h_ => by first | trivial | exact h_ | exact h_.1))
        clear HO104
        clear BK101
        clear HB
        have HO104 := n0_
        have HO108 := n1_
        have BK101 := n2_
        have HB := n3_
        clear n0_ n1_ n2_ n3_
        clear hb ho20
        refine hK.out _ _ ⟨v103, v107, v111, v115, v119, v123, v127, v131, (by rw [ha.out]; exact putSel_upk 4 hb_ rfl rfl rfl), (by (with_reducible repeat (first | refine blk_drewN ?_ _ | refine blk_drew ?_ | refine blk_alloc ?_ _)); exact BK101.out), (by repeat (first | (with_reducible first | exact HB.out | apply below_alloc | apply pw_below_drewN | apply below_drew1 | refine below_set ?_ GE101.out) | exact HB.out)), fun _ => (by (with_reducible repeat (first | apply Kd.R_alloc | apply Kd.R_drewN | apply Kd.R_drew)); exact Kd.R_mono HO104.out (fun _ hk => by first | exact trivial | exact hk.2)), fun _ => (by (with_reducible repeat (first | apply Kd.R_alloc | apply Kd.R_drewN | apply Kd.R_drew)); exact Kd.R_mono HO108.out (fun _ hk => by first | exact trivial | exact hk.2)), z_HO112, fun h0_ => absurd ((hoff 14 (by kernel_rfl)).symm.trans h0_) (by decide), fun h0_ => absurd ((hoff 22 (by kernel_rfl)).symm.trans h0_) (by decide), fun h0_ => absurd ((hoff 24 (by kernel_rfl)).symm.trans h0_) (by decide), fun h0_ => absurd ((hoff 30 (by kernel_rfl)).symm.trans h0_) (by decide), fun h0_ => absurd ((hoff 32 (by kernel_rfl)).symm.trans h0_) (by decide)⟩
      refine steps_cons ?_ ?_
      · rintro b a w' ⟨v103, v107, v111, v115, v119, v123, v127, v131, ha, Q_BK101, Q_HB, Q_HO104, Q_HO108, Q_HO112, Q_HO116, Q_HO120, Q_HO124, Q_HO128, Q_HO132⟩ hb_ hon hoff
        refine ⟨_, rfl, fun K hK => ?_⟩
        have e6 : a.tmps[6]? = some (.agg #[.int .i64 a2_0, .int .i64 a2_1]) := by rw [ha]; exact putSel_on (e := (0, 6, .agg #[.int .i64 a2_0, .int .i64 a2_1])) 0 rfl rfl (hon 0 (by kernel_rfl)) rfl
        have e12 : a.tmps[12]? = some (v107) := by rw [ha]; exact putSel_on (e := (6, 12, v107)) 4 rfl rfl (hon 6 (by kernel_rfl)) rfl
        replace ha := Aside0.mk ha
        have BK101 := Aside0.mk Q_BK101
        have HB := Aside0.mk Q_HB
        have HO104 := Aside0.mk (Q_HO104 (hon 4 (by kernel_rfl)))
        have HO108 := Aside0.mk (Q_HO108 (hon 6 (by kernel_rfl)))
        obtain ⟨Ao21, co21, eo21⟩ := Kd.R_slice HO108.out
        (first | subst eo21 | (injection eo21 with f1_ f2_ f3_; have f4_ := f1_.symm; have f5_ := f3_.symm; clear f1_ f2_ f3_; subst f4_; subst f5_))
        refine goes_ Try.func56 (by kernel_rfl) rfl #[.agg #[.int .i64 a2_0, .int .i64 a2_1], .slice Ao21 y106.length co21] (by rfl) rfl rfl (by first | (simp only [List.map_toArray, List.map_cons, List.map_nil, Act.eval, Array.getD_eq_getD_getElem?, Option.getD_some, e6, e12]; done) | (simp only [List.map_toArray, List.map_cons, List.map_nil, Act.eval, Array.getD_eq_getD_getElem?, Option.getD_some, e6, e12]; rfl)) ?_
        with_reducible refine (impl_Func_of.calls k a2_0 a2_1 _ _ y106 t109 _ ?side1 ?side2 A5.out).mono ?_
        (case side1 => repeat (first | exact (Kd.R_reads' HO108.out).2.2 | (with_reducible refine Kd.C_alloc ?_ _) | (with_reducible refine Kd.C_drewN ?_ _) | (with_reducible refine Kd.C_drew ?_)))
        (case side2 => exact (Kd.R_reads' HO108.out).2.1)
        rintro e w22 ⟨rfl, hb⟩
        refine ⟨_, rfl, ?_⟩
        have n0_ := Aside0.mk (Kd.R_below (by (with_reducible repeat (first | apply Kd.R_alloc | apply Kd.R_drewN | apply Kd.R_drew)); exact HO104.out) hb)
        have n1_ := Aside0.mk (Kd.R_below (by (with_reducible repeat (first | apply Kd.R_alloc | apply Kd.R_drewN | apply Kd.R_drew)); exact HO108.out) hb)
        have n2_ := Aside0.mk (blk_below (g := g2c) (o := .cells #[.int .i64 a2_0, .int .i64 a2_1] 26 (0, 0)) (by (with_reducible repeat (first | refine blk_drewN ?_ _ | refine blk_drew ?_ | refine blk_alloc ?_ _)); exact BK101.out) hb)
        have n3_ := Aside0.mk (below_step (by repeat (first | (with_reducible first | exact HB.out | apply below_alloc | apply pw_below_drewN | apply below_drew1 | refine below_set ?_ GE101.out) | exact HB.out)) hb)
        have z_HO112 := fun (h0_ : b 12 = true) => (show Kd.R (Kd.int .i64) 2 w22 w.heap.size (fun _ => True) v111 y110 from by first | exact (Kd.R_below (by (with_reducible repeat (first | apply Kd.R_alloc | apply Kd.R_drewN | apply Kd.R_drew)); exact (Q_HO112 h0_)) hb) | exact Kd.R_mono (Kd.R_below (by (with_reducible repeat (first | apply Kd.R_alloc | apply Kd.R_drewN | apply Kd.R_drew)); exact (Q_HO112 h0_)) hb) (fun _ h_ => by first | trivial | exact h_ | exact h_.1))
        clear HO104
        clear HO108
        clear BK101
        clear HB
        have HO104 := n0_
        have HO108 := n1_
        have BK101 := n2_
        have HB := n3_
        clear n0_ n1_ n2_ n3_
        (try clear hb)
        (try clear hb2)
        (try clear hk)
        (try clear hi)
        refine hK.out _ _ ⟨v103, .slice Ao21 y106.length co21, v111, v115, v119, v123, v127, v131, (by rw [ha.out]; exact putSel_upk 5 hb_ rfl rfl rfl), (by (with_reducible repeat (first | refine blk_drewN ?_ _ | refine blk_drew ?_ | refine blk_alloc ?_ _)); exact BK101.out), (by repeat (first | (with_reducible first | exact HB.out | apply below_alloc | apply pw_below_drewN | apply below_drew1 | refine below_set ?_ GE101.out) | exact HB.out)), fun _ => (by (with_reducible repeat (first | apply Kd.R_alloc | apply Kd.R_drewN | apply Kd.R_drew)); exact HO104.out), fun _ => (by (with_reducible repeat (first | apply Kd.R_alloc | apply Kd.R_drewN | apply Kd.R_drew)); exact HO108.out), z_HO112, fun h0_ => absurd ((hoff 14 (by kernel_rfl)).symm.trans h0_) (by decide), fun h0_ => absurd ((hoff 22 (by kernel_rfl)).symm.trans h0_) (by decide), fun h0_ => absurd ((hoff 24 (by kernel_rfl)).symm.trans h0_) (by decide), fun h0_ => absurd ((hoff 30 (by kernel_rfl)).symm.trans h0_) (by decide), fun h0_ => absurd ((hoff 32 (by kernel_rfl)).symm.trans h0_) (by decide)⟩
      refine steps_cons ?_ ?_
      · rintro b a w' ⟨v103, v107, v111, v115, v119, v123, v127, v131, ha, Q_BK101, Q_HB, Q_HO104, Q_HO108, Q_HO112, Q_HO116, Q_HO120, Q_HO124, Q_HO128, Q_HO132⟩ hb_ hon hoff
        refine ⟨_, rfl, fun K hK => ?_⟩
        have e2 : a.tmps[2]? = some (.pointer (some ⟨g2c, 0, none⟩)) := by rw [ha]; exact (putSel_off rfl).trans rfl
        replace ha := Aside0.mk ha
        have BK101 := Aside0.mk Q_BK101
        have HB := Aside0.mk Q_HB
        have hc0_ : w'.cell? ⟨g2c, 0, none⟩ = some (.int .i64 a2_0) := (blk_cell BK101.out 0).trans rfl
        have hc1_ : w'.cell? ⟨g2c, 1, none⟩ = some (.int .i64 a2_1) := (blk_cell BK101.out 1).trans rfl
        refine value_ (w1 := w') (v := .agg #[.int .i64 a2_0, .int .i64 a2_1]) (by rfl) rfl ?_ ?_
        · go_simp
          (try simp only [i64_w])
          try rfl
        refine hK.out _ _ ⟨v103, v107, v111, v115, v119, v123, v127, v131, (by rw [ha.out]; exact putSel_upk 6 hb_ rfl rfl rfl), Q_BK101, Q_HB, Q_HO104, Q_HO108, Q_HO112, Q_HO116, fun h0_ => absurd ((hoff 22 (by kernel_rfl)).symm.trans h0_) (by decide), fun h0_ => absurd ((hoff 24 (by kernel_rfl)).symm.trans h0_) (by decide), fun h0_ => absurd ((hoff 30 (by kernel_rfl)).symm.trans h0_) (by decide), fun h0_ => absurd ((hoff 32 (by kernel_rfl)).symm.trans h0_) (by decide)⟩
      refine steps_cons ?_ ?_
      · rintro b a w' ⟨v103, v107, v111, v115, v119, v123, v127, v131, ha, Q_BK101, Q_HB, Q_HO104, Q_HO108, Q_HO112, Q_HO116, Q_HO120, Q_HO124, Q_HO128, Q_HO132⟩ hb_ hon hoff
        refine ⟨_, rfl, fun K hK => ?_⟩
        have e2 : a.tmps[2]? = some (.pointer (some ⟨g2c, 0, none⟩)) := by rw [ha]; exact (putSel_off rfl).trans rfl
        replace ha := Aside0.mk ha
        have BK101 := Aside0.mk Q_BK101
        have HB := Aside0.mk Q_HB
        have hc0_ : w'.cell? ⟨g2c, 0, none⟩ = some (.int .i64 a2_0) := (blk_cell BK101.out 0).trans rfl
        have hc1_ : w'.cell? ⟨g2c, 1, none⟩ = some (.int .i64 a2_1) := (blk_cell BK101.out 1).trans rfl
        refine value_ (w1 := w') (v := .agg #[.int .i64 a2_0, .int .i64 a2_1]) (by rfl) rfl ?_ ?_
        · go_simp
          (try simp only [i64_w])
          try rfl
        refine hK.out _ _ ⟨v103, v107, v111, v115, v119, v123, v127, v131, (by rw [ha.out]; exact putSel_upk 7 hb_ rfl rfl rfl), Q_BK101, Q_HB, Q_HO104, Q_HO108, Q_HO112, fun h0_ => absurd ((hoff 14 (by kernel_rfl)).symm.trans h0_) (by decide), fun h0_ => absurd ((hoff 22 (by kernel_rfl)).symm.trans h0_) (by decide), fun h0_ => absurd ((hoff 24 (by kernel_rfl)).symm.trans h0_) (by decide), fun h0_ => absurd ((hoff 30 (by kernel_rfl)).symm.trans h0_) (by decide), fun h0_ => absurd ((hoff 32 (by kernel_rfl)).symm.trans h0_) (by decide)⟩
      refine steps_cons ?_ ?_
      · rintro b a w' ⟨v103, v107, v111, v115, v119, v123, v127, v131, ha, Q_BK101, Q_HB, Q_HO104, Q_HO108, Q_HO112, Q_HO116, Q_HO120, Q_HO124, Q_HO128, Q_HO132⟩ hb_ hon hoff
        refine ⟨_, rfl, fun K hK => ?_⟩
        have e16 : a.tmps[16]? = some (.int .i64 a0) := by rw [ha]; exact (putSel_off rfl).trans rfl
        have e17 : a.tmps[17]? = some (.int .i64 a1) := by rw [ha]; exact (putSel_off rfl).trans rfl
        replace ha := Aside0.mk ha
        have BK101 := Aside0.mk Q_BK101
        have HB := Aside0.mk Q_HB
        refine Kd.R_lit_step (Kd.int .i64) _ 2 ?hg (N := 18) ?hd (xs := ([a0, a1] : List Int)) (inner := [.int .i64 a0, .int .i64 a1]) (ok := fun _ => True) (okp := fun _ => True) ?hr ?hp (fun _ hk => by first | exact trivial | exact hk) trivial (Below.refl _ _) (Nat.le_refl _) (by simp) ?_; (case hd => rfl); (case hg => rfl); (case hr => first | (go_simp; done) | (go_simp; rfl)); (case hp => exact (Reps.one (show Kd.M (Kd.int .i64) _ _ _ a0 [.int .i64 a0] from rfl) (Reps.one (show Kd.M (Kd.int .i64) _ _ _ a1 [.int .i64 a1] from rfl) (Reps.none _ _))))
        intro v111 w14 ho15 hb hg_ hnew_
        clear hg_ hnew_
        (first | rw [← Ny110.out] at ho15 | (simp only [Int.reduceToNat] at ho15; rw [← Ny110.out] at ho15))
        have n0_ := Aside0.mk (Kd.R_lower ho15 (below_size (by repeat (first | (with_reducible first | exact HB.out | apply below_alloc | apply pw_below_drewN | apply below_drew1 | refine below_set ?_ GE101.out) | exact HB.out))))
        have n1_ := Aside0.mk (blk_below (g := g2c) (o := .cells #[.int .i64 a2_0, .int .i64 a2_1] 26 (0, 0)) (by (with_reducible repeat (first | refine blk_drewN ?_ _ | refine blk_drew ?_ | refine blk_alloc ?_ _)); exact BK101.out) hb)
        have n2_ := Aside0.mk (below_step (by repeat (first | (with_reducible first | exact HB.out | apply below_alloc | apply pw_below_drewN | apply below_drew1 | refine below_set ?_ GE101.out) | exact HB.out)) hb)
        have z_HO104 := fun (h0_ : b 4 = true) => (show Kd.R (Kd.int .i64) 2 w14 w.heap.size (fun _ => True) v103 y102 from by first | exact (Kd.R_elder' (by (with_reducible repeat (first | apply Kd.R_alloc | apply Kd.R_drewN | apply Kd.R_drew)); exact (Q_HO104 h0_)) (Kd.R_base ho15) hb) | exact Kd.R_mono (Kd.R_elder' (by (with_reducible repeat (first | apply Kd.R_alloc | apply Kd.R_drewN | apply Kd.R_drew)); exact (Q_HO104 h0_)) (Kd.R_base ho15) hb) (fun _ h_ => by first | trivial | exact h_ | exact h_.1))
        have z_HO108 := fun (h0_ : b 6 = true) => (show Kd.R (Kd.int .i64) 2 w14 w.heap.size (fun _ => True) v107 y106 from by first | exact (Kd.R_elder' (by (with_reducible repeat (first | apply Kd.R_alloc | apply Kd.R_drewN | apply Kd.R_drew)); exact (Q_HO108 h0_)) (Kd.R_base ho15) hb) | exact Kd.R_mono (Kd.R_elder' (by (with_reducible repeat (first | apply Kd.R_alloc | apply Kd.R_drewN | apply Kd.R_drew)); exact (Q_HO108 h0_)) (Kd.R_base ho15) hb) (fun _ h_ => by first | trivial | exact h_ | exact h_.1))
        clear BK101
        clear HB
        have HO112 := n0_
        have BK101 := n1_
        have HB := n2_
        clear n0_ n1_ n2_
        clear hb ho15
        refine hK.out _ _ ⟨v103, v107, v111, v115, v119, v123, v127, v131, (by rw [ha.out]; exact putSel_upk 8 hb_ rfl rfl rfl), (by (with_reducible repeat (first | refine blk_drewN ?_ _ | refine blk_drew ?_ | refine blk_alloc ?_ _)); exact BK101.out), (by repeat (first | (with_reducible first | exact HB.out | apply below_alloc | apply pw_below_drewN | apply below_drew1 | refine below_set ?_ GE101.out) | exact HB.out)), z_HO104, z_HO108, fun _ => (by (with_reducible repeat (first | apply Kd.R_alloc | apply Kd.R_drewN | apply Kd.R_drew)); exact HO112.out), fun h0_ => absurd ((hoff 14 (by kernel_rfl)).symm.trans h0_) (by decide), fun h0_ => absurd ((hoff 22 (by kernel_rfl)).symm.trans h0_) (by decide), fun h0_ => absurd ((hoff 24 (by kernel_rfl)).symm.trans h0_) (by decide), fun h0_ => absurd ((hoff 30 (by kernel_rfl)).symm.trans h0_) (by decide), fun h0_ => absurd ((hoff 32 (by kernel_rfl)).symm.trans h0_) (by decide)⟩
      refine steps_cons ?_ ?_
      · rintro b a w' ⟨v103, v107, v111, v115, v119, v123, v127, v131, ha, Q_BK101, Q_HB, Q_HO104, Q_HO108, Q_HO112, Q_HO116, Q_HO120, Q_HO124, Q_HO128, Q_HO132⟩ hb_ hon hoff
        refine ⟨_, rfl, fun K hK => ?_⟩
        have e15 : a.tmps[15]? = some (.agg #[.int .i64 a2_0, .int .i64 a2_1]) := by rw [ha]; exact putSel_on (e := (9, 15, .agg #[.int .i64 a2_0, .int .i64 a2_1])) 7 rfl rfl (hon 9 (by kernel_rfl)) rfl
        have e18 : a.tmps[18]? = some (v111) := by rw [ha]; exact putSel_on (e := (12, 18, v111)) 8 rfl rfl (hon 12 (by kernel_rfl)) rfl
        replace ha := Aside0.mk ha
        have BK101 := Aside0.mk Q_BK101
        have HB := Aside0.mk Q_HB
        have HO104 := Aside0.mk (Q_HO104 (hon 4 (by kernel_rfl)))
        have HO108 := Aside0.mk (Q_HO108 (hon 6 (by kernel_rfl)))
        have HO112 := Aside0.mk (Q_HO112 (hon 12 (by kernel_rfl)))
        obtain ⟨Ao25, co25, eo25⟩ := Kd.R_slice HO112.out
        (first | subst eo25 | (injection eo25 with f1_ f2_ f3_; have f4_ := f1_.symm; have f5_ := f3_.symm; clear f1_ f2_ f3_; subst f4_; subst f5_))
        refine goes_ Try.func56 (by kernel_rfl) rfl #[.agg #[.int .i64 a2_0, .int .i64 a2_1], .slice Ao25 y110.length co25] (by rfl) rfl rfl (by first | (simp only [List.map_toArray, List.map_cons, List.map_nil, Act.eval, Array.getD_eq_getD_getElem?, Option.getD_some, e15, e18]; done) | (simp only [List.map_toArray, List.map_cons, List.map_nil, Act.eval, Array.getD_eq_getD_getElem?, Option.getD_some, e15, e18]; rfl)) ?_
        with_reducible refine (impl_Func_of.calls k a2_0 a2_1 _ _ y110 t113 _ ?side1 ?side2 A6.out).mono ?_
        (case side1 => repeat (first | exact (Kd.R_reads' HO112.out).2.2 | (with_reducible refine Kd.C_alloc ?_ _) | (with_reducible refine Kd.C_drewN ?_ _) | (with_reducible refine Kd.C_drew ?_)))
        (case side2 => exact (Kd.R_reads' HO112.out).2.1)
        rintro e w26 ⟨rfl, hb⟩
        refine ⟨_, rfl, ?_⟩
        have n0_ := Aside0.mk (Kd.R_below (by (with_reducible repeat (first | apply Kd.R_alloc | apply Kd.R_drewN | apply Kd.R_drew)); exact HO104.out) hb)
        have n1_ := Aside0.mk (Kd.R_below (by (with_reducible repeat (first | apply Kd.R_alloc | apply Kd.R_drewN | apply Kd.R_drew)); exact HO108.out) hb)
        have n2_ := Aside0.mk (Kd.R_below (by (with_reducible repeat (first | apply Kd.R_alloc | apply Kd.R_drewN | apply Kd.R_drew)); exact HO112.out) hb)
        have n3_ := Aside0.mk (blk_below (g := g2c) (o := .cells #[.int .i64 a2_0, .int .i64 a2_1] 26 (0, 0)) (by (with_reducible repeat (first | refine blk_drewN ?_ _ | refine blk_drew ?_ | refine blk_alloc ?_ _)); exact BK101.out) hb)
        have n4_ := Aside0.mk (below_step (by repeat (first | (with_reducible first | exact HB.out | apply below_alloc | apply pw_below_drewN | apply below_drew1 | refine below_set ?_ GE101.out) | exact HB.out)) hb)
        clear HO104
        clear HO108
        clear HO112
        clear BK101
        clear HB
        have HO104 := n0_
        have HO108 := n1_
        have HO112 := n2_
        have BK101 := n3_
        have HB := n4_
        clear n0_ n1_ n2_ n3_ n4_
        (try clear hb)
        (try clear hb2)
        (try clear hk)
        (try clear hi)
        refine hK.out _ _ ⟨v103, v107, .slice Ao25 y110.length co25, v115, v119, v123, v127, v131, (by rw [ha.out]; exact putSel_upk 9 hb_ rfl rfl rfl), (by (with_reducible repeat (first | refine blk_drewN ?_ _ | refine blk_drew ?_ | refine blk_alloc ?_ _)); exact BK101.out), (by repeat (first | (with_reducible first | exact HB.out | apply below_alloc | apply pw_below_drewN | apply below_drew1 | refine below_set ?_ GE101.out) | exact HB.out)), fun _ => (by (with_reducible repeat (first | apply Kd.R_alloc | apply Kd.R_drewN | apply Kd.R_drew)); exact HO104.out), fun _ => (by (with_reducible repeat (first | apply Kd.R_alloc | apply Kd.R_drewN | apply Kd.R_drew)); exact HO108.out), fun _ => (by (with_reducible repeat (first | apply Kd.R_alloc | apply Kd.R_drewN | apply Kd.R_drew)); exact HO112.out), fun h0_ => absurd ((hoff 14 (by kernel_rfl)).symm.trans h0_) (by decide), fun h0_ => absurd ((hoff 22 (by kernel_rfl)).symm.trans h0_) (by decide), fun h0_ => absurd ((hoff 24 (by kernel_rfl)).symm.trans h0_) (by decide), fun h0_ => absurd ((hoff 30 (by kernel_rfl)).symm.trans h0_) (by decide), fun h0_ => absurd ((hoff 32 (by kernel_rfl)).symm.trans h0_) (by decide)⟩
      refine steps_cons ?_ ?_
      · rintro b a w' ⟨v103, v107, v111, v115, v119, v123, v127, v131, ha, Q_BK101, Q_HB, Q_HO104, Q_HO108, Q_HO112, Q_HO116, Q_HO120, Q_HO124, Q_HO128, Q_HO132⟩ hb_ hon hoff
        refine ⟨_, rfl, fun K hK => ?_⟩
        have e19 : a.tmps[19]? = some (.int .i64 t113) := by rw [ha]; exact putSel_on (e := (13, 19, .int .i64 t113)) 9 rfl rfl (hon 13 (by kernel_rfl)) rfl
        replace ha := Aside0.mk ha
        have BK101 := Aside0.mk Q_BK101
        have HB := Aside0.mk Q_HB
        have HO104 := Aside0.mk (Q_HO104 (hon 4 (by kernel_rfl)))
        have HO108 := Aside0.mk (Q_HO108 (hon 6 (by kernel_rfl)))
        have HO112 := Aside0.mk (Q_HO112 (hon 12 (by kernel_rfl)))
        refine Kd.R_lit_step (Kd.int .i64) _ 2 ?hg (N := 20) ?hd (xs := ([t113, 0] : List Int)) (inner := [.int .i64 t113, .int .i64 0]) (ok := fun _ => True) (okp := fun _ => True) ?hr ?hp (fun _ hk => by first | exact trivial | exact hk) trivial (Below.refl _ _) (Nat.le_refl _) (by simp) ?_; (case hd => rfl); (case hg => rfl); (case hr => first | (go_simp; done) | (go_simp; rfl)); (case hp => exact (Reps.one (show Kd.M (Kd.int .i64) _ _ _ t113 [.int .i64 t113] from rfl) (Reps.one (show Kd.M (Kd.int .i64) _ _ _ 0 [.int .i64 0] from rfl) (Reps.none _ _))))
        intro v115 w27 ho28 hb hg_ hnew_
        clear hg_ hnew_
        (first | rw [← Ny114.out] at ho28 | (simp only [Int.reduceToNat] at ho28; rw [← Ny114.out] at ho28))
        have n0_ := Aside0.mk (Kd.R_elder' (by (with_reducible repeat (first | apply Kd.R_alloc | apply Kd.R_drewN | apply Kd.R_drew)); exact HO104.out) (Kd.R_base ho28) hb)
        have n1_ := Aside0.mk (Kd.R_elder' (by (with_reducible repeat (first | apply Kd.R_alloc | apply Kd.R_drewN | apply Kd.R_drew)); exact HO108.out) (Kd.R_base ho28) hb)
        have n2_ := Aside0.mk (Kd.R_elder' (by (with_reducible repeat (first | apply Kd.R_alloc | apply Kd.R_drewN | apply Kd.R_drew)); exact HO112.out) (Kd.R_base ho28) hb)
        have n3_ := Aside0.mk (Kd.R_lower (Kd.R_new' (Kd.R_new' (Kd.R_new' ho28 (Kd.R_lt (by (with_reducible repeat (first | apply Kd.R_alloc | apply Kd.R_drewN | apply Kd.R_drew)); exact HO104.out))) (Kd.R_lt (by (with_reducible repeat (first | apply Kd.R_alloc | apply Kd.R_drewN | apply Kd.R_drew)); exact HO108.out))) (Kd.R_lt (by (with_reducible repeat (first | apply Kd.R_alloc | apply Kd.R_drewN | apply Kd.R_drew)); exact HO112.out))) (below_size (by repeat (first | (with_reducible first | exact HB.out | apply below_alloc | apply pw_below_drewN | apply below_drew1 | refine below_set ?_ GE101.out) | exact HB.out))))
        have n4_ := Aside0.mk (blk_below (g := g2c) (o := .cells #[.int .i64 a2_0, .int .i64 a2_1] 26 (0, 0)) (by (with_reducible repeat (first | refine blk_drewN ?_ _ | refine blk_drew ?_ | refine blk_alloc ?_ _)); exact BK101.out) hb)
        have n5_ := Aside0.mk (below_step (by repeat (first | (with_reducible first | exact HB.out | apply below_alloc | apply pw_below_drewN | apply below_drew1 | refine below_set ?_ GE101.out) | exact HB.out)) hb)
        clear HO104
        clear HO108
        clear HO112
        clear BK101
        clear HB
        have HO104 := n0_
        have HO108 := n1_
        have HO112 := n2_
        have HO116 := n3_
        have BK101 := n4_
        have HB := n5_
        clear n0_ n1_ n2_ n3_ n4_ n5_
        clear hb ho28
        refine hK.out _ _ ⟨v103, v107, v111, v115, v119, v123, v127, v131, (by rw [ha.out]; exact putSel_upk 10 hb_ rfl rfl rfl), (by (with_reducible repeat (first | refine blk_drewN ?_ _ | refine blk_drew ?_ | refine blk_alloc ?_ _)); exact BK101.out), (by repeat (first | (with_reducible first | exact HB.out | apply below_alloc | apply pw_below_drewN | apply below_drew1 | refine below_set ?_ GE101.out) | exact HB.out)), fun _ => (by (with_reducible repeat (first | apply Kd.R_alloc | apply Kd.R_drewN | apply Kd.R_drew)); exact Kd.R_mono HO104.out (fun _ hk => by first | exact trivial | exact ⟨hk.1.1, ⟨hk.1.2, hk.2⟩⟩)), fun _ => (by (with_reducible repeat (first | apply Kd.R_alloc | apply Kd.R_drewN | apply Kd.R_drew)); exact Kd.R_mono HO108.out (fun _ hk => by first | exact trivial | exact ⟨hk.1.1, ⟨hk.1.2, hk.2⟩⟩)), fun _ => (by (with_reducible repeat (first | apply Kd.R_alloc | apply Kd.R_drewN | apply Kd.R_drew)); exact Kd.R_mono HO112.out (fun _ hk => by first | exact trivial | exact ⟨hk.1.1, ⟨hk.1.2, hk.2⟩⟩)), fun _ => (by (with_reducible repeat (first | apply Kd.R_alloc | apply Kd.R_drewN | apply Kd.R_drew)); exact Kd.R_mono HO116.out (fun _ hk => by first | exact trivial | exact ⟨hk.1.1.2, ⟨hk.1.2, hk.2⟩⟩)), fun h0_ => absurd ((hoff 22 (by kernel_rfl)).symm.trans h0_) (by decide), fun h0_ => absurd ((hoff 24 (by kernel_rfl)).symm.trans h0_) (by decide), fun h0_ => absurd ((hoff 30 (by kernel_rfl)).symm.trans h0_) (by decide), fun h0_ => absurd ((hoff 32 (by kernel_rfl)).symm.trans h0_) (by decide)⟩
      refine steps_cons ?_ ?_
      · rintro b a w' ⟨v103, v107, v111, v115, v119, v123, v127, v131, ha, Q_BK101, Q_HB, Q_HO104, Q_HO108, Q_HO112, Q_HO116, Q_HO120, Q_HO124, Q_HO128, Q_HO132⟩ hb_ hon hoff
        refine ⟨_, rfl, fun K hK => ?_⟩
        have e14 : a.tmps[14]? = some (.agg #[.int .i64 a2_0, .int .i64 a2_1]) := by rw [ha]; exact putSel_on (e := (8, 14, .agg #[.int .i64 a2_0, .int .i64 a2_1])) 6 rfl rfl (hon 8 (by kernel_rfl)) rfl
        have e20 : a.tmps[20]? = some (v115) := by rw [ha]; exact putSel_on (e := (14, 20, v115)) 10 rfl rfl (hon 14 (by kernel_rfl)) rfl
        replace ha := Aside0.mk ha
        have BK101 := Aside0.mk Q_BK101
        have HB := Aside0.mk Q_HB
        have HO104 := Aside0.mk (Q_HO104 (hon 4 (by kernel_rfl)))
        have HO108 := Aside0.mk (Q_HO108 (hon 6 (by kernel_rfl)))
        have HO112 := Aside0.mk (Q_HO112 (hon 12 (by kernel_rfl)))
        have HO116 := Aside0.mk (Q_HO116 (hon 14 (by kernel_rfl)))
        obtain ⟨Ao29, co29, eo29⟩ := Kd.R_slice HO116.out
        (first | subst eo29 | (injection eo29 with f1_ f2_ f3_; have f4_ := f1_.symm; have f5_ := f3_.symm; clear f1_ f2_ f3_; subst f4_; subst f5_))
        refine goes_ Try.func56 (by kernel_rfl) rfl #[.agg #[.int .i64 a2_0, .int .i64 a2_1], .slice Ao29 y114.length co29] (by rfl) rfl rfl (by first | (simp only [List.map_toArray, List.map_cons, List.map_nil, Act.eval, Array.getD_eq_getD_getElem?, Option.getD_some, e14, e20]; done) | (simp only [List.map_toArray, List.map_cons, List.map_nil, Act.eval, Array.getD_eq_getD_getElem?, Option.getD_some, e14, e20]; rfl)) ?_
        with_reducible refine (impl_Func_of.calls k a2_0 a2_1 _ _ y114 t117 _ ?side1 ?side2 A7.out).mono ?_
        (case side1 => repeat (first | exact (Kd.R_reads' HO116.out).2.2 | (with_reducible refine Kd.C_alloc ?_ _) | (with_reducible refine Kd.C_drewN ?_ _) | (with_reducible refine Kd.C_drew ?_)))
        (case side2 => exact (Kd.R_reads' HO116.out).2.1)
        rintro e w30 ⟨rfl, hb⟩
        refine ⟨_, rfl, ?_⟩
        have n0_ := Aside0.mk (Kd.R_below (by (with_reducible repeat (first | apply Kd.R_alloc | apply Kd.R_drewN | apply Kd.R_drew)); exact HO104.out) hb)
        have n1_ := Aside0.mk (Kd.R_below (by (with_reducible repeat (first | apply Kd.R_alloc | apply Kd.R_drewN | apply Kd.R_drew)); exact HO108.out) hb)
        have n2_ := Aside0.mk (Kd.R_below (by (with_reducible repeat (first | apply Kd.R_alloc | apply Kd.R_drewN | apply Kd.R_drew)); exact HO112.out) hb)
        have n3_ := Aside0.mk (Kd.R_below (by (with_reducible repeat (first | apply Kd.R_alloc | apply Kd.R_drewN | apply Kd.R_drew)); exact HO116.out) hb)
        have n4_ := Aside0.mk (blk_below (g := g2c) (o := .cells #[.int .i64 a2_0, .int .i64 a2_1] 26 (0, 0)) (by (with_reducible repeat (first | refine blk_drewN ?_ _ | refine blk_drew ?_ | refine blk_alloc ?_ _)); exact BK101.out) hb)
        have n5_ := Aside0.mk (below_step (by repeat (first | (with_reducible first | exact HB.out | apply below_alloc | apply pw_below_drewN | apply below_drew1 | refine below_set ?_ GE101.out) | exact HB.out)) hb)
        clear HO104
        clear HO108
        clear HO112
        clear HO116
        clear BK101
        clear HB
        have HO104 := n0_
        have HO108 := n1_
        have HO112 := n2_
        have HO116 := n3_
        have BK101 := n4_
        have HB := n5_
        clear n0_ n1_ n2_ n3_ n4_ n5_
        (try clear hb)
        (try clear hb2)
        (try clear hk)
        (try clear hi)
        refine hK.out _ _ ⟨v103, v107, v111, .slice Ao29 y114.length co29, v119, v123, v127, v131, (by rw [ha.out]; exact putSel_upk 11 hb_ rfl rfl rfl), (by (with_reducible repeat (first | refine blk_drewN ?_ _ | refine blk_drew ?_ | refine blk_alloc ?_ _)); exact BK101.out), (by repeat (first | (with_reducible first | exact HB.out | apply below_alloc | apply pw_below_drewN | apply below_drew1 | refine below_set ?_ GE101.out) | exact HB.out)), fun _ => (by (with_reducible repeat (first | apply Kd.R_alloc | apply Kd.R_drewN | apply Kd.R_drew)); exact HO104.out), fun _ => (by (with_reducible repeat (first | apply Kd.R_alloc | apply Kd.R_drewN | apply Kd.R_drew)); exact HO108.out), fun _ => (by (with_reducible repeat (first | apply Kd.R_alloc | apply Kd.R_drewN | apply Kd.R_drew)); exact HO112.out), fun _ => (by (with_reducible repeat (first | apply Kd.R_alloc | apply Kd.R_drewN | apply Kd.R_drew)); exact HO116.out), fun h0_ => absurd ((hoff 22 (by kernel_rfl)).symm.trans h0_) (by decide), fun h0_ => absurd ((hoff 24 (by kernel_rfl)).symm.trans h0_) (by decide), fun h0_ => absurd ((hoff 30 (by kernel_rfl)).symm.trans h0_) (by decide), fun h0_ => absurd ((hoff 32 (by kernel_rfl)).symm.trans h0_) (by decide)⟩
      refine steps_cons ?_ ?_
      · rintro b a w' ⟨v103, v107, v111, v115, v119, v123, v127, v131, ha, Q_BK101, Q_HB, Q_HO104, Q_HO108, Q_HO112, Q_HO116, Q_HO120, Q_HO124, Q_HO128, Q_HO132⟩ hb_ hon hoff
        refine ⟨_, rfl, fun K hK => ?_⟩
        have e13 : a.tmps[13]? = some (.int .i64 t109) := by rw [ha]; exact putSel_on (e := (7, 13, .int .i64 t109)) 5 rfl rfl (hon 7 (by kernel_rfl)) rfl
        have e21 : a.tmps[21]? = some (.int .i64 t117) := by rw [ha]; exact putSel_on (e := (15, 21, .int .i64 t117)) 11 rfl rfl (hon 15 (by kernel_rfl)) rfl
        replace ha := Aside0.mk ha
        have BK101 := Aside0.mk Q_BK101
        have HB := Aside0.mk Q_HB
        have HO104 := Aside0.mk (Q_HO104 (hon 4 (by kernel_rfl)))
        have HO108 := Aside0.mk (Q_HO108 (hon 6 (by kernel_rfl)))
        have HO112 := Aside0.mk (Q_HO112 (hon 12 (by kernel_rfl)))
        have HO116 := Aside0.mk (Q_HO116 (hon 14 (by kernel_rfl)))
        refine value_ (w1 := w') (v := .bool (t109 == t117)) (by rfl) rfl ?_ ?_
        · go_simp
          (try simp only [i64_w])
          try rfl
        refine hK.out _ _ ⟨v103, v107, v111, v115, v119, v123, v127, v131, (by rw [ha.out]; exact putSel_upk 12 hb_ rfl rfl rfl), Q_BK101, Q_HB, Q_HO104, Q_HO108, Q_HO112, Q_HO116, fun h0_ => absurd ((hoff 22 (by kernel_rfl)).symm.trans h0_) (by decide), fun h0_ => absurd ((hoff 24 (by kernel_rfl)).symm.trans h0_) (by decide), fun h0_ => absurd ((hoff 30 (by kernel_rfl)).symm.trans h0_) (by decide), fun h0_ => absurd ((hoff 32 (by kernel_rfl)).symm.trans h0_) (by decide)⟩
      refine steps_cons ?_ ?_
      · rintro b a w' ⟨v103, v107, v111, v115, v119, v123, v127, v131, ha, Q_BK101, Q_HB, Q_HO104, Q_HO108, Q_HO112, Q_HO116, Q_HO120, Q_HO124, Q_HO128, Q_HO132⟩ hb_ hon hoff
        refine ⟨_, rfl, fun K hK => ?_⟩
        have e22 : a.tmps[22]? = some (.bool (t109 == t117)) := by rw [ha]; exact putSel_on (e := (16, 22, .bool (t109 == t117))) 12 rfl rfl (hon 16 (by kernel_rfl)) rfl
        replace ha := Aside0.mk ha
        have BK101 := Aside0.mk Q_BK101
        have HB := Aside0.mk Q_HB
        have HO104 := Aside0.mk (Q_HO104 (hon 4 (by kernel_rfl)))
        have HO108 := Aside0.mk (Q_HO108 (hon 6 (by kernel_rfl)))
        have HO112 := Aside0.mk (Q_HO112 (hon 12 (by kernel_rfl)))
        have HO116 := Aside0.mk (Q_HO116 (hon 14 (by kernel_rfl)))
        refine value_ (w1 := w') (v := .bool (t109 == t117)) (by rfl) rfl ?_ ?_
        · go_simp
          (try simp only [i64_w])
          try rfl
        refine hK.out _ _ ⟨v103, v107, v111, v115, v119, v123, v127, v131, (by rw [ha.out]; exact putSel_upk 13 hb_ rfl rfl rfl), Q_BK101, Q_HB, Q_HO104, Q_HO108, Q_HO112, Q_HO116, fun h0_ => absurd ((hoff 22 (by kernel_rfl)).symm.trans h0_) (by decide), fun h0_ => absurd ((hoff 24 (by kernel_rfl)).symm.trans h0_) (by decide), fun h0_ => absurd ((hoff 30 (by kernel_rfl)).symm.trans h0_) (by decide), fun h0_ => absurd ((hoff 32 (by kernel_rfl)).symm.trans h0_) (by decide)⟩
      refine steps_cons ?_ ?_
      · rintro b a w' ⟨v103, v107, v111, v115, v119, v123, v127, v131, ha, Q_BK101, Q_HB, Q_HO104, Q_HO108, Q_HO112, Q_HO116, Q_HO120, Q_HO124, Q_HO128, Q_HO132⟩ hb_ hon hoff
        refine ⟨_, rfl, fun K hK => ?_⟩
        have e2 : a.tmps[2]? = some (.pointer (some ⟨g2c, 0, none⟩)) := by rw [ha]; exact (putSel_off rfl).trans rfl
        have e23 : a.tmps[23]? = some (.bool (t109 == t117)) := by rw [ha]; exact putSel_on (e := (17, 23, .bool (t109 == t117))) 13 rfl rfl (hon 17 (by kernel_rfl)) rfl
        replace ha := Aside0.mk ha
        have BK101 := Aside0.mk Q_BK101
        have HB := Aside0.mk Q_HB
        have HO104 := Aside0.mk (Q_HO104 (hon 4 (by kernel_rfl)))
        have HO108 := Aside0.mk (Q_HO108 (hon 6 (by kernel_rfl)))
        have HO112 := Aside0.mk (Q_HO112 (hon 12 (by kernel_rfl)))
        have HO116 := Aside0.mk (Q_HO116 (hon 14 (by kernel_rfl)))
        have hc0_ : w'.cell? ⟨g2c, 0, none⟩ = some (.int .i64 a2_0) := (blk_cell BK101.out 0).trans rfl
        have hc1_ : w'.cell? ⟨g2c, 1, none⟩ = some (.int .i64 a2_1) := (blk_cell BK101.out 1).trans rfl
        refine value_ (w1 := w') (v := .agg #[.int .i64 a2_0, .int .i64 a2_1]) (wanted_on rfl rfl rfl (e23.trans (by first | rfl | (simp [*]; done)))) rfl ?_ ?_
        · go_simp
          (try simp only [i64_w])
          try rfl
        refine hK.out _ _ ⟨v103, v107, v111, v115, v119, v123, v127, v131, (by rw [ha.out]; exact putSel_upk 14 hb_ rfl rfl rfl), Q_BK101, Q_HB, Q_HO104, Q_HO108, Q_HO112, Q_HO116, Q_HO120, Q_HO124, Q_HO128, fun h0_ => absurd ((hoff 32 (by kernel_rfl)).symm.trans h0_) (by decide)⟩
      refine steps_cons ?_ ?_
      · rintro b a w' ⟨v103, v107, v111, v115, v119, v123, v127, v131, ha, Q_BK101, Q_HB, Q_HO104, Q_HO108, Q_HO112, Q_HO116, Q_HO120, Q_HO124, Q_HO128, Q_HO132⟩ hb_ hon hoff
        refine ⟨_, rfl, fun K hK => ?_⟩
        have e0 : a.tmps[0]? = some (.int .i64 a0) := by rw [ha]; exact (putSel_off rfl).trans rfl
        have e23 : a.tmps[23]? = some (.bool (t109 == t117)) := by rw [ha]; exact putSel_on (e := (17, 23, .bool (t109 == t117))) 13 rfl rfl (hon 17 (by kernel_rfl)) rfl
        replace ha := Aside0.mk ha
        have BK101 := Aside0.mk Q_BK101
        have HB := Aside0.mk Q_HB
        have HO104 := Aside0.mk (Q_HO104 (hon 4 (by kernel_rfl)))
        have HO108 := Aside0.mk (Q_HO108 (hon 6 (by kernel_rfl)))
        have HO112 := Aside0.mk (Q_HO112 (hon 12 (by kernel_rfl)))
        have HO116 := Aside0.mk (Q_HO116 (hon 14 (by kernel_rfl)))
        refine value_ (w1 := w') (v := .int .i64 a0) (wanted_on rfl rfl rfl (e23.trans (by first | rfl | (simp [*]; done)))) rfl ?_ ?_
        · go_simp
          (try simp only [i64_w])
          try rfl
        refine hK.out _ _ ⟨v103, v107, v111, v115, v119, v123, v127, v131, (by rw [ha.out]; exact putSel_upk 15 hb_ rfl rfl rfl), Q_BK101, Q_HB, Q_HO104, Q_HO108, Q_HO112, Q_HO116, Q_HO120, fun h0_ => absurd ((hoff 24 (by kernel_rfl)).symm.trans h0_) (by decide), Q_HO128, fun h0_ => absurd ((hoff 32 (by kernel_rfl)).symm.trans h0_) (by decide)⟩
      refine steps_cons ?_ ?_
      · rintro b a w' ⟨v103, v107, v111, v115, v119, v123, v127, v131, ha, Q_BK101, Q_HB, Q_HO104, Q_HO108, Q_HO112, Q_HO116, Q_HO120, Q_HO124, Q_HO128, Q_HO132⟩ hb_ hon hoff
        refine ⟨_, rfl, fun K hK => ?_⟩
        have e2 : a.tmps[2]? = some (.pointer (some ⟨g2c, 0, none⟩)) := by rw [ha]; exact (putSel_off rfl).trans rfl
        have e23 : a.tmps[23]? = some (.bool (t109 == t117)) := by rw [ha]; exact putSel_on (e := (17, 23, .bool (t109 == t117))) 13 rfl rfl (hon 17 (by kernel_rfl)) rfl
        replace ha := Aside0.mk ha
        have BK101 := Aside0.mk Q_BK101
        have HB := Aside0.mk Q_HB
        have HO104 := Aside0.mk (Q_HO104 (hon 4 (by kernel_rfl)))
        have HO108 := Aside0.mk (Q_HO108 (hon 6 (by kernel_rfl)))
        have HO112 := Aside0.mk (Q_HO112 (hon 12 (by kernel_rfl)))
        have HO116 := Aside0.mk (Q_HO116 (hon 14 (by kernel_rfl)))
        have hc0_ : w'.cell? ⟨g2c, 0, none⟩ = some (.int .i64 a2_0) := (blk_cell BK101.out 0).trans rfl
        have hc1_ : w'.cell? ⟨g2c, 1, none⟩ = some (.int .i64 a2_1) := (blk_cell BK101.out 1).trans rfl
        refine value_ (w1 := w') (v := .agg #[.int .i64 a2_0, .int .i64 a2_1]) (wanted_on rfl rfl rfl (e23.trans (by first | rfl | (simp [*]; done)))) rfl ?_ ?_
        · go_simp
          (try simp only [i64_w])
          try rfl
        refine hK.out _ _ ⟨v103, v107, v111, v115, v119, v123, v127, v131, (by rw [ha.out]; exact putSel_upk 16 hb_ rfl rfl rfl), Q_BK101, Q_HB, Q_HO104, Q_HO108, Q_HO112, Q_HO116, Q_HO120, fun h0_ => absurd ((hoff 24 (by kernel_rfl)).symm.trans h0_) (by decide), Q_HO128, fun h0_ => absurd ((hoff 32 (by kernel_rfl)).symm.trans h0_) (by decide)⟩
      refine steps_cons ?_ ?_
      · rintro b a w' ⟨v103, v107, v111, v115, v119, v123, v127, v131, ha, Q_BK101, Q_HB, Q_HO104, Q_HO108, Q_HO112, Q_HO116, Q_HO120, Q_HO124, Q_HO128, Q_HO132⟩ hb_ hon hoff
        refine ⟨_, rfl, fun K hK => ?_⟩
        have e1 : a.tmps[1]? = some (.int .i64 a1) := by rw [ha]; exact (putSel_off rfl).trans rfl
        have e23 : a.tmps[23]? = some (.bool (t109 == t117)) := by rw [ha]; exact putSel_on (e := (17, 23, .bool (t109 == t117))) 13 rfl rfl (hon 17 (by kernel_rfl)) rfl
        replace ha := Aside0.mk ha
        have BK101 := Aside0.mk Q_BK101
        have HB := Aside0.mk Q_HB
        have HO104 := Aside0.mk (Q_HO104 (hon 4 (by kernel_rfl)))
        have HO108 := Aside0.mk (Q_HO108 (hon 6 (by kernel_rfl)))
        have HO112 := Aside0.mk (Q_HO112 (hon 12 (by kernel_rfl)))
        have HO116 := Aside0.mk (Q_HO116 (hon 14 (by kernel_rfl)))
        refine value_ (w1 := w') (v := .int .i64 a1) (wanted_on rfl rfl rfl (e23.trans (by first | rfl | (simp [*]; done)))) rfl ?_ ?_
        · go_simp
          (try simp only [i64_w])
          try rfl
        refine hK.out _ _ ⟨v103, v107, v111, v115, v119, v123, v127, v131, (by rw [ha.out]; exact putSel_upk 17 hb_ rfl rfl rfl), Q_BK101, Q_HB, Q_HO104, Q_HO108, Q_HO112, Q_HO116, fun h0_ => absurd ((hoff 22 (by kernel_rfl)).symm.trans h0_) (by decide), fun h0_ => absurd ((hoff 24 (by kernel_rfl)).symm.trans h0_) (by decide), Q_HO128, fun h0_ => absurd ((hoff 32 (by kernel_rfl)).symm.trans h0_) (by decide)⟩
      refine steps_cons ?_ ?_
      · rintro b a w' ⟨v103, v107, v111, v115, v119, v123, v127, v131, ha, Q_BK101, Q_HB, Q_HO104, Q_HO108, Q_HO112, Q_HO116, Q_HO120, Q_HO124, Q_HO128, Q_HO132⟩ hb_ hon hoff
        refine ⟨_, rfl, fun K hK => ?_⟩
        have e27 : a.tmps[27]? = some (.int .i64 a1) := by rw [ha]; exact putSel_on (e := (21, 27, .int .i64 a1)) 17 rfl rfl (hon 21 (by kernel_rfl)) rfl
        have e23 : a.tmps[23]? = some (.bool (t109 == t117)) := by rw [ha]; exact putSel_on (e := (17, 23, .bool (t109 == t117))) 13 rfl rfl (hon 17 (by kernel_rfl)) rfl
        replace ha := Aside0.mk ha
        have BK101 := Aside0.mk Q_BK101
        have HB := Aside0.mk Q_HB
        have HO104 := Aside0.mk (Q_HO104 (hon 4 (by kernel_rfl)))
        have HO108 := Aside0.mk (Q_HO108 (hon 6 (by kernel_rfl)))
        have HO112 := Aside0.mk (Q_HO112 (hon 12 (by kernel_rfl)))
        have HO116 := Aside0.mk (Q_HO116 (hon 14 (by kernel_rfl)))
        refine Kd.R_lit_step (Kd.int .i64) _ 2 ?hg (N := 28) ?hd (xs := ([a1, 1] : List Int)) (inner := [.int .i64 a1, .int .i64 1]) (ok := fun _ => True) (okp := fun _ => True) ?hr ?hp (fun _ hk => by first | exact trivial | exact hk) trivial (Below.refl _ _) (Nat.le_refl _) (by simp) ?_; (case hd => rfl); (case hg => first | rfl | exact wanted_on rfl rfl rfl (e23.trans (by first | rfl | (simp [*]; done)))); (case hr => first | (go_simp; done) | (go_simp; rfl)); (case hp => exact (Reps.one (show Kd.M (Kd.int .i64) _ _ _ a1 [.int .i64 a1] from rfl) (Reps.one (show Kd.M (Kd.int .i64) _ _ _ 1 [.int .i64 1] from rfl) (Reps.none _ _))))
        intro v119 w31 ho32 hb hg_ hnew_
        clear hg_ hnew_
        (first | rw [← Ny118.out] at ho32 | (simp only [Int.reduceToNat] at ho32; rw [← Ny118.out] at ho32))
        have n0_ := Aside0.mk (Kd.R_elder' (by (with_reducible repeat (first | apply Kd.R_alloc | apply Kd.R_drewN | apply Kd.R_drew)); exact HO104.out) (Kd.R_base ho32) hb)
        have n1_ := Aside0.mk (Kd.R_elder' (by (with_reducible repeat (first | apply Kd.R_alloc | apply Kd.R_drewN | apply Kd.R_drew)); exact HO108.out) (Kd.R_base ho32) hb)
        have n2_ := Aside0.mk (Kd.R_elder' (by (with_reducible repeat (first | apply Kd.R_alloc | apply Kd.R_drewN | apply Kd.R_drew)); exact HO112.out) (Kd.R_base ho32) hb)
        have n3_ := Aside0.mk (Kd.R_elder' (by (with_reducible repeat (first | apply Kd.R_alloc | apply Kd.R_drewN | apply Kd.R_drew)); exact HO116.out) (Kd.R_base ho32) hb)
        have n4_ := Aside0.mk (Kd.R_lower (Kd.R_new' (Kd.R_new' (Kd.R_new' (Kd.R_new' ho32 (Kd.R_lt (by (with_reducible repeat (first | apply Kd.R_alloc | apply Kd.R_drewN | apply Kd.R_drew)); exact HO104.out))) (Kd.R_lt (by (with_reducible repeat (first | apply Kd.R_alloc | apply Kd.R_drewN | apply Kd.R_drew)); exact HO108.out))) (Kd.R_lt (by (with_reducible repeat (first | apply Kd.R_alloc | apply Kd.R_drewN | apply Kd.R_drew)); exact HO112.out))) (Kd.R_lt (by (with_reducible repeat (first | apply Kd.R_alloc | apply Kd.R_drewN | apply Kd.R_drew)); exact HO116.out))) (below_size (by repeat (first | (with_reducible first | exact HB.out | apply below_alloc | apply pw_below_drewN | apply below_drew1 | refine below_set ?_ GE101.out) | exact HB.out))))
        have n5_ := Aside0.mk (blk_below (g := g2c) (o := .cells #[.int .i64 a2_0, .int .i64 a2_1] 26 (0, 0)) (by (with_reducible repeat (first | refine blk_drewN ?_ _ | refine blk_drew ?_ | refine blk_alloc ?_ _)); exact BK101.out) hb)
        have n6_ := Aside0.mk (below_step (by repeat (first | (with_reducible first | exact HB.out | apply below_alloc | apply pw_below_drewN | apply below_drew1 | refine below_set ?_ GE101.out) | exact HB.out)) hb)
        have z_HO128 := fun (h0_ : b 30 = true) => (show Kd.R (Kd.int .i64) 2 w31 w.heap.size (fun _ => True) v127 y126 from by first | exact (Kd.R_elder' (by (with_reducible repeat (first | apply Kd.R_alloc | apply Kd.R_drewN | apply Kd.R_drew)); exact (Q_HO128 h0_)) (Kd.R_base ho32) hb) | exact Kd.R_mono (Kd.R_elder' (by (with_reducible repeat (first | apply Kd.R_alloc | apply Kd.R_drewN | apply Kd.R_drew)); exact (Q_HO128 h0_)) (Kd.R_base ho32) hb) (fun _ h_ => by first | trivial | exact h_ | exact h_.1))
        clear HO104
        clear HO108
        clear HO112
        clear HO116
        clear BK101
        clear HB
        have HO104 := n0_
        have HO108 := n1_
        have HO112 := n2_
        have HO116 := n3_
        have HO120 := n4_
        have BK101 := n5_
        have HB := n6_
        clear n0_ n1_ n2_ n3_ n4_ n5_ n6_
        clear hb ho32
        refine hK.out _ _ ⟨v103, v107, v111, v115, v119, v123, v127, v131, (by rw [ha.out]; exact putSel_upk 18 hb_ rfl rfl rfl), (by (with_reducible repeat (first | refine blk_drewN ?_ _ | refine blk_drew ?_ | refine blk_alloc ?_ _)); exact BK101.out), (by repeat (first | (with_reducible first | exact HB.out | apply below_alloc | apply pw_below_drewN | apply below_drew1 | refine below_set ?_ GE101.out) | exact HB.out)), fun _ => (by (with_reducible repeat (first | apply Kd.R_alloc | apply Kd.R_drewN | apply Kd.R_drew)); exact Kd.R_mono HO104.out (fun _ hk => by first | exact trivial | exact ⟨hk.1.1, ⟨hk.1.2.1, ⟨hk.1.2.2, hk.2⟩⟩⟩)), fun _ => (by (with_reducible repeat (first | apply Kd.R_alloc | apply Kd.R_drewN | apply Kd.R_drew)); exact Kd.R_mono HO108.out (fun _ hk => by first | exact trivial | exact ⟨hk.1.1, ⟨hk.1.2.1, ⟨hk.1.2.2, hk.2⟩⟩⟩)), fun _ => (by (with_reducible repeat (first | apply Kd.R_alloc | apply Kd.R_drewN | apply Kd.R_drew)); exact Kd.R_mono HO112.out (fun _ hk => by first | exact trivial | exact ⟨hk.1.1, ⟨hk.1.2.1, ⟨hk.1.2.2, hk.2⟩⟩⟩)), fun _ => (by (with_reducible repeat (first | apply Kd.R_alloc | apply Kd.R_drewN | apply Kd.R_drew)); exact Kd.R_mono HO116.out (fun _ hk => by first | exact trivial | exact ⟨hk.1.1, ⟨hk.1.2.1, ⟨hk.1.2.2, hk.2⟩⟩⟩)), fun _ => (by (with_reducible repeat (first | apply Kd.R_alloc | apply Kd.R_drewN | apply Kd.R_drew)); exact Kd.R_mono HO120.out (fun _ hk => by first | exact trivial | exact ⟨hk.1.1.1.2, ⟨hk.1.1.2, ⟨hk.1.2, hk.2⟩⟩⟩)), fun h0_ => absurd ((hoff 24 (by kernel_rfl)).symm.trans h0_) (by decide), z_HO128, fun h0_ => absurd ((hoff 32 (by kernel_rfl)).symm.trans h0_) (by decide)⟩
      refine steps_cons ?_ ?_
      · rintro b a w' ⟨v103, v107, v111, v115, v119, v123, v127, v131, ha, Q_BK101, Q_HB, Q_HO104, Q_HO108, Q_HO112, Q_HO116, Q_HO120, Q_HO124, Q_HO128, Q_HO132⟩ hb_ hon hoff
        refine ⟨_, rfl, fun K hK => ?_⟩
        have e26 : a.tmps[26]? = some (.agg #[.int .i64 a2_0, .int .i64 a2_1]) := by rw [ha]; exact putSel_on (e := (20, 26, .agg #[.int .i64 a2_0, .int .i64 a2_1])) 16 rfl rfl (hon 20 (by kernel_rfl)) rfl
        have e28 : a.tmps[28]? = some (v119) := by rw [ha]; exact putSel_on (e := (22, 28, v119)) 18 rfl rfl (hon 22 (by kernel_rfl)) rfl
        have e23 : a.tmps[23]? = some (.bool (t109 == t117)) := by rw [ha]; exact putSel_on (e := (17, 23, .bool (t109 == t117))) 13 rfl rfl (hon 17 (by kernel_rfl)) rfl
        replace ha := Aside0.mk ha
        have BK101 := Aside0.mk Q_BK101
        have HB := Aside0.mk Q_HB
        have HO104 := Aside0.mk (Q_HO104 (hon 4 (by kernel_rfl)))
        have HO108 := Aside0.mk (Q_HO108 (hon 6 (by kernel_rfl)))
        have HO112 := Aside0.mk (Q_HO112 (hon 12 (by kernel_rfl)))
        have HO116 := Aside0.mk (Q_HO116 (hon 14 (by kernel_rfl)))
        have HO120 := Aside0.mk (Q_HO120 (hon 22 (by kernel_rfl)))
        obtain ⟨Ao33, co33, eo33⟩ := Kd.R_slice HO120.out
        (first | subst eo33 | (injection eo33 with f1_ f2_ f3_; have f4_ := f1_.symm; have f5_ := f3_.symm; clear f1_ f2_ f3_; subst f4_; subst f5_))
        refine goes_ Try.func56 (by kernel_rfl) rfl #[.agg #[.int .i64 a2_0, .int .i64 a2_1], .slice Ao33 y118.length co33] (by first | rfl | exact wanted_on rfl rfl rfl (e23.trans (by first | rfl | (simp [*]; done)))) rfl rfl (by first | (simp only [List.map_toArray, List.map_cons, List.map_nil, Act.eval, Array.getD_eq_getD_getElem?, Option.getD_some, e26, e28, e23]; done) | (simp only [List.map_toArray, List.map_cons, List.map_nil, Act.eval, Array.getD_eq_getD_getElem?, Option.getD_some, e26, e28, e23]; rfl)) ?_
        with_reducible refine (impl_Func_of.calls k a2_0 a2_1 _ _ y118 t121 _ ?side1 ?side2 A9.out).mono ?_
        (case side1 => repeat (first | exact (Kd.R_reads' HO120.out).2.2 | (with_reducible refine Kd.C_alloc ?_ _) | (with_reducible refine Kd.C_drewN ?_ _) | (with_reducible refine Kd.C_drew ?_)))
        (case side2 => exact (Kd.R_reads' HO120.out).2.1)
        rintro e w34 ⟨rfl, hb⟩
        refine ⟨_, rfl, ?_⟩
        have n0_ := Aside0.mk (Kd.R_below (by (with_reducible repeat (first | apply Kd.R_alloc | apply Kd.R_drewN | apply Kd.R_drew)); exact HO104.out) hb)
        have n1_ := Aside0.mk (Kd.R_below (by (with_reducible repeat (first | apply Kd.R_alloc | apply Kd.R_drewN | apply Kd.R_drew)); exact HO108.out) hb)
        have n2_ := Aside0.mk (Kd.R_below (by (with_reducible repeat (first | apply Kd.R_alloc | apply Kd.R_drewN | apply Kd.R_drew)); exact HO112.out) hb)
        have n3_ := Aside0.mk (Kd.R_below (by (with_reducible repeat (first | apply Kd.R_alloc | apply Kd.R_drewN | apply Kd.R_drew)); exact HO116.out) hb)
        have n4_ := Aside0.mk (Kd.R_below (by (with_reducible repeat (first | apply Kd.R_alloc | apply Kd.R_drewN | apply Kd.R_drew)); exact HO120.out) hb)
        have n5_ := Aside0.mk (blk_below (g := g2c) (o := .cells #[.int .i64 a2_0, .int .i64 a2_1] 26 (0, 0)) (by (with_reducible repeat (first | refine blk_drewN ?_ _ | refine blk_drew ?_ | refine blk_alloc ?_ _)); exact BK101.out) hb)
        have n6_ := Aside0.mk (below_step (by repeat (first | (with_reducible first | exact HB.out | apply below_alloc | apply pw_below_drewN | apply below_drew1 | refine below_set ?_ GE101.out) | exact HB.out)) hb)
        have z_HO128 := fun (h0_ : b 30 = true) => (show Kd.R (Kd.int .i64) 2 w34 w.heap.size (fun _ => True) v127 y126 from by first | exact (Kd.R_below (by (with_reducible repeat (first | apply Kd.R_alloc | apply Kd.R_drewN | apply Kd.R_drew)); exact (Q_HO128 h0_)) hb) | exact Kd.R_mono (Kd.R_below (by (with_reducible repeat (first | apply Kd.R_alloc | apply Kd.R_drewN | apply Kd.R_drew)); exact (Q_HO128 h0_)) hb) (fun _ h_ => by first | trivial | exact h_ | exact h_.1))
        clear HO104
        clear HO108
        clear HO112
        clear HO116
        clear HO120
        clear BK101
        clear HB
        have HO104 := n0_
        have HO108 := n1_
        have HO112 := n2_
        have HO116 := n3_
        have HO120 := n4_
        have BK101 := n5_
        have HB := n6_
        clear n0_ n1_ n2_ n3_ n4_ n5_ n6_
        (try clear hb)
        (try clear hb2)
        (try clear hk)
        (try clear hi)
        refine hK.out _ _ ⟨v103, v107, v111, v115, .slice Ao33 y118.length co33, v123, v127, v131, (by rw [ha.out]; exact putSel_upk 19 hb_ rfl rfl rfl), (by (with_reducible repeat (first | refine blk_drewN ?_ _ | refine blk_drew ?_ | refine blk_alloc ?_ _)); exact BK101.out), (by repeat (first | (with_reducible first | exact HB.out | apply below_alloc | apply pw_below_drewN | apply below_drew1 | refine below_set ?_ GE101.out) | exact HB.out)), fun _ => (by (with_reducible repeat (first | apply Kd.R_alloc | apply Kd.R_drewN | apply Kd.R_drew)); exact HO104.out), fun _ => (by (with_reducible repeat (first | apply Kd.R_alloc | apply Kd.R_drewN | apply Kd.R_drew)); exact HO108.out), fun _ => (by (with_reducible repeat (first | apply Kd.R_alloc | apply Kd.R_drewN | apply Kd.R_drew)); exact HO112.out), fun _ => (by (with_reducible repeat (first | apply Kd.R_alloc | apply Kd.R_drewN | apply Kd.R_drew)); exact HO116.out), fun _ => (by (with_reducible repeat (first | apply Kd.R_alloc | apply Kd.R_drewN | apply Kd.R_drew)); exact HO120.out), fun h0_ => absurd ((hoff 24 (by kernel_rfl)).symm.trans h0_) (by decide), z_HO128, fun h0_ => absurd ((hoff 32 (by kernel_rfl)).symm.trans h0_) (by decide)⟩
      refine steps_cons ?_ ?_
      · rintro b a w' ⟨v103, v107, v111, v115, v119, v123, v127, v131, ha, Q_BK101, Q_HB, Q_HO104, Q_HO108, Q_HO112, Q_HO116, Q_HO120, Q_HO124, Q_HO128, Q_HO132⟩ hb_ hon hoff
        refine ⟨_, rfl, fun K hK => ?_⟩
        have e25 : a.tmps[25]? = some (.int .i64 a0) := by rw [ha]; exact putSel_on (e := (19, 25, .int .i64 a0)) 15 rfl rfl (hon 19 (by kernel_rfl)) rfl
        have e29 : a.tmps[29]? = some (.int .i64 t121) := by rw [ha]; exact putSel_on (e := (23, 29, .int .i64 t121)) 19 rfl rfl (hon 23 (by kernel_rfl)) rfl
        have e23 : a.tmps[23]? = some (.bool (t109 == t117)) := by rw [ha]; exact putSel_on (e := (17, 23, .bool (t109 == t117))) 13 rfl rfl (hon 17 (by kernel_rfl)) rfl
        replace ha := Aside0.mk ha
        have BK101 := Aside0.mk Q_BK101
        have HB := Aside0.mk Q_HB
        have HO104 := Aside0.mk (Q_HO104 (hon 4 (by kernel_rfl)))
        have HO108 := Aside0.mk (Q_HO108 (hon 6 (by kernel_rfl)))
        have HO112 := Aside0.mk (Q_HO112 (hon 12 (by kernel_rfl)))
        have HO116 := Aside0.mk (Q_HO116 (hon 14 (by kernel_rfl)))
        have HO120 := Aside0.mk (Q_HO120 (hon 22 (by kernel_rfl)))
        refine Kd.R_lit_step (Kd.int .i64) _ 2 ?hg (N := 30) ?hd (xs := ([a0, t121] : List Int)) (inner := [.int .i64 a0, .int .i64 t121]) (ok := fun _ => True) (okp := fun _ => True) ?hr ?hp (fun _ hk => by first | exact trivial | exact hk) trivial (Below.refl _ _) (Nat.le_refl _) (by simp) ?_; (case hd => rfl); (case hg => first | rfl | exact wanted_on rfl rfl rfl (e23.trans (by first | rfl | (simp [*]; done)))); (case hr => first | (go_simp; done) | (go_simp; rfl)); (case hp => exact (Reps.one (show Kd.M (Kd.int .i64) _ _ _ a0 [.int .i64 a0] from rfl) (Reps.one (show Kd.M (Kd.int .i64) _ _ _ t121 [.int .i64 t121] from rfl) (Reps.none _ _))))
        intro v123 w35 ho36 hb hg_ hnew_
        clear hg_ hnew_
        (first | rw [← Ny122.out] at ho36 | (simp only [Int.reduceToNat] at ho36; rw [← Ny122.out] at ho36))
        have n0_ := Aside0.mk (Kd.R_elder' (by (with_reducible repeat (first | apply Kd.R_alloc | apply Kd.R_drewN | apply Kd.R_drew)); exact HO104.out) (Kd.R_base ho36) hb)
        have n1_ := Aside0.mk (Kd.R_elder' (by (with_reducible repeat (first | apply Kd.R_alloc | apply Kd.R_drewN | apply Kd.R_drew)); exact HO108.out) (Kd.R_base ho36) hb)
        have n2_ := Aside0.mk (Kd.R_elder' (by (with_reducible repeat (first | apply Kd.R_alloc | apply Kd.R_drewN | apply Kd.R_drew)); exact HO112.out) (Kd.R_base ho36) hb)
        have n3_ := Aside0.mk (Kd.R_elder' (by (with_reducible repeat (first | apply Kd.R_alloc | apply Kd.R_drewN | apply Kd.R_drew)); exact HO116.out) (Kd.R_base ho36) hb)
        have n4_ := Aside0.mk (Kd.R_elder' (by (with_reducible repeat (first | apply Kd.R_alloc | apply Kd.R_drewN | apply Kd.R_drew)); exact HO120.out) (Kd.R_base ho36) hb)
        have n5_ := Aside0.mk (Kd.R_lower (Kd.R_new' (Kd.R_new' (Kd.R_new' (Kd.R_new' (Kd.R_new' ho36 (Kd.R_lt (by (with_reducible repeat (first | apply Kd.R_alloc | apply Kd.R_drewN | apply Kd.R_drew)); exact HO104.out))) (Kd.R_lt (by (with_reducible repeat (first | apply Kd.R_alloc | apply Kd.R_drewN | apply Kd.R_drew)); exact HO108.out))) (Kd.R_lt (by (with_reducible repeat (first | apply Kd.R_alloc | apply Kd.R_drewN | apply Kd.R_drew)); exact HO112.out))) (Kd.R_lt (by (with_reducible repeat (first | apply Kd.R_alloc | apply Kd.R_drewN | apply Kd.R_drew)); exact HO116.out))) (Kd.R_lt (by (with_reducible repeat (first | apply Kd.R_alloc | apply Kd.R_drewN | apply Kd.R_drew)); exact HO120.out))) (below_size (by repeat (first | (with_reducible first | exact HB.out | apply below_alloc | apply pw_below_drewN | apply below_drew1 | refine below_set ?_ GE101.out) | exact HB.out))))
        have n6_ := Aside0.mk (blk_below (g := g2c) (o := .cells #[.int .i64 a2_0, .int .i64 a2_1] 26 (0, 0)) (by (with_reducible repeat (first | refine blk_drewN ?_ _ | refine blk_drew ?_ | refine blk_alloc ?_ _)); exact BK101.out) hb)
        have n7_ := Aside0.mk (below_step (by repeat (first | (with_reducible first | exact HB.out | apply below_alloc | apply pw_below_drewN | apply below_drew1 | refine below_set ?_ GE101.out) | exact HB.out)) hb)
        have z_HO128 := fun (h0_ : b 30 = true) => (show Kd.R (Kd.int .i64) 2 w35 w.heap.size (fun _ => True) v127 y126 from by first | exact (Kd.R_elder' (by (with_reducible repeat (first | apply Kd.R_alloc | apply Kd.R_drewN | apply Kd.R_drew)); exact (Q_HO128 h0_)) (Kd.R_base ho36) hb) | exact Kd.R_mono (Kd.R_elder' (by (with_reducible repeat (first | apply Kd.R_alloc | apply Kd.R_drewN | apply Kd.R_drew)); exact (Q_HO128 h0_)) (Kd.R_base ho36) hb) (fun _ h_ => by first | trivial | exact h_ | exact h_.1))
        clear HO104
        clear HO108
        clear HO112
        clear HO116
        clear HO120
        clear BK101
        clear HB
        have HO104 := n0_
        have HO108 := n1_
        have HO112 := n2_
        have HO116 := n3_
        have HO120 := n4_
        have HO124 := n5_
        have BK101 := n6_
        have HB := n7_
        clear n0_ n1_ n2_ n3_ n4_ n5_ n6_ n7_
        clear hb ho36
        refine hK.out _ _ ⟨v103, v107, v111, v115, v119, v123, v127, v131, (by rw [ha.out]; exact putSel_upk 20 hb_ rfl rfl rfl), (by (with_reducible repeat (first | refine blk_drewN ?_ _ | refine blk_drew ?_ | refine blk_alloc ?_ _)); exact BK101.out), (by repeat (first | (with_reducible first | exact HB.out | apply below_alloc | apply pw_below_drewN | apply below_drew1 | refine below_set ?_ GE101.out) | exact HB.out)), fun _ => (by (with_reducible repeat (first | apply Kd.R_alloc | apply Kd.R_drewN | apply Kd.R_drew)); exact Kd.R_mono HO104.out (fun _ hk => by first | exact trivial | exact ⟨hk.1.1, ⟨hk.1.2.1, ⟨hk.1.2.2.1, ⟨hk.1.2.2.2, hk.2⟩⟩⟩⟩)), fun _ => (by (with_reducible repeat (first | apply Kd.R_alloc | apply Kd.R_drewN | apply Kd.R_drew)); exact Kd.R_mono HO108.out (fun _ hk => by first | exact trivial | exact ⟨hk.1.1, ⟨hk.1.2.1, ⟨hk.1.2.2.1, ⟨hk.1.2.2.2, hk.2⟩⟩⟩⟩)), fun _ => (by (with_reducible repeat (first | apply Kd.R_alloc | apply Kd.R_drewN | apply Kd.R_drew)); exact Kd.R_mono HO112.out (fun _ hk => by first | exact trivial | exact ⟨hk.1.1, ⟨hk.1.2.1, ⟨hk.1.2.2.1, ⟨hk.1.2.2.2, hk.2⟩⟩⟩⟩)), fun _ => (by (with_reducible repeat (first | apply Kd.R_alloc | apply Kd.R_drewN | apply Kd.R_drew)); exact Kd.R_mono HO116.out (fun _ hk => by first | exact trivial | exact ⟨hk.1.1, ⟨hk.1.2.1, ⟨hk.1.2.2.1, ⟨hk.1.2.2.2, hk.2⟩⟩⟩⟩)), fun _ => (by (with_reducible repeat (first | apply Kd.R_alloc | apply Kd.R_drewN | apply Kd.R_drew)); exact Kd.R_mono HO120.out (fun _ hk => by first | exact trivial | exact ⟨hk.1.1, ⟨hk.1.2.1, ⟨hk.1.2.2.1, ⟨hk.1.2.2.2, hk.2⟩⟩⟩⟩)), fun _ => (by (with_reducible repeat (first | apply Kd.R_alloc | apply Kd.R_drewN | apply Kd.R_drew)); exact Kd.R_mono HO124.out (fun _ hk => by first | exact trivial | exact ⟨hk.1.1.1.1.2, ⟨hk.1.1.1.2, ⟨hk.1.1.2, ⟨hk.1.2, hk.2⟩⟩⟩⟩)), z_HO128, fun h0_ => absurd ((hoff 32 (by kernel_rfl)).symm.trans h0_) (by decide)⟩
      refine steps_cons ?_ ?_
      · rintro b a w' ⟨v103, v107, v111, v115, v119, v123, v127, v131, ha, Q_BK101, Q_HB, Q_HO104, Q_HO108, Q_HO112, Q_HO116, Q_HO120, Q_HO124, Q_HO128, Q_HO132⟩ hb_ hon hoff
        refine ⟨_, rfl, fun K hK => ?_⟩
        have e24 : a.tmps[24]? = some (.agg #[.int .i64 a2_0, .int .i64 a2_1]) := by rw [ha]; exact putSel_on (e := (18, 24, .agg #[.int .i64 a2_0, .int .i64 a2_1])) 14 rfl rfl (hon 18 (by kernel_rfl)) rfl
        have e30 : a.tmps[30]? = some (v123) := by rw [ha]; exact putSel_on (e := (24, 30, v123)) 20 rfl rfl (hon 24 (by kernel_rfl)) rfl
        have e23 : a.tmps[23]? = some (.bool (t109 == t117)) := by rw [ha]; exact putSel_on (e := (17, 23, .bool (t109 == t117))) 13 rfl rfl (hon 17 (by kernel_rfl)) rfl
        replace ha := Aside0.mk ha
        have BK101 := Aside0.mk Q_BK101
        have HB := Aside0.mk Q_HB
        have HO104 := Aside0.mk (Q_HO104 (hon 4 (by kernel_rfl)))
        have HO108 := Aside0.mk (Q_HO108 (hon 6 (by kernel_rfl)))
        have HO112 := Aside0.mk (Q_HO112 (hon 12 (by kernel_rfl)))
        have HO116 := Aside0.mk (Q_HO116 (hon 14 (by kernel_rfl)))
        have HO120 := Aside0.mk (Q_HO120 (hon 22 (by kernel_rfl)))
        have HO124 := Aside0.mk (Q_HO124 (hon 24 (by kernel_rfl)))
        obtain ⟨Ao37, co37, eo37⟩ := Kd.R_slice HO124.out
        (first | subst eo37 | (injection eo37 with f1_ f2_ f3_; have f4_ := f1_.symm; have f5_ := f3_.symm; clear f1_ f2_ f3_; subst f4_; subst f5_))
        refine goes_ Try.func56 (by kernel_rfl) rfl #[.agg #[.int .i64 a2_0, .int .i64 a2_1], .slice Ao37 y122.length co37] (by first | rfl | exact wanted_on rfl rfl rfl (e23.trans (by first | rfl | (simp [*]; done)))) rfl rfl (by first | (simp only [List.map_toArray, List.map_cons, List.map_nil, Act.eval, Array.getD_eq_getD_getElem?, Option.getD_some, e24, e30, e23]; done) | (simp only [List.map_toArray, List.map_cons, List.map_nil, Act.eval, Array.getD_eq_getD_getElem?, Option.getD_some, e24, e30, e23]; rfl)) ?_
        with_reducible refine (impl_Func_of.calls k a2_0 a2_1 _ _ y122 t125 _ ?side1 ?side2 A10.out).mono ?_
        (case side1 => repeat (first | exact (Kd.R_reads' HO124.out).2.2 | (with_reducible refine Kd.C_alloc ?_ _) | (with_reducible refine Kd.C_drewN ?_ _) | (with_reducible refine Kd.C_drew ?_)))
        (case side2 => exact (Kd.R_reads' HO124.out).2.1)
        rintro e w38 ⟨rfl, hb⟩
        refine ⟨_, rfl, ?_⟩
        have n0_ := Aside0.mk (Kd.R_below (by (with_reducible repeat (first | apply Kd.R_alloc | apply Kd.R_drewN | apply Kd.R_drew)); exact HO104.out) hb)
        have n1_ := Aside0.mk (Kd.R_below (by (with_reducible repeat (first | apply Kd.R_alloc | apply Kd.R_drewN | apply Kd.R_drew)); exact HO108.out) hb)
        have n2_ := Aside0.mk (Kd.R_below (by (with_reducible repeat (first | apply Kd.R_alloc | apply Kd.R_drewN | apply Kd.R_drew)); exact HO112.out) hb)
        have n3_ := Aside0.mk (Kd.R_below (by (with_reducible repeat (first | apply Kd.R_alloc | apply Kd.R_drewN | apply Kd.R_drew)); exact HO116.out) hb)
        have n4_ := Aside0.mk (Kd.R_below (by (with_reducible repeat (first | apply Kd.R_alloc | apply Kd.R_drewN | apply Kd.R_drew)); exact HO120.out) hb)
        have n5_ := Aside0.mk (Kd.R_below (by (with_reducible repeat (first | apply Kd.R_alloc | apply Kd.R_drewN | apply Kd.R_drew)); exact HO124.out) hb)
        have n6_ := Aside0.mk (blk_below (g := g2c) (o := .cells #[.int .i64 a2_0, .int .i64 a2_1] 26 (0, 0)) (by (with_reducible repeat (first | refine blk_drewN ?_ _ | refine blk_drew ?_ | refine blk_alloc ?_ _)); exact BK101.out) hb)
        have n7_ := Aside0.mk (below_step (by repeat (first | (with_reducible first | exact HB.out | apply below_alloc | apply pw_below_drewN | apply below_drew1 | refine below_set ?_ GE101.out) | exact HB.out)) hb)
        have z_HO128 := fun (h0_ : b 30 = true) => (show Kd.R (Kd.int .i64) 2 w38 w.heap.size (fun _ => True) v127 y126 from by first | exact (Kd.R_below (by (with_reducible repeat (first | apply Kd.R_alloc | apply Kd.R_drewN | apply Kd.R_drew)); exact (Q_HO128 h0_)) hb) | exact Kd.R_mono (Kd.R_below (by (with_reducible repeat (first | apply Kd.R_alloc | apply Kd.R_drewN | apply Kd.R_drew)); exact (Q_HO128 h0_)) hb) (fun _ h_ => by first | trivial | exact h_ | exact h_.1))
        clear HO104
        clear HO108
        clear HO112
        clear HO116
        clear HO120
        clear HO124
        clear BK101
        clear HB
        have HO104 := n0_
        have HO108 := n1_
        have HO112 := n2_
        have HO116 := n3_
        have HO120 := n4_
        have HO124 := n5_
        have BK101 := n6_
        have HB := n7_
        clear n0_ n1_ n2_ n3_ n4_ n5_ n6_ n7_
        (try clear hb)
        (try clear hb2)
        (try clear hk)
        (try clear hi)
        refine hK.out _ _ ⟨v103, v107, v111, v115, v119, .slice Ao37 y122.length co37, v127, v131, (by rw [ha.out]; exact putSel_upk 21 hb_ rfl rfl rfl), (by (with_reducible repeat (first | refine blk_drewN ?_ _ | refine blk_drew ?_ | refine blk_alloc ?_ _)); exact BK101.out), (by repeat (first | (with_reducible first | exact HB.out | apply below_alloc | apply pw_below_drewN | apply below_drew1 | refine below_set ?_ GE101.out) | exact HB.out)), fun _ => (by (with_reducible repeat (first | apply Kd.R_alloc | apply Kd.R_drewN | apply Kd.R_drew)); exact HO104.out), fun _ => (by (with_reducible repeat (first | apply Kd.R_alloc | apply Kd.R_drewN | apply Kd.R_drew)); exact HO108.out), fun _ => (by (with_reducible repeat (first | apply Kd.R_alloc | apply Kd.R_drewN | apply Kd.R_drew)); exact HO112.out), fun _ => (by (with_reducible repeat (first | apply Kd.R_alloc | apply Kd.R_drewN | apply Kd.R_drew)); exact HO116.out), fun _ => (by (with_reducible repeat (first | apply Kd.R_alloc | apply Kd.R_drewN | apply Kd.R_drew)); exact HO120.out), fun _ => (by (with_reducible repeat (first | apply Kd.R_alloc | apply Kd.R_drewN | apply Kd.R_drew)); exact HO124.out), z_HO128, fun h0_ => absurd ((hoff 32 (by kernel_rfl)).symm.trans h0_) (by decide)⟩
      refine steps_cons ?_ ?_
      · rintro b a w' ⟨v103, v107, v111, v115, v119, v123, v127, v131, ha, Q_BK101, Q_HB, Q_HO104, Q_HO108, Q_HO112, Q_HO116, Q_HO120, Q_HO124, Q_HO128, Q_HO132⟩ hb_ hon hoff
        refine ⟨_, rfl, fun K hK => ?_⟩
        have e2 : a.tmps[2]? = some (.pointer (some ⟨g2c, 0, none⟩)) := by rw [ha]; exact (putSel_off rfl).trans rfl
        have e23 : a.tmps[23]? = some (.bool (t109 == t117)) := by rw [ha]; exact putSel_on (e := (17, 23, .bool (t109 == t117))) 13 rfl rfl (hon 17 (by kernel_rfl)) rfl
        replace ha := Aside0.mk ha
        have BK101 := Aside0.mk Q_BK101
        have HB := Aside0.mk Q_HB
        have HO104 := Aside0.mk (Q_HO104 (hon 4 (by kernel_rfl)))
        have HO108 := Aside0.mk (Q_HO108 (hon 6 (by kernel_rfl)))
        have HO112 := Aside0.mk (Q_HO112 (hon 12 (by kernel_rfl)))
        have HO116 := Aside0.mk (Q_HO116 (hon 14 (by kernel_rfl)))
        have hc0_ : w'.cell? ⟨g2c, 0, none⟩ = some (.int .i64 a2_0) := (blk_cell BK101.out 0).trans rfl
        have hc1_ : w'.cell? ⟨g2c, 1, none⟩ = some (.int .i64 a2_1) := (blk_cell BK101.out 1).trans rfl
        refine value_ (w1 := w') (v := .agg #[.int .i64 a2_0, .int .i64 a2_1]) (wanted_on rfl rfl rfl (e23.trans (by first | rfl | (simp [*]; done)))) rfl ?_ ?_
        · go_simp
          (try simp only [i64_w])
          try rfl
        refine hK.out _ _ ⟨v103, v107, v111, v115, v119, v123, v127, v131, (by rw [ha.out]; exact putSel_upk 22 hb_ rfl rfl rfl), Q_BK101, Q_HB, Q_HO104, Q_HO108, Q_HO112, Q_HO116, Q_HO120, Q_HO124, Q_HO128, Q_HO132⟩
      refine steps_cons ?_ ?_
      · rintro b a w' ⟨v103, v107, v111, v115, v119, v123, v127, v131, ha, Q_BK101, Q_HB, Q_HO104, Q_HO108, Q_HO112, Q_HO116, Q_HO120, Q_HO124, Q_HO128, Q_HO132⟩ hb_ hon hoff
        refine ⟨_, rfl, fun K hK => ?_⟩
        have e2 : a.tmps[2]? = some (.pointer (some ⟨g2c, 0, none⟩)) := by rw [ha]; exact (putSel_off rfl).trans rfl
        have e23 : a.tmps[23]? = some (.bool (t109 == t117)) := by rw [ha]; exact putSel_on (e := (17, 23, .bool (t109 == t117))) 13 rfl rfl (hon 17 (by kernel_rfl)) rfl
        replace ha := Aside0.mk ha
        have BK101 := Aside0.mk Q_BK101
        have HB := Aside0.mk Q_HB
        have HO104 := Aside0.mk (Q_HO104 (hon 4 (by kernel_rfl)))
        have HO108 := Aside0.mk (Q_HO108 (hon 6 (by kernel_rfl)))
        have HO112 := Aside0.mk (Q_HO112 (hon 12 (by kernel_rfl)))
        have HO116 := Aside0.mk (Q_HO116 (hon 14 (by kernel_rfl)))
        have hc0_ : w'.cell? ⟨g2c, 0, none⟩ = some (.int .i64 a2_0) := (blk_cell BK101.out 0).trans rfl
        have hc1_ : w'.cell? ⟨g2c, 1, none⟩ = some (.int .i64 a2_1) := (blk_cell BK101.out 1).trans rfl
        refine value_ (w1 := w') (v := .agg #[.int .i64 a2_0, .int .i64 a2_1]) (wanted_on rfl rfl rfl (e23.trans (by first | rfl | (simp [*]; done)))) rfl ?_ ?_
        · go_simp
          (try simp only [i64_w])
          try rfl
        refine hK.out _ _ ⟨v103, v107, v111, v115, v119, v123, v127, v131, (by rw [ha.out]; exact putSel_upk 23 hb_ rfl rfl rfl), Q_BK101, Q_HB, Q_HO104, Q_HO108, Q_HO112, Q_HO116, Q_HO120, Q_HO124, Q_HO128, fun h0_ => absurd ((hoff 32 (by kernel_rfl)).symm.trans h0_) (by decide)⟩
      refine steps_cons ?_ ?_
      · rintro b a w' ⟨v103, v107, v111, v115, v119, v123, v127, v131, ha, Q_BK101, Q_HB, Q_HO104, Q_HO108, Q_HO112, Q_HO116, Q_HO120, Q_HO124, Q_HO128, Q_HO132⟩ hb_ hon hoff
        refine ⟨_, rfl, fun K hK => ?_⟩
        have e0 : a.tmps[0]? = some (.int .i64 a0) := by rw [ha]; exact (putSel_off rfl).trans rfl
        have e23 : a.tmps[23]? = some (.bool (t109 == t117)) := by rw [ha]; exact putSel_on (e := (17, 23, .bool (t109 == t117))) 13 rfl rfl (hon 17 (by kernel_rfl)) rfl
        replace ha := Aside0.mk ha
        have BK101 := Aside0.mk Q_BK101
        have HB := Aside0.mk Q_HB
        have HO104 := Aside0.mk (Q_HO104 (hon 4 (by kernel_rfl)))
        have HO108 := Aside0.mk (Q_HO108 (hon 6 (by kernel_rfl)))
        have HO112 := Aside0.mk (Q_HO112 (hon 12 (by kernel_rfl)))
        have HO116 := Aside0.mk (Q_HO116 (hon 14 (by kernel_rfl)))
        refine value_ (w1 := w') (v := .int .i64 a0) (wanted_on rfl rfl rfl (e23.trans (by first | rfl | (simp [*]; done)))) rfl ?_ ?_
        · go_simp
          (try simp only [i64_w])
          try rfl
        refine hK.out _ _ ⟨v103, v107, v111, v115, v119, v123, v127, v131, (by rw [ha.out]; exact putSel_upk 24 hb_ rfl rfl rfl), Q_BK101, Q_HB, Q_HO104, Q_HO108, Q_HO112, Q_HO116, Q_HO120, Q_HO124, fun h0_ => absurd ((hoff 30 (by kernel_rfl)).symm.trans h0_) (by decide), fun h0_ => absurd ((hoff 32 (by kernel_rfl)).symm.trans h0_) (by decide)⟩
      refine steps_cons ?_ ?_
      · rintro b a w' ⟨v103, v107, v111, v115, v119, v123, v127, v131, ha, Q_BK101, Q_HB, Q_HO104, Q_HO108, Q_HO112, Q_HO116, Q_HO120, Q_HO124, Q_HO128, Q_HO132⟩ hb_ hon hoff
        refine ⟨_, rfl, fun K hK => ?_⟩
        have e1 : a.tmps[1]? = some (.int .i64 a1) := by rw [ha]; exact (putSel_off rfl).trans rfl
        have e23 : a.tmps[23]? = some (.bool (t109 == t117)) := by rw [ha]; exact putSel_on (e := (17, 23, .bool (t109 == t117))) 13 rfl rfl (hon 17 (by kernel_rfl)) rfl
        replace ha := Aside0.mk ha
        have BK101 := Aside0.mk Q_BK101
        have HB := Aside0.mk Q_HB
        have HO104 := Aside0.mk (Q_HO104 (hon 4 (by kernel_rfl)))
        have HO108 := Aside0.mk (Q_HO108 (hon 6 (by kernel_rfl)))
        have HO112 := Aside0.mk (Q_HO112 (hon 12 (by kernel_rfl)))
        have HO116 := Aside0.mk (Q_HO116 (hon 14 (by kernel_rfl)))
        refine value_ (w1 := w') (v := .int .i64 a1) (wanted_on rfl rfl rfl (e23.trans (by first | rfl | (simp [*]; done)))) rfl ?_ ?_
        · go_simp
          (try simp only [i64_w])
          try rfl
        refine hK.out _ _ ⟨v103, v107, v111, v115, v119, v123, v127, v131, (by rw [ha.out]; exact putSel_upk 25 hb_ rfl rfl rfl), Q_BK101, Q_HB, Q_HO104, Q_HO108, Q_HO112, Q_HO116, Q_HO120, Q_HO124, fun h0_ => absurd ((hoff 30 (by kernel_rfl)).symm.trans h0_) (by decide), fun h0_ => absurd ((hoff 32 (by kernel_rfl)).symm.trans h0_) (by decide)⟩
      refine steps_cons ?_ ?_
      · rintro b a w' ⟨v103, v107, v111, v115, v119, v123, v127, v131, ha, Q_BK101, Q_HB, Q_HO104, Q_HO108, Q_HO112, Q_HO116, Q_HO120, Q_HO124, Q_HO128, Q_HO132⟩ hb_ hon hoff
        refine ⟨_, rfl, fun K hK => ?_⟩
        have e34 : a.tmps[34]? = some (.int .i64 a0) := by rw [ha]; exact putSel_on (e := (28, 34, .int .i64 a0)) 24 rfl rfl (hon 28 (by kernel_rfl)) rfl
        have e35 : a.tmps[35]? = some (.int .i64 a1) := by rw [ha]; exact putSel_on (e := (29, 35, .int .i64 a1)) 25 rfl rfl (hon 29 (by kernel_rfl)) rfl
        have e23 : a.tmps[23]? = some (.bool (t109 == t117)) := by rw [ha]; exact putSel_on (e := (17, 23, .bool (t109 == t117))) 13 rfl rfl (hon 17 (by kernel_rfl)) rfl
        replace ha := Aside0.mk ha
        have BK101 := Aside0.mk Q_BK101
        have HB := Aside0.mk Q_HB
        have HO104 := Aside0.mk (Q_HO104 (hon 4 (by kernel_rfl)))
        have HO108 := Aside0.mk (Q_HO108 (hon 6 (by kernel_rfl)))
        have HO112 := Aside0.mk (Q_HO112 (hon 12 (by kernel_rfl)))
        have HO116 := Aside0.mk (Q_HO116 (hon 14 (by kernel_rfl)))
        refine Kd.R_lit_step (Kd.int .i64) _ 2 ?hg (N := 36) ?hd (xs := ([a0, a1] : List Int)) (inner := [.int .i64 a0, .int .i64 a1]) (ok := fun _ => True) (okp := fun _ => True) ?hr ?hp (fun _ hk => by first | exact trivial | exact hk) trivial (Below.refl _ _) (Nat.le_refl _) (by simp) ?_; (case hd => rfl); (case hg => first | rfl | exact wanted_on rfl rfl rfl (e23.trans (by first | rfl | (simp [*]; done)))); (case hr => first | (go_simp; done) | (go_simp; rfl)); (case hp => exact (Reps.one (show Kd.M (Kd.int .i64) _ _ _ a0 [.int .i64 a0] from rfl) (Reps.one (show Kd.M (Kd.int .i64) _ _ _ a1 [.int .i64 a1] from rfl) (Reps.none _ _))))
        intro v127 w31 ho32 hb hg_ hnew_
        clear hg_ hnew_
        (first | rw [← Ny126.out] at ho32 | (simp only [Int.reduceToNat] at ho32; rw [← Ny126.out] at ho32))
        have n0_ := Aside0.mk (Kd.R_elder' (by (with_reducible repeat (first | apply Kd.R_alloc | apply Kd.R_drewN | apply Kd.R_drew)); exact HO104.out) (Kd.R_base ho32) hb)
        have n1_ := Aside0.mk (Kd.R_elder' (by (with_reducible repeat (first | apply Kd.R_alloc | apply Kd.R_drewN | apply Kd.R_drew)); exact HO108.out) (Kd.R_base ho32) hb)
        have n2_ := Aside0.mk (Kd.R_elder' (by (with_reducible repeat (first | apply Kd.R_alloc | apply Kd.R_drewN | apply Kd.R_drew)); exact HO112.out) (Kd.R_base ho32) hb)
        have n3_ := Aside0.mk (Kd.R_elder' (by (with_reducible repeat (first | apply Kd.R_alloc | apply Kd.R_drewN | apply Kd.R_drew)); exact HO116.out) (Kd.R_base ho32) hb)
        have n4_ := Aside0.mk (Kd.R_lower (Kd.R_new' (Kd.R_new' (Kd.R_new' (Kd.R_new' ho32 (Kd.R_lt (by (with_reducible repeat (first | apply Kd.R_alloc | apply Kd.R_drewN | apply Kd.R_drew)); exact HO104.out))) (Kd.R_lt (by (with_reducible repeat (first | apply Kd.R_alloc | apply Kd.R_drewN | apply Kd.R_drew)); exact HO108.out))) (Kd.R_lt (by (with_reducible repeat (first | apply Kd.R_alloc | apply Kd.R_drewN | apply Kd.R_drew)); exact HO112.out))) (Kd.R_lt (by (with_reducible repeat (first | apply Kd.R_alloc | apply Kd.R_drewN | apply Kd.R_drew)); exact HO116.out))) (below_size (by repeat (first | (with_reducible first | exact HB.out | apply below_alloc | apply pw_below_drewN | apply below_drew1 | refine below_set ?_ GE101.out) | exact HB.out))))
        have n5_ := Aside0.mk (blk_below (g := g2c) (o := .cells #[.int .i64 a2_0, .int .i64 a2_1] 26 (0, 0)) (by (with_reducible repeat (first | refine blk_drewN ?_ _ | refine blk_drew ?_ | refine blk_alloc ?_ _)); exact BK101.out) hb)
        have n6_ := Aside0.mk (below_step (by repeat (first | (with_reducible first | exact HB.out | apply below_alloc | apply pw_below_drewN | apply below_drew1 | refine below_set ?_ GE101.out) | exact HB.out)) hb)
        have z_HO120 := fun (h0_ : b 22 = true) => (show Kd.R (Kd.int .i64) 2 w31 w.heap.size (fun _ => True) v119 y118 from by first | exact (Kd.R_elder' (by (with_reducible repeat (first | apply Kd.R_alloc | apply Kd.R_drewN | apply Kd.R_drew)); exact (Q_HO120 h0_)) (Kd.R_base ho32) hb) | exact Kd.R_mono (Kd.R_elder' (by (with_reducible repeat (first | apply Kd.R_alloc | apply Kd.R_drewN | apply Kd.R_drew)); exact (Q_HO120 h0_)) (Kd.R_base ho32) hb) (fun _ h_ => by first | trivial | exact h_ | exact h_.1))
        have z_HO124 := fun (h0_ : b 24 = true) => (show Kd.R (Kd.int .i64) 2 w31 w.heap.size (fun _ => True) v123 y122 from by first | exact (Kd.R_elder' (by (with_reducible repeat (first | apply Kd.R_alloc | apply Kd.R_drewN | apply Kd.R_drew)); exact (Q_HO124 h0_)) (Kd.R_base ho32) hb) | exact Kd.R_mono (Kd.R_elder' (by (with_reducible repeat (first | apply Kd.R_alloc | apply Kd.R_drewN | apply Kd.R_drew)); exact (Q_HO124 h0_)) (Kd.R_base ho32) hb) (fun _ h_ => by first | trivial | exact h_ | exact h_.1))
        clear HO104
        clear HO108
        clear HO112
        clear HO116
        clear BK101
        clear HB
        have HO104 := n0_
        have HO108 := n1_
        have HO112 := n2_
        have HO116 := n3_
        have HO128 := n4_
        have BK101 := n5_
        have HB := n6_
        clear n0_ n1_ n2_ n3_ n4_ n5_ n6_
        clear hb ho32
        refine hK.out _ _ ⟨v103, v107, v111, v115, v119, v123, v127, v131, (by rw [ha.out]; exact putSel_upk 26 hb_ rfl rfl rfl), (by (with_reducible repeat (first | refine blk_drewN ?_ _ | refine blk_drew ?_ | refine blk_alloc ?_ _)); exact BK101.out), (by repeat (first | (with_reducible first | exact HB.out | apply below_alloc | apply pw_below_drewN | apply below_drew1 | refine below_set ?_ GE101.out) | exact HB.out)), fun _ => (by (with_reducible repeat (first | apply Kd.R_alloc | apply Kd.R_drewN | apply Kd.R_drew)); exact Kd.R_mono HO104.out (fun _ hk => by first | exact trivial | exact ⟨hk.1.1, ⟨hk.1.2.1, ⟨hk.1.2.2, hk.2⟩⟩⟩)), fun _ => (by (with_reducible repeat (first | apply Kd.R_alloc | apply Kd.R_drewN | apply Kd.R_drew)); exact Kd.R_mono HO108.out (fun _ hk => by first | exact trivial | exact ⟨hk.1.1, ⟨hk.1.2.1, ⟨hk.1.2.2, hk.2⟩⟩⟩)), fun _ => (by (with_reducible repeat (first | apply Kd.R_alloc | apply Kd.R_drewN | apply Kd.R_drew)); exact Kd.R_mono HO112.out (fun _ hk => by first | exact trivial | exact ⟨hk.1.1, ⟨hk.1.2.1, ⟨hk.1.2.2, hk.2⟩⟩⟩)), fun _ => (by (with_reducible repeat (first | apply Kd.R_alloc | apply Kd.R_drewN | apply Kd.R_drew)); exact Kd.R_mono HO116.out (fun _ hk => by first | exact trivial | exact ⟨hk.1.1, ⟨hk.1.2.1, ⟨hk.1.2.2, hk.2⟩⟩⟩)), z_HO120, z_HO124, fun _ => (by (with_reducible repeat (first | apply Kd.R_alloc | apply Kd.R_drewN | apply Kd.R_drew)); exact Kd.R_mono HO128.out (fun _ hk => by first | exact trivial | exact ⟨hk.1.1.1.2, ⟨hk.1.1.2, ⟨hk.1.2, hk.2⟩⟩⟩)), fun h0_ => absurd ((hoff 32 (by kernel_rfl)).symm.trans h0_) (by decide)⟩
      refine steps_cons ?_ ?_
      · rintro b a w' ⟨v103, v107, v111, v115, v119, v123, v127, v131, ha, Q_BK101, Q_HB, Q_HO104, Q_HO108, Q_HO112, Q_HO116, Q_HO120, Q_HO124, Q_HO128, Q_HO132⟩ hb_ hon hoff
        refine ⟨_, rfl, fun K hK => ?_⟩
        have e33 : a.tmps[33]? = some (.agg #[.int .i64 a2_0, .int .i64 a2_1]) := by rw [ha]; exact putSel_on (e := (27, 33, .agg #[.int .i64 a2_0, .int .i64 a2_1])) 23 rfl rfl (hon 27 (by kernel_rfl)) rfl
        have e36 : a.tmps[36]? = some (v127) := by rw [ha]; exact putSel_on (e := (30, 36, v127)) 26 rfl rfl (hon 30 (by kernel_rfl)) rfl
        have e23 : a.tmps[23]? = some (.bool (t109 == t117)) := by rw [ha]; exact putSel_on (e := (17, 23, .bool (t109 == t117))) 13 rfl rfl (hon 17 (by kernel_rfl)) rfl
        replace ha := Aside0.mk ha
        have BK101 := Aside0.mk Q_BK101
        have HB := Aside0.mk Q_HB
        have HO104 := Aside0.mk (Q_HO104 (hon 4 (by kernel_rfl)))
        have HO108 := Aside0.mk (Q_HO108 (hon 6 (by kernel_rfl)))
        have HO112 := Aside0.mk (Q_HO112 (hon 12 (by kernel_rfl)))
        have HO116 := Aside0.mk (Q_HO116 (hon 14 (by kernel_rfl)))
        have HO120 := Aside0.mk (Q_HO120 (hon 22 (by kernel_rfl)))
        have HO124 := Aside0.mk (Q_HO124 (hon 24 (by kernel_rfl)))
        have HO128 := Aside0.mk (Q_HO128 (hon 30 (by kernel_rfl)))
        obtain ⟨Ao41, co41, eo41⟩ := Kd.R_slice HO128.out
        (first | subst eo41 | (injection eo41 with f1_ f2_ f3_; have f4_ := f1_.symm; have f5_ := f3_.symm; clear f1_ f2_ f3_; subst f4_; subst f5_))
        refine goes_ Try.func56 (by kernel_rfl) rfl #[.agg #[.int .i64 a2_0, .int .i64 a2_1], .slice Ao41 y126.length co41] (by first | rfl | exact wanted_on rfl rfl rfl (e23.trans (by first | rfl | (simp [*]; done)))) rfl rfl (by first | (simp only [List.map_toArray, List.map_cons, List.map_nil, Act.eval, Array.getD_eq_getD_getElem?, Option.getD_some, e33, e36, e23]; done) | (simp only [List.map_toArray, List.map_cons, List.map_nil, Act.eval, Array.getD_eq_getD_getElem?, Option.getD_some, e33, e36, e23]; rfl)) ?_
        with_reducible refine (impl_Func_of.calls k a2_0 a2_1 _ _ y126 t129 _ ?side1 ?side2 A11.out).mono ?_
        (case side1 => repeat (first | exact (Kd.R_reads' HO128.out).2.2 | (with_reducible refine Kd.C_alloc ?_ _) | (with_reducible refine Kd.C_drewN ?_ _) | (with_reducible refine Kd.C_drew ?_)))
        (case side2 => exact (Kd.R_reads' HO128.out).2.1)
        rintro e w42 ⟨rfl, hb⟩
        refine ⟨_, rfl, ?_⟩
        have n0_ := Aside0.mk (Kd.R_below (by (with_reducible repeat (first | apply Kd.R_alloc | apply Kd.R_drewN | apply Kd.R_drew)); exact HO104.out) hb)
        have n1_ := Aside0.mk (Kd.R_below (by (with_reducible repeat (first | apply Kd.R_alloc | apply Kd.R_drewN | apply Kd.R_drew)); exact HO108.out) hb)
        have n2_ := Aside0.mk (Kd.R_below (by (with_reducible repeat (first | apply Kd.R_alloc | apply Kd.R_drewN | apply Kd.R_drew)); exact HO112.out) hb)
        have n3_ := Aside0.mk (Kd.R_below (by (with_reducible repeat (first | apply Kd.R_alloc | apply Kd.R_drewN | apply Kd.R_drew)); exact HO116.out) hb)
        have n4_ := Aside0.mk (Kd.R_below (by (with_reducible repeat (first | apply Kd.R_alloc | apply Kd.R_drewN | apply Kd.R_drew)); exact HO120.out) hb)
        have n5_ := Aside0.mk (Kd.R_below (by (with_reducible repeat (first | apply Kd.R_alloc | apply Kd.R_drewN | apply Kd.R_drew)); exact HO124.out) hb)
        have n6_ := Aside0.mk (Kd.R_below (by (with_reducible repeat (first | apply Kd.R_alloc | apply Kd.R_drewN | apply Kd.R_drew)); exact HO128.out) hb)
        have n7_ := Aside0.mk (blk_below (g := g2c) (o := .cells #[.int .i64 a2_0, .int .i64 a2_1] 26 (0, 0)) (by (with_reducible repeat (first | refine blk_drewN ?_ _ | refine blk_drew ?_ | refine blk_alloc ?_ _)); exact BK101.out) hb)
        have n8_ := Aside0.mk (below_step (by repeat (first | (with_reducible first | exact HB.out | apply below_alloc | apply pw_below_drewN | apply below_drew1 | refine below_set ?_ GE101.out) | exact HB.out)) hb)
        clear HO104
        clear HO108
        clear HO112
        clear HO116
        clear HO120
        clear HO124
        clear HO128
        clear BK101
        clear HB
        have HO104 := n0_
        have HO108 := n1_
        have HO112 := n2_
        have HO116 := n3_
        have HO120 := n4_
        have HO124 := n5_
        have HO128 := n6_
        have BK101 := n7_
        have HB := n8_
        clear n0_ n1_ n2_ n3_ n4_ n5_ n6_ n7_ n8_
        (try clear hb)
        (try clear hb2)
        (try clear hk)
        (try clear hi)
        refine hK.out _ _ ⟨v103, v107, v111, v115, v119, v123, .slice Ao41 y126.length co41, v131, (by rw [ha.out]; exact putSel_upk 27 hb_ rfl rfl rfl), (by (with_reducible repeat (first | refine blk_drewN ?_ _ | refine blk_drew ?_ | refine blk_alloc ?_ _)); exact BK101.out), (by repeat (first | (with_reducible first | exact HB.out | apply below_alloc | apply pw_below_drewN | apply below_drew1 | refine below_set ?_ GE101.out) | exact HB.out)), fun _ => (by (with_reducible repeat (first | apply Kd.R_alloc | apply Kd.R_drewN | apply Kd.R_drew)); exact HO104.out), fun _ => (by (with_reducible repeat (first | apply Kd.R_alloc | apply Kd.R_drewN | apply Kd.R_drew)); exact HO108.out), fun _ => (by (with_reducible repeat (first | apply Kd.R_alloc | apply Kd.R_drewN | apply Kd.R_drew)); exact HO112.out), fun _ => (by (with_reducible repeat (first | apply Kd.R_alloc | apply Kd.R_drewN | apply Kd.R_drew)); exact HO116.out), fun _ => (by (with_reducible repeat (first | apply Kd.R_alloc | apply Kd.R_drewN | apply Kd.R_drew)); exact HO120.out), fun _ => (by (with_reducible repeat (first | apply Kd.R_alloc | apply Kd.R_drewN | apply Kd.R_drew)); exact HO124.out), fun _ => (by (with_reducible repeat (first | apply Kd.R_alloc | apply Kd.R_drewN | apply Kd.R_drew)); exact HO128.out), fun h0_ => absurd ((hoff 32 (by kernel_rfl)).symm.trans h0_) (by decide)⟩
      refine steps_cons ?_ ?_
      · rintro b a w' ⟨v103, v107, v111, v115, v119, v123, v127, v131, ha, Q_BK101, Q_HB, Q_HO104, Q_HO108, Q_HO112, Q_HO116, Q_HO120, Q_HO124, Q_HO128, Q_HO132⟩ hb_ hon hoff
        refine ⟨_, rfl, fun K hK => ?_⟩
        have e37 : a.tmps[37]? = some (.int .i64 t129) := by rw [ha]; exact putSel_on (e := (31, 37, .int .i64 t129)) 27 rfl rfl (hon 31 (by kernel_rfl)) rfl
        have e23 : a.tmps[23]? = some (.bool (t109 == t117)) := by rw [ha]; exact putSel_on (e := (17, 23, .bool (t109 == t117))) 13 rfl rfl (hon 17 (by kernel_rfl)) rfl
        replace ha := Aside0.mk ha
        have BK101 := Aside0.mk Q_BK101
        have HB := Aside0.mk Q_HB
        have HO104 := Aside0.mk (Q_HO104 (hon 4 (by kernel_rfl)))
        have HO108 := Aside0.mk (Q_HO108 (hon 6 (by kernel_rfl)))
        have HO112 := Aside0.mk (Q_HO112 (hon 12 (by kernel_rfl)))
        have HO116 := Aside0.mk (Q_HO116 (hon 14 (by kernel_rfl)))
        have HO120 := Aside0.mk (Q_HO120 (hon 22 (by kernel_rfl)))
        have HO124 := Aside0.mk (Q_HO124 (hon 24 (by kernel_rfl)))
        have HO128 := Aside0.mk (Q_HO128 (hon 30 (by kernel_rfl)))
        refine Kd.R_lit_step (Kd.int .i64) _ 2 ?hg (N := 38) ?hd (xs := ([t129, 1] : List Int)) (inner := [.int .i64 t129, .int .i64 1]) (ok := fun _ => True) (okp := fun _ => True) ?hr ?hp (fun _ hk => by first | exact trivial | exact hk) trivial (Below.refl _ _) (Nat.le_refl _) (by simp) ?_; (case hd => rfl); (case hg => first | rfl | exact wanted_on rfl rfl rfl (e23.trans (by first | rfl | (simp [*]; done)))); (case hr => first | (go_simp; done) | (go_simp; rfl)); (case hp => exact (Reps.one (show Kd.M (Kd.int .i64) _ _ _ t129 [.int .i64 t129] from rfl) (Reps.one (show Kd.M (Kd.int .i64) _ _ _ 1 [.int .i64 1] from rfl) (Reps.none _ _))))
        intro v131 w43 ho44 hb hg_ hnew_
        clear hg_ hnew_
        (first | rw [← Ny130.out] at ho44 | (simp only [Int.reduceToNat] at ho44; rw [← Ny130.out] at ho44))
        have n0_ := Aside0.mk (Kd.R_elder' (by (with_reducible repeat (first | apply Kd.R_alloc | apply Kd.R_drewN | apply Kd.R_drew)); exact HO104.out) (Kd.R_base ho44) hb)
        have n1_ := Aside0.mk (Kd.R_elder' (by (with_reducible repeat (first | apply Kd.R_alloc | apply Kd.R_drewN | apply Kd.R_drew)); exact HO108.out) (Kd.R_base ho44) hb)
        have n2_ := Aside0.mk (Kd.R_elder' (by (with_reducible repeat (first | apply Kd.R_alloc | apply Kd.R_drewN | apply Kd.R_drew)); exact HO112.out) (Kd.R_base ho44) hb)
        have n3_ := Aside0.mk (Kd.R_elder' (by (with_reducible repeat (first | apply Kd.R_alloc | apply Kd.R_drewN | apply Kd.R_drew)); exact HO116.out) (Kd.R_base ho44) hb)
        have n4_ := Aside0.mk (Kd.R_elder' (by (with_reducible repeat (first | apply Kd.R_alloc | apply Kd.R_drewN | apply Kd.R_drew)); exact HO120.out) (Kd.R_base ho44) hb)
        have n5_ := Aside0.mk (Kd.R_elder' (by (with_reducible repeat (first | apply Kd.R_alloc | apply Kd.R_drewN | apply Kd.R_drew)); exact HO124.out) (Kd.R_base ho44) hb)
        have n6_ := Aside0.mk (Kd.R_elder' (by (with_reducible repeat (first | apply Kd.R_alloc | apply Kd.R_drewN | apply Kd.R_drew)); exact HO128.out) (Kd.R_base ho44) hb)
        have n7_ := Aside0.mk (Kd.R_lower (Kd.R_new' (Kd.R_new' (Kd.R_new' (Kd.R_new' (Kd.R_new' (Kd.R_new' (Kd.R_new' ho44 (Kd.R_lt (by (with_reducible repeat (first | apply Kd.R_alloc | apply Kd.R_drewN | apply Kd.R_drew)); exact HO104.out))) (Kd.R_lt (by (with_reducible repeat (first | apply Kd.R_alloc | apply Kd.R_drewN | apply Kd.R_drew)); exact HO108.out))) (Kd.R_lt (by (with_reducible repeat (first | apply Kd.R_alloc | apply Kd.R_drewN | apply Kd.R_drew)); exact HO112.out))) (Kd.R_lt (by (with_reducible repeat (first | apply Kd.R_alloc | apply Kd.R_drewN | apply Kd.R_drew)); exact HO116.out))) (Kd.R_lt (by (with_reducible repeat (first | apply Kd.R_alloc | apply Kd.R_drewN | apply Kd.R_drew)); exact HO120.out))) (Kd.R_lt (by (with_reducible repeat (first | apply Kd.R_alloc | apply Kd.R_drewN | apply Kd.R_drew)); exact HO124.out))) (Kd.R_lt (by (with_reducible repeat (first | apply Kd.R_alloc | apply Kd.R_drewN | apply Kd.R_drew)); exact HO128.out))) (below_size (by repeat (first | (with_reducible first | exact HB.out | apply below_alloc | apply pw_below_drewN | apply below_drew1 | refine below_set ?_ GE101.out) | exact HB.out))))
        have n8_ := Aside0.mk (blk_below (g := g2c) (o := .cells #[.int .i64 a2_0, .int .i64 a2_1] 26 (0, 0)) (by (with_reducible repeat (first | refine blk_drewN ?_ _ | refine blk_drew ?_ | refine blk_alloc ?_ _)); exact BK101.out) hb)
        have n9_ := Aside0.mk (below_step (by repeat (first | (with_reducible first | exact HB.out | apply below_alloc | apply pw_below_drewN | apply below_drew1 | refine below_set ?_ GE101.out) | exact HB.out)) hb)
        clear HO104
        clear HO108
        clear HO112
        clear HO116
        clear HO120
        clear HO124
        clear HO128
        clear BK101
        clear HB
        have HO104 := n0_
        have HO108 := n1_
        have HO112 := n2_
        have HO116 := n3_
        have HO120 := n4_
        have HO124 := n5_
        have HO128 := n6_
        have HO132 := n7_
        have BK101 := n8_
        have HB := n9_
        clear n0_ n1_ n2_ n3_ n4_ n5_ n6_ n7_ n8_ n9_
        clear hb ho44
        refine hK.out _ _ ⟨v103, v107, v111, v115, v119, v123, v127, v131, (by rw [ha.out]; exact putSel_upk 28 hb_ rfl rfl rfl), (by (with_reducible repeat (first | refine blk_drewN ?_ _ | refine blk_drew ?_ | refine blk_alloc ?_ _)); exact BK101.out), (by repeat (first | (with_reducible first | exact HB.out | apply below_alloc | apply pw_below_drewN | apply below_drew1 | refine below_set ?_ GE101.out) | exact HB.out)), fun _ => (by (with_reducible repeat (first | apply Kd.R_alloc | apply Kd.R_drewN | apply Kd.R_drew)); exact Kd.R_mono HO104.out (fun _ hk => by first | exact trivial | exact ⟨hk.1.1, ⟨hk.1.2.1, ⟨hk.1.2.2.1, ⟨hk.1.2.2.2.1, ⟨hk.1.2.2.2.2.1, ⟨hk.1.2.2.2.2.2, hk.2⟩⟩⟩⟩⟩⟩)), fun _ => (by (with_reducible repeat (first | apply Kd.R_alloc | apply Kd.R_drewN | apply Kd.R_drew)); exact Kd.R_mono HO108.out (fun _ hk => by first | exact trivial | exact ⟨hk.1.1, ⟨hk.1.2.1, ⟨hk.1.2.2.1, ⟨hk.1.2.2.2.1, ⟨hk.1.2.2.2.2.1, ⟨hk.1.2.2.2.2.2, hk.2⟩⟩⟩⟩⟩⟩)), fun _ => (by (with_reducible repeat (first | apply Kd.R_alloc | apply Kd.R_drewN | apply Kd.R_drew)); exact Kd.R_mono HO112.out (fun _ hk => by first | exact trivial | exact ⟨hk.1.1, ⟨hk.1.2.1, ⟨hk.1.2.2.1, ⟨hk.1.2.2.2.1, ⟨hk.1.2.2.2.2.1, ⟨hk.1.2.2.2.2.2, hk.2⟩⟩⟩⟩⟩⟩)), fun _ => (by (with_reducible repeat (first | apply Kd.R_alloc | apply Kd.R_drewN | apply Kd.R_drew)); exact Kd.R_mono HO116.out (fun _ hk => by first | exact trivial | exact ⟨hk.1.1, ⟨hk.1.2.1, ⟨hk.1.2.2.1, ⟨hk.1.2.2.2.1, ⟨hk.1.2.2.2.2.1, ⟨hk.1.2.2.2.2.2, hk.2⟩⟩⟩⟩⟩⟩)), fun _ => (by (with_reducible repeat (first | apply Kd.R_alloc | apply Kd.R_drewN | apply Kd.R_drew)); exact Kd.R_mono HO120.out (fun _ hk => by first | exact trivial | exact ⟨hk.1.1, ⟨hk.1.2.1, ⟨hk.1.2.2.1, ⟨hk.1.2.2.2.1, ⟨hk.1.2.2.2.2.1, ⟨hk.1.2.2.2.2.2, hk.2⟩⟩⟩⟩⟩⟩)), fun _ => (by (with_reducible repeat (first | apply Kd.R_alloc | apply Kd.R_drewN | apply Kd.R_drew)); exact Kd.R_mono HO124.out (fun _ hk => by first | exact trivial | exact ⟨hk.1.1, ⟨hk.1.2.1, ⟨hk.1.2.2.1, ⟨hk.1.2.2.2.1, ⟨hk.1.2.2.2.2.1, ⟨hk.1.2.2.2.2.2, hk.2⟩⟩⟩⟩⟩⟩)), fun _ => (by (with_reducible repeat (first | apply Kd.R_alloc | apply Kd.R_drewN | apply Kd.R_drew)); exact Kd.R_mono HO128.out (fun _ hk => by first | exact trivial | exact ⟨hk.1.1, ⟨hk.1.2.1, ⟨hk.1.2.2.1, ⟨hk.1.2.2.2.1, ⟨hk.1.2.2.2.2.1, ⟨hk.1.2.2.2.2.2, hk.2⟩⟩⟩⟩⟩⟩)), fun _ => (by (with_reducible repeat (first | apply Kd.R_alloc | apply Kd.R_drewN | apply Kd.R_drew)); exact Kd.R_mono HO132.out (fun _ hk => by first | exact trivial | exact ⟨hk.1.1.1.1.1.1.2, ⟨hk.1.1.1.1.1.2, ⟨hk.1.1.1.1.2, ⟨hk.1.1.1.2, ⟨hk.1.1.2, ⟨hk.1.2, hk.2⟩⟩⟩⟩⟩⟩))⟩
      refine steps_cons ?_ ?_
      · rintro b a w' ⟨v103, v107, v111, v115, v119, v123, v127, v131, ha, Q_BK101, Q_HB, Q_HO104, Q_HO108, Q_HO112, Q_HO116, Q_HO120, Q_HO124, Q_HO128, Q_HO132⟩ hb_ hon hoff
        refine ⟨_, rfl, fun K hK => ?_⟩
        have e32 : a.tmps[32]? = some (.agg #[.int .i64 a2_0, .int .i64 a2_1]) := by rw [ha]; exact putSel_on (e := (26, 32, .agg #[.int .i64 a2_0, .int .i64 a2_1])) 22 rfl rfl (hon 26 (by kernel_rfl)) rfl
        have e38 : a.tmps[38]? = some (v131) := by rw [ha]; exact putSel_on (e := (32, 38, v131)) 28 rfl rfl (hon 32 (by kernel_rfl)) rfl
        have e23 : a.tmps[23]? = some (.bool (t109 == t117)) := by rw [ha]; exact putSel_on (e := (17, 23, .bool (t109 == t117))) 13 rfl rfl (hon 17 (by kernel_rfl)) rfl
        replace ha := Aside0.mk ha
        have BK101 := Aside0.mk Q_BK101
        have HB := Aside0.mk Q_HB
        have HO104 := Aside0.mk (Q_HO104 (hon 4 (by kernel_rfl)))
        have HO108 := Aside0.mk (Q_HO108 (hon 6 (by kernel_rfl)))
        have HO112 := Aside0.mk (Q_HO112 (hon 12 (by kernel_rfl)))
        have HO116 := Aside0.mk (Q_HO116 (hon 14 (by kernel_rfl)))
        have HO120 := Aside0.mk (Q_HO120 (hon 22 (by kernel_rfl)))
        have HO124 := Aside0.mk (Q_HO124 (hon 24 (by kernel_rfl)))
        have HO128 := Aside0.mk (Q_HO128 (hon 30 (by kernel_rfl)))
        have HO132 := Aside0.mk (Q_HO132 (hon 32 (by kernel_rfl)))
        obtain ⟨Ao45, co45, eo45⟩ := Kd.R_slice HO132.out
        (first | subst eo45 | (injection eo45 with f1_ f2_ f3_; have f4_ := f1_.symm; have f5_ := f3_.symm; clear f1_ f2_ f3_; subst f4_; subst f5_))
        refine goes_ Try.func56 (by kernel_rfl) rfl #[.agg #[.int .i64 a2_0, .int .i64 a2_1], .slice Ao45 y130.length co45] (by first | rfl | exact wanted_on rfl rfl rfl (e23.trans (by first | rfl | (simp [*]; done)))) rfl rfl (by first | (simp only [List.map_toArray, List.map_cons, List.map_nil, Act.eval, Array.getD_eq_getD_getElem?, Option.getD_some, e32, e38, e23]; done) | (simp only [List.map_toArray, List.map_cons, List.map_nil, Act.eval, Array.getD_eq_getD_getElem?, Option.getD_some, e32, e38, e23]; rfl)) ?_
        with_reducible refine (impl_Func_of.calls k a2_0 a2_1 _ _ y130 t133 _ ?side1 ?side2 A12.out).mono ?_
        (case side1 => repeat (first | exact (Kd.R_reads' HO132.out).2.2 | (with_reducible refine Kd.C_alloc ?_ _) | (with_reducible refine Kd.C_drewN ?_ _) | (with_reducible refine Kd.C_drew ?_)))
        (case side2 => exact (Kd.R_reads' HO132.out).2.1)
        rintro e w46 ⟨rfl, hb⟩
        refine ⟨_, rfl, ?_⟩
        have n0_ := Aside0.mk (Kd.R_below (by (with_reducible repeat (first | apply Kd.R_alloc | apply Kd.R_drewN | apply Kd.R_drew)); exact HO104.out) hb)
        have n1_ := Aside0.mk (Kd.R_below (by (with_reducible repeat (first | apply Kd.R_alloc | apply Kd.R_drewN | apply Kd.R_drew)); exact HO108.out) hb)
        have n2_ := Aside0.mk (Kd.R_below (by (with_reducible repeat (first | apply Kd.R_alloc | apply Kd.R_drewN | apply Kd.R_drew)); exact HO112.out) hb)
        have n3_ := Aside0.mk (Kd.R_below (by (with_reducible repeat (first | apply Kd.R_alloc | apply Kd.R_drewN | apply Kd.R_drew)); exact HO116.out) hb)
        have n4_ := Aside0.mk (Kd.R_below (by (with_reducible repeat (first | apply Kd.R_alloc | apply Kd.R_drewN | apply Kd.R_drew)); exact HO120.out) hb)
        have n5_ := Aside0.mk (Kd.R_below (by (with_reducible repeat (first | apply Kd.R_alloc | apply Kd.R_drewN | apply Kd.R_drew)); exact HO124.out) hb)
        have n6_ := Aside0.mk (Kd.R_below (by (with_reducible repeat (first | apply Kd.R_alloc | apply Kd.R_drewN | apply Kd.R_drew)); exact HO128.out) hb)
        have n7_ := Aside0.mk (Kd.R_below (by (with_reducible repeat (first | apply Kd.R_alloc | apply Kd.R_drewN | apply Kd.R_drew)); exact HO132.out) hb)
        have n8_ := Aside0.mk (blk_below (g := g2c) (o := .cells #[.int .i64 a2_0, .int .i64 a2_1] 26 (0, 0)) (by (with_reducible repeat (first | refine blk_drewN ?_ _ | refine blk_drew ?_ | refine blk_alloc ?_ _)); exact BK101.out) hb)
        have n9_ := Aside0.mk (below_step (by repeat (first | (with_reducible first | exact HB.out | apply below_alloc | apply pw_below_drewN | apply below_drew1 | refine below_set ?_ GE101.out) | exact HB.out)) hb)
        clear HO104
        clear HO108
        clear HO112
        clear HO116
        clear HO120
        clear HO124
        clear HO128
        clear HO132
        clear BK101
        clear HB
        have HO104 := n0_
        have HO108 := n1_
        have HO112 := n2_
        have HO116 := n3_
        have HO120 := n4_
        have HO124 := n5_
        have HO128 := n6_
        have HO132 := n7_
        have BK101 := n8_
        have HB := n9_
        clear n0_ n1_ n2_ n3_ n4_ n5_ n6_ n7_ n8_ n9_
        (try clear hb)
        (try clear hb2)
        (try clear hk)
        (try clear hi)
        refine hK.out _ _ ⟨v103, v107, v111, v115, v119, v123, v127, .slice Ao45 y130.length co45, (by rw [ha.out]; exact putSel_upk 29 hb_ rfl rfl rfl), (by (with_reducible repeat (first | refine blk_drewN ?_ _ | refine blk_drew ?_ | refine blk_alloc ?_ _)); exact BK101.out), (by repeat (first | (with_reducible first | exact HB.out | apply below_alloc | apply pw_below_drewN | apply below_drew1 | refine below_set ?_ GE101.out) | exact HB.out)), fun _ => (by (with_reducible repeat (first | apply Kd.R_alloc | apply Kd.R_drewN | apply Kd.R_drew)); exact HO104.out), fun _ => (by (with_reducible repeat (first | apply Kd.R_alloc | apply Kd.R_drewN | apply Kd.R_drew)); exact HO108.out), fun _ => (by (with_reducible repeat (first | apply Kd.R_alloc | apply Kd.R_drewN | apply Kd.R_drew)); exact HO112.out), fun _ => (by (with_reducible repeat (first | apply Kd.R_alloc | apply Kd.R_drewN | apply Kd.R_drew)); exact HO116.out), fun _ => (by (with_reducible repeat (first | apply Kd.R_alloc | apply Kd.R_drewN | apply Kd.R_drew)); exact HO120.out), fun _ => (by (with_reducible repeat (first | apply Kd.R_alloc | apply Kd.R_drewN | apply Kd.R_drew)); exact HO124.out), fun _ => (by (with_reducible repeat (first | apply Kd.R_alloc | apply Kd.R_drewN | apply Kd.R_drew)); exact HO128.out), fun _ => (by (with_reducible repeat (first | apply Kd.R_alloc | apply Kd.R_drewN | apply Kd.R_drew)); exact HO132.out)⟩
      refine steps_cons ?_ ?_
      · rintro b a w' ⟨v103, v107, v111, v115, v119, v123, v127, v131, ha, Q_BK101, Q_HB, Q_HO104, Q_HO108, Q_HO112, Q_HO116, Q_HO120, Q_HO124, Q_HO128, Q_HO132⟩ hb_ hon hoff
        refine ⟨_, rfl, fun K hK => ?_⟩
        have e31 : a.tmps[31]? = some (.int .i64 t125) := by rw [ha]; exact putSel_on (e := (25, 31, .int .i64 t125)) 21 rfl rfl (hon 25 (by kernel_rfl)) rfl
        have e39 : a.tmps[39]? = some (.int .i64 t133) := by rw [ha]; exact putSel_on (e := (33, 39, .int .i64 t133)) 29 rfl rfl (hon 33 (by kernel_rfl)) rfl
        have e23 : a.tmps[23]? = some (.bool (t109 == t117)) := by rw [ha]; exact putSel_on (e := (17, 23, .bool (t109 == t117))) 13 rfl rfl (hon 17 (by kernel_rfl)) rfl
        replace ha := Aside0.mk ha
        have BK101 := Aside0.mk Q_BK101
        have HB := Aside0.mk Q_HB
        have HO104 := Aside0.mk (Q_HO104 (hon 4 (by kernel_rfl)))
        have HO108 := Aside0.mk (Q_HO108 (hon 6 (by kernel_rfl)))
        have HO112 := Aside0.mk (Q_HO112 (hon 12 (by kernel_rfl)))
        have HO116 := Aside0.mk (Q_HO116 (hon 14 (by kernel_rfl)))
        have HO120 := Aside0.mk (Q_HO120 (hon 22 (by kernel_rfl)))
        have HO124 := Aside0.mk (Q_HO124 (hon 24 (by kernel_rfl)))
        have HO128 := Aside0.mk (Q_HO128 (hon 30 (by kernel_rfl)))
        have HO132 := Aside0.mk (Q_HO132 (hon 32 (by kernel_rfl)))
        refine value_ (w1 := w') (v := .bool (t125 == t133)) (wanted_on rfl rfl rfl (e23.trans (by first | rfl | (simp [*]; done)))) rfl ?_ ?_
        · go_simp
          (try simp only [i64_w])
          try rfl
        refine hK.out _ _ ⟨v103, v107, v111, v115, v119, v123, v127, v131, (by rw [ha.out]; exact putSel_upk 30 hb_ rfl rfl rfl), Q_BK101, Q_HB, Q_HO104, Q_HO108, Q_HO112, Q_HO116, Q_HO120, Q_HO124, Q_HO128, Q_HO132⟩
      refine steps_cons ?_ ?_
      · rintro b a w' ⟨v103, v107, v111, v115, v119, v123, v127, v131, ha, Q_BK101, Q_HB, Q_HO104, Q_HO108, Q_HO112, Q_HO116, Q_HO120, Q_HO124, Q_HO128, Q_HO132⟩ hb_ hon hoff
        refine ⟨_, rfl, fun K hK => ?_⟩
        have e23 : a.tmps[23]? = some (.bool (t109 == t117)) := by rw [ha]; exact putSel_on (e := (17, 23, .bool (t109 == t117))) 13 rfl rfl (hon 17 (by kernel_rfl)) rfl
        have e40 : a.tmps[40]? = some (.bool (t125 == t133)) := by rw [ha]; exact putSel_on (e := (34, 40, .bool (t125 == t133))) 30 rfl rfl (hon 34 (by kernel_rfl)) rfl
        replace ha := Aside0.mk ha
        have BK101 := Aside0.mk Q_BK101
        have HB := Aside0.mk Q_HB
        have HO104 := Aside0.mk (Q_HO104 (hon 4 (by kernel_rfl)))
        have HO108 := Aside0.mk (Q_HO108 (hon 6 (by kernel_rfl)))
        have HO112 := Aside0.mk (Q_HO112 (hon 12 (by kernel_rfl)))
        have HO116 := Aside0.mk (Q_HO116 (hon 14 (by kernel_rfl)))
        have HO120 := Aside0.mk (Q_HO120 (hon 22 (by kernel_rfl)))
        have HO124 := Aside0.mk (Q_HO124 (hon 24 (by kernel_rfl)))
        have HO128 := Aside0.mk (Q_HO128 (hon 30 (by kernel_rfl)))
        have HO132 := Aside0.mk (Q_HO132 (hon 32 (by kernel_rfl)))
        refine value_ (w1 := w') (v := .bool (t125 == t133)) (by rfl) rfl ?_ ?_
        · go_simp
          (try simp only [i64_w])
          try rfl
        refine hK.out _ _ ⟨v103, v107, v111, v115, v119, v123, v127, v131, (by rw [ha.out]; exact putSel_upk 31 hb_ rfl rfl rfl), Q_BK101, Q_HB, Q_HO104, Q_HO108, Q_HO112, Q_HO116, Q_HO120, Q_HO124, Q_HO128, Q_HO132⟩
      refine steps_cons ?_ ?_
      · rintro b a w' ⟨v103, v107, v111, v115, v119, v123, v127, v131, ha, Q_BK101, Q_HB, Q_HO104, Q_HO108, Q_HO112, Q_HO116, Q_HO120, Q_HO124, Q_HO128, Q_HO132⟩ hb_ hon hoff
        refine ⟨_, rfl, fun K hK => ?_⟩
        have e41 : a.tmps[41]? = some (.bool (t125 == t133)) := by rw [ha]; exact putSel_on (e := (35, 41, .bool (t125 == t133))) 31 rfl rfl (hon 35 (by kernel_rfl)) rfl
        replace ha := Aside0.mk ha
        have BK101 := Aside0.mk Q_BK101
        have HB := Aside0.mk Q_HB
        have HO104 := Aside0.mk (Q_HO104 (hon 4 (by kernel_rfl)))
        have HO108 := Aside0.mk (Q_HO108 (hon 6 (by kernel_rfl)))
        have HO112 := Aside0.mk (Q_HO112 (hon 12 (by kernel_rfl)))
        have HO116 := Aside0.mk (Q_HO116 (hon 14 (by kernel_rfl)))
        have HO120 := Aside0.mk (Q_HO120 (hon 22 (by kernel_rfl)))
        have HO124 := Aside0.mk (Q_HO124 (hon 24 (by kernel_rfl)))
        have HO128 := Aside0.mk (Q_HO128 (hon 30 (by kernel_rfl)))
        have HO132 := Aside0.mk (Q_HO132 (hon 32 (by kernel_rfl)))
        refine value_ (w1 := w') (v := .bool (t125 == t133)) (by rfl) rfl ?_ ?_
        · go_simp
          (try simp only [i64_w])
          try rfl
        refine hK.out _ _ ⟨v103, v107, v111, v115, v119, v123, v127, v131, (by rw [ha.out]; exact putSel_upk 32 hb_ rfl rfl rfl), Q_BK101, Q_HB, Q_HO104, Q_HO108, Q_HO112, Q_HO116, Q_HO120, Q_HO124, Q_HO128, Q_HO132⟩
      exact steps_nil
    rintro b a w46 hall ⟨v103, v107, v111, v115, v119, v123, v127, v131, ha, Q_BK101, Q_HB, Q_HO104, Q_HO108, Q_HO112, Q_HO116, Q_HO120, Q_HO124, Q_HO128, Q_HO132⟩
    clear BK101 HB
    have hb0_ := hall 0 (by kernel_rfl)
    have hb2_ := hall 2 (by kernel_rfl)
    have hb4_ := hall 4 (by kernel_rfl)
    have hb5_ := hall 5 (by kernel_rfl)
    have hb6_ := hall 6 (by kernel_rfl)
    have hb7_ := hall 7 (by kernel_rfl)
    have hb8_ := hall 8 (by kernel_rfl)
    have hb9_ := hall 9 (by kernel_rfl)
    have hb12_ := hall 12 (by kernel_rfl)
    have hb13_ := hall 13 (by kernel_rfl)
    have hb14_ := hall 14 (by kernel_rfl)
    have hb15_ := hall 15 (by kernel_rfl)
    have hb16_ := hall 16 (by kernel_rfl)
    have hb17_ := hall 17 (by kernel_rfl)
    have hb18_ := hall 18 (by kernel_rfl)
    have hb19_ := hall 19 (by kernel_rfl)
    have hb20_ := hall 20 (by kernel_rfl)
    have hb21_ := hall 21 (by kernel_rfl)
    have hb22_ := hall 22 (by kernel_rfl)
    have hb23_ := hall 23 (by kernel_rfl)
    have hb24_ := hall 24 (by kernel_rfl)
    have hb25_ := hall 25 (by kernel_rfl)
    have hb26_ := hall 26 (by kernel_rfl)
    have hb27_ := hall 27 (by kernel_rfl)
    have hb28_ := hall 28 (by kernel_rfl)
    have hb29_ := hall 29 (by kernel_rfl)
    have hb30_ := hall 30 (by kernel_rfl)
    have hb31_ := hall 31 (by kernel_rfl)
    have hb32_ := hall 32 (by kernel_rfl)
    have hb33_ := hall 33 (by kernel_rfl)
    have hb34_ := hall 34 (by kernel_rfl)
    have hb35_ := hall 35 (by kernel_rfl)
    have hb36_ := hall 36 (by kernel_rfl)
    subst ha
    simp only [putSel, hb0_, hb2_, hb4_, hb5_, hb6_, hb7_, hb8_, hb9_, hb12_, hb13_, hb14_, hb15_, hb16_, hb17_, hb18_, hb19_, hb20_, hb21_, hb22_, hb23_, hb24_, hb25_, hb26_, hb27_, hb28_, hb29_, hb30_, hb31_, hb32_, hb33_, hb34_, hb35_, hb36_, if_true, Act.put, List.setIfInBounds_toArray, List.set_cons_zero, List.set_cons_succ]
    have BK101 := Aside0.mk Q_BK101
    clear Q_BK101
    have HB := Aside0.mk Q_HB
    clear Q_HB
    have HO104 := Aside0.mk (Q_HO104 hb4_)
    clear Q_HO104
    have HO108 := Aside0.mk (Q_HO108 hb6_)
    clear Q_HO108
    have HO112 := Aside0.mk (Q_HO112 hb12_)
    clear Q_HO112
    have HO116 := Aside0.mk (Q_HO116 hb14_)
    clear Q_HO116
    have HO120 := Aside0.mk (Q_HO120 hb22_)
    clear Q_HO120
    have HO124 := Aside0.mk (Q_HO124 hb24_)
    clear Q_HO124
    have HO128 := Aside0.mk (Q_HO128 hb30_)
    clear Q_HO128
    have HO132 := Aside0.mk (Q_HO132 hb32_)
    clear Q_HO132
    clear hall hb0_ hb2_ hb4_ hb5_ hb6_ hb7_ hb8_ hb9_ hb12_ hb13_ hb14_ hb15_ hb16_ hb17_ hb18_ hb19_ hb20_ hb21_ hb22_ hb23_ hb24_ hb25_ hb26_ hb27_ hb28_ hb29_ hb30_ hb31_ hb32_ hb33_ hb34_ hb35_ hb36_
    try go_wp2
    go_ret
    exact ⟨by first | rfl | (simp [errW_none, errW_some] <;> rfl) | (simp [*, errW_none, errW_some] <;> rfl), by repeat (first | (with_reducible first | exact HB.out | apply below_alloc | apply pw_below_drewN | apply below_drew1 | refine below_set ?_ GE101.out) | exact HB.out)⟩
  · rw [if_neg c8] at H
    have c8b0 : (t109 == t117) = false := beq_eq_false_iff_ne.mpr c8
    have c8b1 : (t109 != t117) = true := bne_iff_ne.mpr c8
    obtain rfl := Option.some.inj H
    go_enter Try.func58, Try.ntmps58
    try go_wp2
    have n0_ := Aside0.mk (blk_drew BK101.out)
    have n1_ := Aside0.mk (below_drew1 HB.out)
    clear BK101
    clear HB
    have BK101 := n0_
    have HB := n1_
    clear n0_ n1_
    refine start_ (n := 37) (S := fun w' => True) (ds := []) #[false, false, false, false, false, false, false, false, false, false, false, false, false, false, false, false, false, false, false, false, false, false, false, false, false, false, false, false, false, false, false, false, false, false, false, false, false] (by kernel_rfl) rfl rfl trivial (fun hHeld => ?_); refine with_tabW impl_IsSemilattice_1.tab1 impl_IsSemilattice_1.bits1 (fun HT_ HW_ => ?_)
    generalize w.drew = w47 at BK101 HB hHeld ⊢
    refine pure_ (i := 1) (N := some 7) (v := ?_) (a' := ?_) #[false, true, false, false, false, false, false, false, false, false, false, false, false, false, false, false, false, false, false, false, false, false, false, false, false, false, false, false, false, false, false, false, false, false, false, false, false] rfl rfl (any_of HT_.out (by kernel_rfl)) (fun _ _ _ h => h) (Or.inl ⟨by rfl, ?_⟩) ?_ ?_
    rotate_left
    · intro w'
      go_simp
      with_reducible rfl
    rotate_left
    · simp only [Act.put, List.setIfInBounds_toArray, List.set_cons_zero, List.set_cons_succ, i64_w, i32_w]
      rfl
    refine pure_ (i := 3) (N := some 9) (v := ?_) (a' := ?_) #[false, true, false, true, false, false, false, false, false, false, false, false, false, false, false, false, false, false, false, false, false, false, false, false, false, false, false, false, false, false, false, false, false, false, false, false, false] rfl rfl (any_of HT_.out (by kernel_rfl)) (fun _ _ _ h => h) (Or.inl ⟨by rfl, ?_⟩) ?_ ?_
    rotate_left
    · intro w'
      go_simp
      with_reducible rfl
    rotate_left
    · simp only [Act.put, List.setIfInBounds_toArray, List.set_cons_zero, List.set_cons_succ, i64_w, i32_w]
      rfl
    refine pure_ (i := 10) (N := some 16) (v := ?_) (a' := ?_) #[false, true, false, true, false, false, false, false, false, false, true, false, false, false, false, false, false, false, false, false, false, false, false, false, false, false, false, false, false, false, false, false, false, false, false, false, false] rfl rfl (any_of HT_.out (by kernel_rfl)) (fun _ _ _ h => h) (Or.inl ⟨by rfl, ?_⟩) ?_ ?_
    rotate_left
    · intro w'
      go_simp
      with_reducible rfl
    rotate_left
    · simp only [Act.put, List.setIfInBounds_toArray, List.set_cons_zero, List.set_cons_succ, i64_w, i32_w]
      rfl
    refine pure_ (i := 11) (N := some 17) (v := ?_) (a' := ?_) #[false, true, false, true, false, false, false, false, false, false, true, true, false, false, false, false, false, false, false, false, false, false, false, false, false, false, false, false, false, false, false, false, false, false, false, false, false] rfl rfl (any_of HT_.out (by kernel_rfl)) (fun _ _ _ h => h) (Or.inl ⟨by rfl, ?_⟩) ?_ ?_
    rotate_left
    · intro w'
      go_simp
      with_reducible rfl
    rotate_left
    · simp only [Act.put, List.setIfInBounds_toArray, List.set_cons_zero, List.set_cons_succ, i64_w, i32_w]
      rfl
    refine inv_at [0, 2, 4, 5, 6, 7, 8, 9, 12, 13, 14, 15, 16, 17, 18, 19, 20, 21, 22, 23, 24, 25, 26, 27, 28, 29, 30, 31, 32, 33, 34, 35, 36] (fun a0_ b a w' => ∃ (v103 : Value) (v107 : Value) (v111 : Value) (v115 : Value), a = putSel a0_ b [(0, 6, .agg #[.int .i64 a2_0, .int .i64 a2_1]), (2, 8, .agg #[.int .i64 a2_0, .int .i64 a2_1]), (4, 10, v103), (5, 11, .int .i64 t105), (6, 12, v107), (7, 13, .int .i64 t109), (8, 14, .agg #[.int .i64 a2_0, .int .i64 a2_1]), (9, 15, .agg #[.int .i64 a2_0, .int .i64 a2_1]), (12, 18, v111), (13, 19, .int .i64 t113), (14, 20, v115), (15, 21, .int .i64 t117), (16, 22, .bool (t109 == t117)), (17, 23, .bool (t109 == t117)), (18, 24, undef), (19, 25, undef), (20, 26, undef), (21, 27, undef), (22, 28, undef), (23, 29, undef), (24, 30, undef), (25, 31, undef), (26, 32, undef), (27, 33, undef), (28, 34, undef), (29, 35, undef), (30, 36, undef), (31, 37, undef), (32, 38, undef), (33, 39, undef), (34, 40, undef), (35, 41, .bool false), (36, 5, .bool false)] ∧ (w'.heap[g2c]? = some (.cells #[.int .i64 a2_0, .int .i64 a2_1] 26 (0, 0))) ∧ (Below w.heap.size w w') ∧ (b 4 = true → Kd.R (Kd.int .i64) 2 w' w.heap.size (fun _ => True) v103 y102) ∧ (b 6 = true → Kd.R (Kd.int .i64) 2 w' w.heap.size (fun _ => True) v107 y106) ∧ (b 12 = true → Kd.R (Kd.int .i64) 2 w' w.heap.size (fun _ => True) v111 y110) ∧ (b 14 = true → Kd.R (Kd.int .i64) 2 w' w.heap.size (fun _ => True) v115 y114)) HT_.out HW_.out (by kernel_rfl) (by kernel_rfl) ?_ ?_ ?_
    · exact ⟨.bool false, .bool false, .bool false, .bool false, by simp only [putSel, Bool.false_eq_true, if_false], BK101.out, HB.out, fun h_ => absurd h_ (by decide), fun h_ => absurd h_ (by decide), fun h_ => absurd h_ (by decide), fun h_ => absurd h_ (by decide)⟩
    · skip
      clear BK101 HB
      refine steps_cons ?_ ?_
      · rintro b a w' ⟨v103, v107, v111, v115, ha, Q_BK101, Q_HB, Q_HO104, Q_HO108, Q_HO112, Q_HO116⟩ hb_ hon hoff
        refine ⟨_, rfl, fun K hK => ?_⟩
        have e2 : a.tmps[2]? = some (.pointer (some ⟨g2c, 0, none⟩)) := by rw [ha]; exact (putSel_off rfl).trans rfl
        replace ha := Aside0.mk ha
        have BK101 := Aside0.mk Q_BK101
        have HB := Aside0.mk Q_HB
        have hc0_ : w'.cell? ⟨g2c, 0, none⟩ = some (.int .i64 a2_0) := (blk_cell BK101.out 0).trans rfl
        have hc1_ : w'.cell? ⟨g2c, 1, none⟩ = some (.int .i64 a2_1) := (blk_cell BK101.out 1).trans rfl
        refine value_ (w1 := w') (v := .agg #[.int .i64 a2_0, .int .i64 a2_1]) (by rfl) rfl ?_ ?_
        · go_simp
          (try simp only [i64_w])
          try rfl
        refine hK.out _ _ ⟨v103, v107, v111, v115, (by rw [ha.out]; exact putSel_upk 0 hb_ rfl rfl rfl), Q_BK101, Q_HB, Q_HO104, Q_HO108, Q_HO112, fun h0_ => absurd ((hoff 14 (by kernel_rfl)).symm.trans h0_) (by decide)⟩
      refine steps_cons ?_ ?_
      · rintro b a w' ⟨v103, v107, v111, v115, ha, Q_BK101, Q_HB, Q_HO104, Q_HO108, Q_HO112, Q_HO116⟩ hb_ hon hoff
        refine ⟨_, rfl, fun K hK => ?_⟩
        have e2 : a.tmps[2]? = some (.pointer (some ⟨g2c, 0, none⟩)) := by rw [ha]; exact (putSel_off rfl).trans rfl
        replace ha := Aside0.mk ha
        have BK101 := Aside0.mk Q_BK101
        have HB := Aside0.mk Q_HB
        have hc0_ : w'.cell? ⟨g2c, 0, none⟩ = some (.int .i64 a2_0) := (blk_cell BK101.out 0).trans rfl
        have hc1_ : w'.cell? ⟨g2c, 1, none⟩ = some (.int .i64 a2_1) := (blk_cell BK101.out 1).trans rfl
        refine value_ (w1 := w') (v := .agg #[.int .i64 a2_0, .int .i64 a2_1]) (by rfl) rfl ?_ ?_
        · go_simp
          (try simp only [i64_w])
          try rfl
        refine hK.out _ _ ⟨v103, v107, v111, v115, (by rw [ha.out]; exact putSel_upk 1 hb_ rfl rfl rfl), Q_BK101, Q_HB, Q_HO104, fun h0_ => absurd ((hoff 6 (by kernel_rfl)).symm.trans h0_) (by decide), Q_HO112, fun h0_ => absurd ((hoff 14 (by kernel_rfl)).symm.trans h0_) (by decide)⟩
      refine steps_cons ?_ ?_
      · rintro b a w' ⟨v103, v107, v111, v115, ha, Q_BK101, Q_HB, Q_HO104, Q_HO108, Q_HO112, Q_HO116⟩ hb_ hon hoff
        refine ⟨_, rfl, fun K hK => ?_⟩
        have e9 : a.tmps[9]? = some (.int .i64 a1) := by rw [ha]; exact (putSel_off rfl).trans rfl
        replace ha := Aside0.mk ha
        have BK101 := Aside0.mk Q_BK101
        have HB := Aside0.mk Q_HB
        refine Kd.R_lit_step (Kd.int .i64) _ 2 ?hg (N := 10) ?hd (xs := ([a1, 0] : List Int)) (inner := [.int .i64 a1, .int .i64 0]) (ok := fun _ => True) (okp := fun _ => True) ?hr ?hp (fun _ hk => by first | exact trivial | exact hk) trivial (Below.refl _ _) (Nat.le_refl _) (by simp) ?_; (case hd => rfl); (case hg => rfl); (case hr => first | (go_simp; done) | (go_simp; rfl)); (case hp => exact (Reps.one (show Kd.M (Kd.int .i64) _ _ _ a1 [.int .i64 a1] from rfl) (Reps.one (show Kd.M (Kd.int .i64) _ _ _ 0 [.int .i64 0] from rfl) (Reps.none _ _))))
        intro v103 w48 ho49 hb hg_ hnew_
        clear hg_ hnew_
        (first | rw [← Ny102.out] at ho49 | (simp only [Int.reduceToNat] at ho49; rw [← Ny102.out] at ho49))
        have n0_ := Aside0.mk (Kd.R_lower ho49 (below_size (by repeat (first | (with_reducible first | exact HB.out | apply below_alloc | apply pw_below_drewN | apply below_drew1 | refine below_set ?_ GE101.out) | exact HB.out))))
        have n1_ := Aside0.mk (blk_below (g := g2c) (o := .cells #[.int .i64 a2_0, .int .i64 a2_1] 26 (0, 0)) (by (with_reducible repeat (first | refine blk_drewN ?_ _ | refine blk_drew ?_ | refine blk_alloc ?_ _)); exact BK101.out) hb)
        have n2_ := Aside0.mk (below_step (by repeat (first | (with_reducible first | exact HB.out | apply below_alloc | apply pw_below_drewN | apply below_drew1 | refine below_set ?_ GE101.out) | exact HB.out)) hb)
        have z_HO112 := fun (h0_ : b 12 = true) => (show Kd.R (Kd.int .i64) 2 w48 w.heap.size (fun _ => True) v111 y110 from by first | exact (Kd.R_elder' (by (with_reducible repeat (first | apply Kd.R_alloc | apply Kd.R_drewN | apply Kd.R_drew)); exact (Q_HO112 h0_)) (Kd.R_base ho49) hb) | exact Kd.R_mono (Kd.R_elder' (by (with_reducible repeat (first | apply Kd.R_alloc | apply Kd.R_drewN | apply Kd.R_drew)); exact (Q_HO112 h0_)) (Kd.R_base ho49) hb) (fun _ h_ => by first | trivial | exact h_ | exact h_.1))
        clear BK101
        clear HB
        have HO104 := n0_
        have BK101 := n1_
        have HB := n2_
        clear n0_ n1_ n2_
        clear hb ho49
        refine hK.out _ _ ⟨v103, v107, v111, v115, (by rw [ha.out]; exact putSel_upk 2 hb_ rfl rfl rfl), (by (with_reducible repeat (first | refine blk_drewN ?_ _ | refine blk_drew ?_ | refine blk_alloc ?_ _)); exact BK101.out), (by repeat (first | (with_reducible first | exact HB.out | apply below_alloc | apply pw_below_drewN | apply below_drew1 | refine below_set ?_ GE101.out) | exact HB.out)), fun _ => (by (with_reducible repeat (first | apply Kd.R_alloc | apply Kd.R_drewN | apply Kd.R_drew)); exact HO104.out), fun h0_ => absurd ((hoff 6 (by kernel_rfl)).symm.trans h0_) (by decide), z_HO112, fun h0_ => absurd ((hoff 14 (by kernel_rfl)).symm.trans h0_) (by decide)⟩
      refine steps_cons ?_ ?_
      · rintro b a w' ⟨v103, v107, v111, v115, ha, Q_BK101, Q_HB, Q_HO104, Q_HO108, Q_HO112, Q_HO116⟩ hb_ hon hoff
        refine ⟨_, rfl, fun K hK => ?_⟩
        have e8 : a.tmps[8]? = some (.agg #[.int .i64 a2_0, .int .i64 a2_1]) := by rw [ha]; exact putSel_on (e := (2, 8, .agg #[.int .i64 a2_0, .int .i64 a2_1])) 1 rfl rfl (hon 2 (by kernel_rfl)) rfl
        have e10 : a.tmps[10]? = some (v103) := by rw [ha]; exact putSel_on (e := (4, 10, v103)) 2 rfl rfl (hon 4 (by kernel_rfl)) rfl
        replace ha := Aside0.mk ha
        have BK101 := Aside0.mk Q_BK101
        have HB := Aside0.mk Q_HB
        have HO104 := Aside0.mk (Q_HO104 (hon 4 (by kernel_rfl)))
        obtain ⟨Ao51, co51, eo51⟩ := Kd.R_slice HO104.out
        (first | subst eo51 | (injection eo51 with f1_ f2_ f3_; have f4_ := f1_.symm; have f5_ := f3_.symm; clear f1_ f2_ f3_; subst f4_; subst f5_))
        refine goes_ Try.func56 (by kernel_rfl) rfl #[.agg #[.int .i64 a2_0, .int .i64 a2_1], .slice Ao51 y102.length co51] (by rfl) rfl rfl (by first | (simp only [List.map_toArray, List.map_cons, List.map_nil, Act.eval, Array.getD_eq_getD_getElem?, Option.getD_some, e8, e10]; done) | (simp only [List.map_toArray, List.map_cons, List.map_nil, Act.eval, Array.getD_eq_getD_getElem?, Option.getD_some, e8, e10]; rfl)) ?_
        with_reducible refine (impl_Func_of.calls k a2_0 a2_1 _ _ y102 t105 _ ?side1 ?side2 A4.out).mono ?_
        (case side1 => repeat (first | exact (Kd.R_reads' HO104.out).2.2 | (with_reducible refine Kd.C_alloc ?_ _) | (with_reducible refine Kd.C_drewN ?_ _) | (with_reducible refine Kd.C_drew ?_)))
        (case side2 => exact (Kd.R_reads' HO104.out).2.1)
        rintro e w52 ⟨rfl, hb⟩
        refine ⟨_, rfl, ?_⟩
        have n0_ := Aside0.mk (Kd.R_below (by (with_reducible repeat (first | apply Kd.R_alloc | apply Kd.R_drewN | apply Kd.R_drew)); exact HO104.out) hb)
        have n1_ := Aside0.mk (blk_below (g := g2c) (o := .cells #[.int .i64 a2_0, .int .i64 a2_1] 26 (0, 0)) (by (with_reducible repeat (first | refine blk_drewN ?_ _ | refine blk_drew ?_ | refine blk_alloc ?_ _)); exact BK101.out) hb)
        have n2_ := Aside0.mk (below_step (by repeat (first | (with_reducible first | exact HB.out | apply below_alloc | apply pw_below_drewN | apply below_drew1 | refine below_set ?_ GE101.out) | exact HB.out)) hb)
        have z_HO112 := fun (h0_ : b 12 = true) => (show Kd.R (Kd.int .i64) 2 w52 w.heap.size (fun _ => True) v111 y110 from by first | exact (Kd.R_below (by (with_reducible repeat (first | apply Kd.R_alloc | apply Kd.R_drewN | apply Kd.R_drew)); exact (Q_HO112 h0_)) hb) | exact Kd.R_mono (Kd.R_below (by (with_reducible repeat (first | apply Kd.R_alloc | apply Kd.R_drewN | apply Kd.R_drew)); exact (Q_HO112 h0_)) hb) (fun _ h_ => by first | trivial | exact h_ | exact h_.1))
        clear HO104
        clear BK101
        clear HB
        have HO104 := n0_
        have BK101 := n1_
        have HB := n2_
        clear n0_ n1_ n2_
        (try clear hb)
        (try clear hb2)
        (try clear hk)
        (try clear hi)
        refine hK.out _ _ ⟨.slice Ao51 y102.length co51, v107, v111, v115, (by rw [ha.out]; exact putSel_upk 3 hb_ rfl rfl rfl), (by (with_reducible repeat (first | refine blk_drewN ?_ _ | refine blk_drew ?_ | refine blk_alloc ?_ _)); exact BK101.out), (by repeat (first | (with_reducible first | exact HB.out | apply below_alloc | apply pw_below_drewN | apply below_drew1 | refine below_set ?_ GE101.out) | exact HB.out)), fun _ => (by (with_reducible repeat (first | apply Kd.R_alloc | apply Kd.R_drewN | apply Kd.R_drew)); exact HO104.out), fun h0_ => absurd ((hoff 6 (by kernel_rfl)).symm.trans h0_) (by decide), z_HO112, fun h0_ => absurd ((hoff 14 (by kernel_rfl)).symm.trans h0_) (by decide)⟩
      refine steps_cons ?_ ?_
      · rintro b a w' ⟨v103, v107, v111, v115, ha, Q_BK101, Q_HB, Q_HO104, Q_HO108, Q_HO112, Q_HO116⟩ hb_ hon hoff
        refine ⟨_, rfl, fun K hK => ?_⟩
        have e7 : a.tmps[7]? = some (.int .i64 a0) := by rw [ha]; exact (putSel_off rfl).trans rfl
        have e11 : a.tmps[11]? = some (.int .i64 t105) := by rw [ha]; exact putSel_on (e := (5, 11, .int .i64 t105)) 3 rfl rfl (hon 5 (by kernel_rfl)) rfl
        replace ha := Aside0.mk ha
        have BK101 := Aside0.mk Q_BK101
        have HB := Aside0.mk Q_HB
        have HO104 := Aside0.mk (Q_HO104 (hon 4 (by kernel_rfl)))
        refine Kd.R_lit_step (Kd.int .i64) _ 2 ?hg (N := 12) ?hd (xs := ([a0, t105] : List Int)) (inner := [.int .i64 a0, .int .i64 t105]) (ok := fun _ => True) (okp := fun _ => True) ?hr ?hp (fun _ hk => by first | exact trivial | exact hk) trivial (Below.refl _ _) (Nat.le_refl _) (by simp) ?_; (case hd => rfl); (case hg => rfl); (case hr => first | (go_simp; done) | (go_simp; rfl)); (case hp => exact (Reps.one (show Kd.M (Kd.int .i64) _ _ _ a0 [.int .i64 a0] from rfl) (Reps.one (show Kd.M (Kd.int .i64) _ _ _ t105 [.int .i64 t105] from rfl) (Reps.none _ _))))
        intro v107 w53 ho54 hb hg_ hnew_
        clear hg_ hnew_
        (first | rw [← Ny106.out] at ho54 | (simp only [Int.reduceToNat] at ho54; rw [← Ny106.out] at ho54))
        have n0_ := Aside0.mk (Kd.R_elder' (by (with_reducible repeat (first | apply Kd.R_alloc | apply Kd.R_drewN | apply Kd.R_drew)); exact HO104.out) (Kd.R_base ho54) hb)
        have n1_ := Aside0.mk (Kd.R_lower (Kd.R_new' ho54 (Kd.R_lt (by (with_reducible repeat (first | apply Kd.R_alloc | apply Kd.R_drewN | apply Kd.R_drew)); exact HO104.out))) (below_size (by repeat (first | (with_reducible first | exact HB.out | apply below_alloc | apply pw_below_drewN | apply below_drew1 | refine below_set ?_ GE101.out) | exact HB.out))))
        have n2_ := Aside0.mk (blk_below (g := g2c) (o := .cells #[.int .i64 a2_0, .int .i64 a2_1] 26 (0, 0)) (by (with_reducible repeat (first | refine blk_drewN ?_ _ | refine blk_drew ?_ | refine blk_alloc ?_ _)); exact BK101.out) hb)
        have n3_ := Aside0.mk (below_step (by repeat (first | (with_reducible first | exact HB.out | apply below_alloc | apply pw_below_drewN | apply below_drew1 | refine below_set ?_ GE101.out) | exact HB.out)) hb)
        have z_HO112 := fun (h0_ : b 12 = true) => (show Kd.R (Kd.int .i64) 2 w53 w.heap.size (fun _ => True) v111 y110 from by first | exact (Kd.R_elder' (by (with_reducible repeat (first | apply Kd.R_alloc | apply Kd.R_drewN | apply Kd.R_drew)); exact (Q_HO112 h0_)) (Kd.R_base ho54) hb) | exact Kd.R_mono (Kd.R_elder' (by (with_reducible repeat (first | apply Kd.R_alloc | apply Kd.R_drewN | apply Kd.R_drew)); exact (Q_HO112 h0_)) (Kd.R_base ho54) hb) (fun _ h_ => by first | trivial | exact h_ | exact h_.1))
        clear HO104
        clear BK101
        clear HB
        have HO104 := n0_
        have HO108 := n1_
        have BK101 := n2_
        have HB := n3_
        clear n0_ n1_ n2_ n3_
        clear hb ho54
        refine hK.out _ _ ⟨v103, v107, v111, v115, (by rw [ha.out]; exact putSel_upk 4 hb_ rfl rfl rfl), (by (with_reducible repeat (first | refine blk_drewN ?_ _ | refine blk_drew ?_ | refine blk_alloc ?_ _)); exact BK101.out), (by repeat (first | (with_reducible first | exact HB.out | apply below_alloc | apply pw_below_drewN | apply below_drew1 | refine below_set ?_ GE101.out) | exact HB.out)), fun _ => (by (with_reducible repeat (first | apply Kd.R_alloc | apply Kd.R_drewN | apply Kd.R_drew)); exact Kd.R_mono HO104.out (fun _ hk => by first | exact trivial | exact hk.2)), fun _ => (by (with_reducible repeat (first | apply Kd.R_alloc | apply Kd.R_drewN | apply Kd.R_drew)); exact Kd.R_mono HO108.out (fun _ hk => by first | exact trivial | exact hk.2)), z_HO112, fun h0_ => absurd ((hoff 14 (by kernel_rfl)).symm.trans h0_) (by decide)⟩
      refine steps_cons ?_ ?_
      · rintro b a w' ⟨v103, v107, v111, v115, ha, Q_BK101, Q_HB, Q_HO104, Q_HO108, Q_HO112, Q_HO116⟩ hb_ hon hoff
        refine ⟨_, rfl, fun K hK => ?_⟩
        have e6 : a.tmps[6]? = some (.agg #[.int .i64 a2_0, .int .i64 a2_1]) := by rw [ha]; exact putSel_on (e := (0, 6, .agg #[.int .i64 a2_0, .int .i64 a2_1])) 0 rfl rfl (hon 0 (by kernel_rfl)) rfl
        have e12 : a.tmps[12]? = some (v107) := by rw [ha]; exact putSel_on (e := (6, 12, v107)) 4 rfl rfl (hon 6 (by kernel_rfl)) rfl
        replace ha := Aside0.mk ha
        have BK101 := Aside0.mk Q_BK101
        have HB := Aside0.mk Q_HB
        have HO104 := Aside0.mk (Q_HO104 (hon 4 (by kernel_rfl)))
        have HO108 := Aside0.mk (Q_HO108 (hon 6 (by kernel_rfl)))
        obtain ⟨Ao55, co55, eo55⟩ := Kd.R_slice HO108.out
        (first | subst eo55 | (injection eo55 with f1_ f2_ f3_; have f4_ := f1_.symm; have f5_ := f3_.symm; clear f1_ f2_ f3_; subst f4_; subst f5_))
        refine goes_ Try.func56 (by kernel_rfl) rfl #[.agg #[.int .i64 a2_0, .int .i64 a2_1], .slice Ao55 y106.length co55] (by rfl) rfl rfl (by first | (simp only [List.map_toArray, List.map_cons, List.map_nil, Act.eval, Array.getD_eq_getD_getElem?, Option.getD_some, e6, e12]; done) | (simp only [List.map_toArray, List.map_cons, List.map_nil, Act.eval, Array.getD_eq_getD_getElem?, Option.getD_some, e6, e12]; rfl)) ?_
        with_reducible refine (impl_Func_of.calls k a2_0 a2_1 _ _ y106 t109 _ ?side1 ?side2 A5.out).mono ?_
        (case side1 => repeat (first | exact (Kd.R_reads' HO108.out).2.2 | (with_reducible refine Kd.C_alloc ?_ _) | (with_reducible refine Kd.C_drewN ?_ _) | (with_reducible refine Kd.C_drew ?_)))
        (case side2 => exact (Kd.R_reads' HO108.out).2.1)
        rintro e w56 ⟨rfl, hb⟩
        refine ⟨_, rfl, ?_⟩
        have n0_ := Aside0.mk (Kd.R_below (by (with_reducible repeat (first | apply Kd.R_alloc | apply Kd.R_drewN | apply Kd.R_drew)); exact HO104.out) hb)
        have n1_ := Aside0.mk (Kd.R_below (by (with_reducible repeat (first | apply Kd.R_alloc | apply Kd.R_drewN | apply Kd.R_drew)); exact HO108.out) hb)
        have n2_ := Aside0.mk (blk_below (g := g2c) (o := .cells #[.int .i64 a2_0, .int .i64 a2_1] 26 (0, 0)) (by (with_reducible repeat (first | refine blk_drewN ?_ _ | refine blk_drew ?_ | refine blk_alloc ?_ _)); exact BK101.out) hb)
        have n3_ := Aside0.mk (below_step (by repeat (first | (with_reducible first | exact HB.out | apply below_alloc | apply pw_below_drewN | apply below_drew1 | refine below_set ?_ GE101.out) | exact HB.out)) hb)
        have z_HO112 := fun (h0_ : b 12 = true) => (show Kd.R (Kd.int .i64) 2 w56 w.heap.size (fun _ => True) v111 y110 from by first | exact (Kd.R_below (by (with_reducible repeat (first | apply Kd.R_alloc | apply Kd.R_drewN | apply Kd.R_drew)); exact (Q_HO112 h0_)) hb) | exact Kd.R_mono (Kd.R_below (by (with_reducible repeat (first | apply Kd.R_alloc | apply Kd.R_drewN | apply Kd.R_drew)); exact (Q_HO112 h0_)) hb) (fun _ h_ => by first | trivial | exact h_ | exact h_.1))
        clear HO104
        clear HO108
        clear BK101
        clear HB
        have HO104 := n0_
        have HO108 := n1_
        have BK101 := n2_
        have HB := n3_
        clear n0_ n1_ n2_ n3_
        (try clear hb)
        (try clear hb2)
        (try clear hk)
        (try clear hi)
        refine hK.out _ _ ⟨v103, .slice Ao55 y106.length co55, v111, v115, (by rw [ha.out]; exact putSel_upk 5 hb_ rfl rfl rfl), (by (with_reducible repeat (first | refine blk_drewN ?_ _ | refine blk_drew ?_ | refine blk_alloc ?_ _)); exact BK101.out), (by repeat (first | (with_reducible first | exact HB.out | apply below_alloc | apply pw_below_drewN | apply below_drew1 | refine below_set ?_ GE101.out) | exact HB.out)), fun _ => (by (with_reducible repeat (first | apply Kd.R_alloc | apply Kd.R_drewN | apply Kd.R_drew)); exact HO104.out), fun _ => (by (with_reducible repeat (first | apply Kd.R_alloc | apply Kd.R_drewN | apply Kd.R_drew)); exact HO108.out), z_HO112, fun h0_ => absurd ((hoff 14 (by kernel_rfl)).symm.trans h0_) (by decide)⟩
      refine steps_cons ?_ ?_
      · rintro b a w' ⟨v103, v107, v111, v115, ha, Q_BK101, Q_HB, Q_HO104, Q_HO108, Q_HO112, Q_HO116⟩ hb_ hon hoff
        refine ⟨_, rfl, fun K hK => ?_⟩
        have e2 : a.tmps[2]? = some (.pointer (some ⟨g2c, 0, none⟩)) := by rw [ha]; exact (putSel_off rfl).trans rfl
        replace ha := Aside0.mk ha
        have BK101 := Aside0.mk Q_BK101
        have HB := Aside0.mk Q_HB
        have hc0_ : w'.cell? ⟨g2c, 0, none⟩ = some (.int .i64 a2_0) := (blk_cell BK101.out 0).trans rfl
        have hc1_ : w'.cell? ⟨g2c, 1, none⟩ = some (.int .i64 a2_1) := (blk_cell BK101.out 1).trans rfl
        refine value_ (w1 := w') (v := .agg #[.int .i64 a2_0, .int .i64 a2_1]) (by rfl) rfl ?_ ?_
        · go_simp
          (try simp only [i64_w])
          try rfl
        refine hK.out _ _ ⟨v103, v107, v111, v115, (by rw [ha.out]; exact putSel_upk 6 hb_ rfl rfl rfl), Q_BK101, Q_HB, Q_HO104, Q_HO108, Q_HO112, Q_HO116⟩
      refine steps_cons ?_ ?_
      · rintro b a w' ⟨v103, v107, v111, v115, ha, Q_BK101, Q_HB, Q_HO104, Q_HO108, Q_HO112, Q_HO116⟩ hb_ hon hoff
        refine ⟨_, rfl, fun K hK => ?_⟩
        have e2 : a.tmps[2]? = some (.pointer (some ⟨g2c, 0, none⟩)) := by rw [ha]; exact (putSel_off rfl).trans rfl
        replace ha := Aside0.mk ha
        have BK101 := Aside0.mk Q_BK101
        have HB := Aside0.mk Q_HB
        have hc0_ : w'.cell? ⟨g2c, 0, none⟩ = some (.int .i64 a2_0) := (blk_cell BK101.out 0).trans rfl
        have hc1_ : w'.cell? ⟨g2c, 1, none⟩ = some (.int .i64 a2_1) := (blk_cell BK101.out 1).trans rfl
        refine value_ (w1 := w') (v := .agg #[.int .i64 a2_0, .int .i64 a2_1]) (by rfl) rfl ?_ ?_
        · go_simp
          (try simp only [i64_w])
          try rfl
        refine hK.out _ _ ⟨v103, v107, v111, v115, (by rw [ha.out]; exact putSel_upk 7 hb_ rfl rfl rfl), Q_BK101, Q_HB, Q_HO104, Q_HO108, Q_HO112, fun h0_ => absurd ((hoff 14 (by kernel_rfl)).symm.trans h0_) (by decide)⟩
      refine steps_cons ?_ ?_
      · rintro b a w' ⟨v103, v107, v111, v115, ha, Q_BK101, Q_HB, Q_HO104, Q_HO108, Q_HO112, Q_HO116⟩ hb_ hon hoff
        refine ⟨_, rfl, fun K hK => ?_⟩
        have e16 : a.tmps[16]? = some (.int .i64 a0) := by rw [ha]; exact (putSel_off rfl).trans rfl
        have e17 : a.tmps[17]? = some (.int .i64 a1) := by rw [ha]; exact (putSel_off rfl).trans rfl
        replace ha := Aside0.mk ha
        have BK101 := Aside0.mk Q_BK101
        have HB := Aside0.mk Q_HB
        refine Kd.R_lit_step (Kd.int .i64) _ 2 ?hg (N := 18) ?hd (xs := ([a0, a1] : List Int)) (inner := [.int .i64 a0, .int .i64 a1]) (ok := fun _ => True) (okp := fun _ => True) ?hr ?hp (fun _ hk => by first | exact trivial | exact hk) trivial (Below.refl _ _) (Nat.le_refl _) (by simp) ?_; (case hd => rfl); (case hg => rfl); (case hr => first | (go_simp; done) | (go_simp; rfl)); (case hp => exact (Reps.one (show Kd.M (Kd.int .i64) _ _ _ a0 [.int .i64 a0] from rfl) (Reps.one (show Kd.M (Kd.int .i64) _ _ _ a1 [.int .i64 a1] from rfl) (Reps.none _ _))))
        intro v111 w48 ho49 hb hg_ hnew_
        clear hg_ hnew_
        (first | rw [← Ny110.out] at ho49 | (simp only [Int.reduceToNat] at ho49; rw [← Ny110.out] at ho49))
        have n0_ := Aside0.mk (Kd.R_lower ho49 (below_size (by repeat (first | (with_reducible first | exact HB.out | apply below_alloc | apply pw_below_drewN | apply below_drew1 | refine below_set ?_ GE101.out) | exact HB.out))))
        have n1_ := Aside0.mk (blk_below (g := g2c) (o := .cells #[.int .i64 a2_0, .int .i64 a2_1] 26 (0, 0)) (by (with_reducible repeat (first | refine blk_drewN ?_ _ | refine blk_drew ?_ | refine blk_alloc ?_ _)); exact BK101.out) hb)
        have n2_ := Aside0.mk (below_step (by repeat (first | (with_reducible first | exact HB.out | apply below_alloc | apply pw_below_drewN | apply below_drew1 | refine below_set ?_ GE101.out) | exact HB.out)) hb)
        have z_HO104 := fun (h0_ : b 4 = true) => (show Kd.R (Kd.int .i64) 2 w48 w.heap.size (fun _ => True) v103 y102 from by first | exact (Kd.R_elder' (by (with_reducible repeat (first | apply Kd.R_alloc | apply Kd.R_drewN | apply Kd.R_drew)); exact (Q_HO104 h0_)) (Kd.R_base ho49) hb) | exact Kd.R_mono (Kd.R_elder' (by (with_reducible repeat (first | apply Kd.R_alloc | apply Kd.R_drewN | apply Kd.R_drew)); exact (Q_HO104 h0_)) (Kd.R_base ho49) hb) (fun _ h_ => by first | trivial | exact h_ | exact h_.1))
        have z_HO108 := fun (h0_ : b 6 = true) => (show Kd.R (Kd.int .i64) 2 w48 w.heap.size (fun _ => True) v107 y106 from by first | exact (Kd.R_elder' (by (with_reducible repeat (first | apply Kd.R_alloc | apply Kd.R_drewN | apply Kd.R_drew)); exact (Q_HO108 h0_)) (Kd.R_base ho49) hb) | exact Kd.R_mono (Kd.R_elder' (by (with_reducible repeat (first | apply Kd.R_alloc | apply Kd.R_drewN | apply Kd.R_drew)); exact (Q_HO108 h0_)) (Kd.R_base ho49) hb) (fun _ h_ => by first | trivial | exact h_ | exact h_.1))
        clear BK101
        clear HB
        have HO112 := n0_
        have BK101 := n1_
        have HB := n2_
        clear n0_ n1_ n2_
        clear hb ho49
        refine hK.out _ _ ⟨v103, v107, v111, v115, (by rw [ha.out]; exact putSel_upk 8 hb_ rfl rfl rfl), (by (with_reducible repeat (first | refine blk_drewN ?_ _ | refine blk_drew ?_ | refine blk_alloc ?_ _)); exact BK101.out), (by repeat (first | (with_reducible first | exact HB.out | apply below_alloc | apply pw_below_drewN | apply below_drew1 | refine below_set ?_ GE101.out) | exact HB.out)), z_HO104, z_HO108, fun _ => (by (with_reducible repeat (first | apply Kd.R_alloc | apply Kd.R_drewN | apply Kd.R_drew)); exact HO112.out), fun h0_ => absurd ((hoff 14 (by kernel_rfl)).symm.trans h0_) (by decide)⟩
      refine steps_cons ?_ ?_
      · rintro b a w' ⟨v103, v107, v111, v115, ha, Q_BK101, Q_HB, Q_HO104, Q_HO108, Q_HO112, Q_HO116⟩ hb_ hon hoff
        refine ⟨_, rfl, fun K hK => ?_⟩
        have e15 : a.tmps[15]? = some (.agg #[.int .i64 a2_0, .int .i64 a2_1]) := by rw [ha]; exact putSel_on (e := (9, 15, .agg #[.int .i64 a2_0, .int .i64 a2_1])) 7 rfl rfl (hon 9 (by kernel_rfl)) rfl
        have e18 : a.tmps[18]? = some (v111) := by rw [ha]; exact putSel_on (e := (12, 18, v111)) 8 rfl rfl (hon 12 (by kernel_rfl)) rfl
        replace ha := Aside0.mk ha
        have BK101 := Aside0.mk Q_BK101
        have HB := Aside0.mk Q_HB
        have HO104 := Aside0.mk (Q_HO104 (hon 4 (by kernel_rfl)))
        have HO108 := Aside0.mk (Q_HO108 (hon 6 (by kernel_rfl)))
        have HO112 := Aside0.mk (Q_HO112 (hon 12 (by kernel_rfl)))
        obtain ⟨Ao59, co59, eo59⟩ := Kd.R_slice HO112.out
        (first | subst eo59 | (injection eo59 with f1_ f2_ f3_; have f4_ := f1_.symm; have f5_ := f3_.symm; clear f1_ f2_ f3_; subst f4_; subst f5_))
        refine goes_ Try.func56 (by kernel_rfl) rfl #[.agg #[.int .i64 a2_0, .int .i64 a2_1], .slice Ao59 y110.length co59] (by rfl) rfl rfl (by first | (simp only [List.map_toArray, List.map_cons, List.map_nil, Act.eval, Array.getD_eq_getD_getElem?, Option.getD_some, e15, e18]; done) | (simp only [List.map_toArray, List.map_cons, List.map_nil, Act.eval, Array.getD_eq_getD_getElem?, Option.getD_some, e15, e18]; rfl)) ?_
        with_reducible refine (impl_Func_of.calls k a2_0 a2_1 _ _ y110 t113 _ ?side1 ?side2 A6.out).mono ?_
        (case side1 => repeat (first | exact (Kd.R_reads' HO112.out).2.2 | (with_reducible refine Kd.C_alloc ?_ _) | (with_reducible refine Kd.C_drewN ?_ _) | (with_reducible refine Kd.C_drew ?_)))
        (case side2 => exact (Kd.R_reads' HO112.out).2.1)
        rintro e w60 ⟨rfl, hb⟩
        refine ⟨_, rfl, ?_⟩
        have n0_ := Aside0.mk (Kd.R_below (by (with_reducible repeat (first | apply Kd.R_alloc | apply Kd.R_drewN | apply Kd.R_drew)); exact HO104.out) hb)
        have n1_ := Aside0.mk (Kd.R_below (by (with_reducible repeat (first | apply Kd.R_alloc | apply Kd.R_drewN | apply Kd.R_drew)); exact HO108.out) hb)
        have n2_ := Aside0.mk (Kd.R_below (by (with_reducible repeat (first | apply Kd.R_alloc | apply Kd.R_drewN | apply Kd.R_drew)); exact HO112.out) hb)
        have n3_ := Aside0.mk (blk_below (g := g2c) (o := .cells #[.int .i64 a2_0, .int .i64 a2_1] 26 (0, 0)) (by (with_reducible repeat (first | refine blk_drewN ?_ _ | refine blk_drew ?_ | refine blk_alloc ?_ _)); exact BK101.out) hb)
        have n4_ := Aside0.mk (below_step (by repeat (first | (with_reducible first | exact HB.out | apply below_alloc | apply pw_below_drewN | apply below_drew1 | refine below_set ?_ GE101.out) | exact HB.out)) hb)
        clear HO104
        clear HO108
        clear HO112
        clear BK101
        clear HB
        have HO104 := n0_
        have HO108 := n1_
        have HO112 := n2_
        have BK101 := n3_
        have HB := n4_
        clear n0_ n1_ n2_ n3_ n4_
        (try clear hb)
        (try clear hb2)
        (try clear hk)
        (try clear hi)
        refine hK.out _ _ ⟨v103, v107, .slice Ao59 y110.length co59, v115, (by rw [ha.out]; exact putSel_upk 9 hb_ rfl rfl rfl), (by (with_reducible repeat (first | refine blk_drewN ?_ _ | refine blk_drew ?_ | refine blk_alloc ?_ _)); exact BK101.out), (by repeat (first | (with_reducible first | exact HB.out | apply below_alloc | apply pw_below_drewN | apply below_drew1 | refine below_set ?_ GE101.out) | exact HB.out)), fun _ => (by (with_reducible repeat (first | apply Kd.R_alloc | apply Kd.R_drewN | apply Kd.R_drew)); exact HO104.out), fun _ => (by (with_reducible repeat (first | apply Kd.R_alloc | apply Kd.R_drewN | apply Kd.R_drew)); exact HO108.out), fun _ => (by (with_reducible repeat (first | apply Kd.R_alloc | apply Kd.R_drewN | apply Kd.R_drew)); exact HO112.out), fun h0_ => absurd ((hoff 14 (by kernel_rfl)).symm.trans h0_) (by decide)⟩
      refine steps_cons ?_ ?_
      · rintro b a w' ⟨v103, v107, v111, v115, ha, Q_BK101, Q_HB, Q_HO104, Q_HO108, Q_HO112, Q_HO116⟩ hb_ hon hoff
        refine ⟨_, rfl, fun K hK => ?_⟩
        have e19 : a.tmps[19]? = some (.int .i64 t113) := by rw [ha]; exact putSel_on (e := (13, 19, .int .i64 t113)) 9 rfl rfl (hon 13 (by kernel_rfl)) rfl
        replace ha := Aside0.mk ha
        have BK101 := Aside0.mk Q_BK101
        have HB := Aside0.mk Q_HB
        have HO104 := Aside0.mk (Q_HO104 (hon 4 (by kernel_rfl)))
        have HO108 := Aside0.mk (Q_HO108 (hon 6 (by kernel_rfl)))
        have HO112 := Aside0.mk (Q_HO112 (hon 12 (by kernel_rfl)))
        refine Kd.R_lit_step (Kd.int .i64) _ 2 ?hg (N := 20) ?hd (xs := ([t113, 0] : List Int)) (inner := [.int .i64 t113, .int .i64 0]) (ok := fun _ => True) (okp := fun _ => True) ?hr ?hp (fun _ hk => by first | exact trivial | exact hk) trivial (Below.refl _ _) (Nat.le_refl _) (by simp) ?_; (case hd => rfl); (case hg => rfl); (case hr => first | (go_simp; done) | (go_simp; rfl)); (case hp => exact (Reps.one (show Kd.M (Kd.int .i64) _ _ _ t113 [.int .i64 t113] from rfl) (Reps.one (show Kd.M (Kd.int .i64) _ _ _ 0 [.int .i64 0] from rfl) (Reps.none _ _))))
        intro v115 w61 ho62 hb hg_ hnew_
        clear hg_ hnew_
        (first | rw [← Ny114.out] at ho62 | (simp only [Int.reduceToNat] at ho62; rw [← Ny114.out] at ho62))
        have n0_ := Aside0.mk (Kd.R_elder' (by (with_reducible repeat (first | apply Kd.R_alloc | apply Kd.R_drewN | apply Kd.R_drew)); exact HO104.out) (Kd.R_base ho62) hb)
        have n1_ := Aside0.mk (Kd.R_elder' (by (with_reducible repeat (first | apply Kd.R_alloc | apply Kd.R_drewN | apply Kd.R_drew)); exact HO108.out) (Kd.R_base ho62) hb)
        have n2_ := Aside0.mk (Kd.R_elder' (by (with_reducible repeat (first | apply Kd.R_alloc | apply Kd.R_drewN | apply Kd.R_drew)); exact HO112.out) (Kd.R_base ho62) hb)
        have n3_ := Aside0.mk (Kd.R_lower (Kd.R_new' (Kd.R_new' (Kd.R_new' ho62 (Kd.R_lt (by (with_reducible repeat (first | apply Kd.R_alloc | apply Kd.R_drewN | apply Kd.R_drew)); exact HO104.out))) (Kd.R_lt (by (with_reducible repeat (first | apply Kd.R_alloc | apply Kd.R_drewN | apply Kd.R_drew)); exact HO108.out))) (Kd.R_lt (by (with_reducible repeat (first | apply Kd.R_alloc | apply Kd.R_drewN | apply Kd.R_drew)); exact HO112.out))) (below_size (by repeat (first | (with_reducible first | exact HB.out | apply below_alloc | apply pw_below_drewN | apply below_drew1 | refine below_set ?_ GE101.out) | exact HB.out))))
        have n4_ := Aside0.mk (blk_below (g := g2c) (o := .cells #[.int .i64 a2_0, .int .i64 a2_1] 26 (0, 0)) (by (with_reducible repeat (first | refine blk_drewN ?_ _ | refine blk_drew ?_ | refine blk_alloc ?_ _)); exact BK101.out) hb)
        have n5_ := Aside0.mk (below_step (by repeat (first | (with_reducible first | exact HB.out | apply below_alloc | apply pw_below_drewN | apply below_drew1 | refine below_set ?_ GE101.out) | exact HB.out)) hb)
        clear HO104
        clear HO108
        clear HO112
        clear BK101
        clear HB
        have HO104 := n0_
        have HO108 := n1_
        have HO112 := n2_
        have HO116 := n3_
        have BK101 := n4_
        have HB := n5_
        clear n0_ n1_ n2_ n3_ n4_ n5_
        clear hb ho62
        refine hK.out _ _ ⟨v103, v107, v111, v115, (by rw [ha.out]; exact putSel_upk 10 hb_ rfl rfl rfl), (by (with_reducible repeat (first | refine blk_drewN ?_ _ | refine blk_drew ?_ | refine blk_alloc ?_ _)); exact BK101.out), (by repeat (first | (with_reducible first | exact HB.out | apply below_alloc | apply pw_below_drewN | apply below_drew1 | refine below_set ?_ GE101.out) | exact HB.out)), fun _ => (by (with_reducible repeat (first | apply Kd.R_alloc | apply Kd.R_drewN | apply Kd.R_drew)); exact Kd.R_mono HO104.out (fun _ hk => by first | exact trivial | exact ⟨hk.1.1, ⟨hk.1.2, hk.2⟩⟩)), fun _ => (by (with_reducible repeat (first | apply Kd.R_alloc | apply Kd.R_drewN | apply Kd.R_drew)); exact Kd.R_mono HO108.out (fun _ hk => by first | exact trivial | exact ⟨hk.1.1, ⟨hk.1.2, hk.2⟩⟩)), fun _ => (by (with_reducible repeat (first | apply Kd.R_alloc | apply Kd.R_drewN | apply Kd.R_drew)); exact Kd.R_mono HO112.out (fun _ hk => by first | exact trivial | exact ⟨hk.1.1, ⟨hk.1.2, hk.2⟩⟩)), fun _ => (by (with_reducible repeat (first | apply Kd.R_alloc | apply Kd.R_drewN | apply Kd.R_drew)); exact Kd.R_mono HO116.out (fun _ hk => by first | exact trivial | exact ⟨hk.1.1.2, ⟨hk.1.2, hk.2⟩⟩))⟩
      refine steps_cons ?_ ?_
      · rintro b a w' ⟨v103, v107, v111, v115, ha, Q_BK101, Q_HB, Q_HO104, Q_HO108, Q_HO112, Q_HO116⟩ hb_ hon hoff
        refine ⟨_, rfl, fun K hK => ?_⟩
        have e14 : a.tmps[14]? = some (.agg #[.int .i64 a2_0, .int .i64 a2_1]) := by rw [ha]; exact putSel_on (e := (8, 14, .agg #[.int .i64 a2_0, .int .i64 a2_1])) 6 rfl rfl (hon 8 (by kernel_rfl)) rfl
        have e20 : a.tmps[20]? = some (v115) := by rw [ha]; exact putSel_on (e := (14, 20, v115)) 10 rfl rfl (hon 14 (by kernel_rfl)) rfl
        replace ha := Aside0.mk ha
        have BK101 := Aside0.mk Q_BK101
        have HB := Aside0.mk Q_HB
        have HO104 := Aside0.mk (Q_HO104 (hon 4 (by kernel_rfl)))
        have HO108 := Aside0.mk (Q_HO108 (hon 6 (by kernel_rfl)))
        have HO112 := Aside0.mk (Q_HO112 (hon 12 (by kernel_rfl)))
        have HO116 := Aside0.mk (Q_HO116 (hon 14 (by kernel_rfl)))
        obtain ⟨Ao63, co63, eo63⟩ := Kd.R_slice HO116.out
        (first | subst eo63 | (injection eo63 with f1_ f2_ f3_; have f4_ := f1_.symm; have f5_ := f3_.symm; clear f1_ f2_ f3_; subst f4_; subst f5_))
        refine goes_ Try.func56 (by kernel_rfl) rfl #[.agg #[.int .i64 a2_0, .int .i64 a2_1], .slice Ao63 y114.length co63] (by rfl) rfl rfl (by first | (simp only [List.map_toArray, List.map_cons, List.map_nil, Act.eval, Array.getD_eq_getD_getElem?, Option.getD_some, e14, e20]; done) | (simp only [List.map_toArray, List.map_cons, List.map_nil, Act.eval, Array.getD_eq_getD_getElem?, Option.getD_some, e14, e20]; rfl)) ?_
        with_reducible refine (impl_Func_of.calls k a2_0 a2_1 _ _ y114 t117 _ ?side1 ?side2 A7.out).mono ?_
        (case side1 => repeat (first | exact (Kd.R_reads' HO116.out).2.2 | (with_reducible refine Kd.C_alloc ?_ _) | (with_reducible refine Kd.C_drewN ?_ _) | (with_reducible refine Kd.C_drew ?_)))
        (case side2 => exact (Kd.R_reads' HO116.out).2.1)
        rintro e w64 ⟨rfl, hb⟩
        refine ⟨_, rfl, ?_⟩
        have n0_ := Aside0.mk (Kd.R_below (by (with_reducible repeat (first | apply Kd.R_alloc | apply Kd.R_drewN | apply Kd.R_drew)); exact HO104.out) hb)
        have n1_ := Aside0.mk (Kd.R_below (by (with_reducible repeat (first | apply Kd.R_alloc | apply Kd.R_drewN | apply Kd.R_drew)); exact HO108.out) hb)
        have n2_ := Aside0.mk (Kd.R_below (by (with_reducible repeat (first | apply Kd.R_alloc | apply Kd.R_drewN | apply Kd.R_drew)); exact HO112.out) hb)
        have n3_ := Aside0.mk (Kd.R_below (by (with_reducible repeat (first | apply Kd.R_alloc | apply Kd.R_drewN | apply Kd.R_drew)); exact HO116.out) hb)
        have n4_ := Aside0.mk (blk_below (g := g2c) (o := .cells #[.int .i64 a2_0, .int .i64 a2_1] 26 (0, 0)) (by (with_reducible repeat (first | refine blk_drewN ?_ _ | refine blk_drew ?_ | refine blk_alloc ?_ _)); exact BK101.out) hb)
        have n5_ := Aside0.mk (below_step (by repeat (first | (with_reducible first | exact HB.out | apply below_alloc | apply pw_below_drewN | apply below_drew1 | refine below_set ?_ GE101.out) | exact HB.out)) hb)
        clear HO104
        clear HO108
        clear HO112
        clear HO116
        clear BK101
        clear HB
        have HO104 := n0_
        have HO108 := n1_
        have HO112 := n2_
        have HO116 := n3_
        have BK101 := n4_
        have HB := n5_
        clear n0_ n1_ n2_ n3_ n4_ n5_
        (try clear hb)
        (try clear hb2)
        (try clear hk)
        (try clear hi)
        refine hK.out _ _ ⟨v103, v107, v111, .slice Ao63 y114.length co63, (by rw [ha.out]; exact putSel_upk 11 hb_ rfl rfl rfl), (by (with_reducible repeat (first | refine blk_drewN ?_ _ | refine blk_drew ?_ | refine blk_alloc ?_ _)); exact BK101.out), (by repeat (first | (with_reducible first | exact HB.out | apply below_alloc | apply pw_below_drewN | apply below_drew1 | refine below_set ?_ GE101.out) | exact HB.out)), fun _ => (by (with_reducible repeat (first | apply Kd.R_alloc | apply Kd.R_drewN | apply Kd.R_drew)); exact HO104.out), fun _ => (by (with_reducible repeat (first | apply Kd.R_alloc | apply Kd.R_drewN | apply Kd.R_drew)); exact HO108.out), fun _ => (by (with_reducible repeat (first | apply Kd.R_alloc | apply Kd.R_drewN | apply Kd.R_drew)); exact HO112.out), fun _ => (by (with_reducible repeat (first | apply Kd.R_alloc | apply Kd.R_drewN | apply Kd.R_drew)); exact HO116.out)⟩
      refine steps_cons ?_ ?_
      · rintro b a w' ⟨v103, v107, v111, v115, ha, Q_BK101, Q_HB, Q_HO104, Q_HO108, Q_HO112, Q_HO116⟩ hb_ hon hoff
        refine ⟨_, rfl, fun K hK => ?_⟩
        have e13 : a.tmps[13]? = some (.int .i64 t109) := by rw [ha]; exact putSel_on (e := (7, 13, .int .i64 t109)) 5 rfl rfl (hon 7 (by kernel_rfl)) rfl
        have e21 : a.tmps[21]? = some (.int .i64 t117) := by rw [ha]; exact putSel_on (e := (15, 21, .int .i64 t117)) 11 rfl rfl (hon 15 (by kernel_rfl)) rfl
        replace ha := Aside0.mk ha
        have BK101 := Aside0.mk Q_BK101
        have HB := Aside0.mk Q_HB
        have HO104 := Aside0.mk (Q_HO104 (hon 4 (by kernel_rfl)))
        have HO108 := Aside0.mk (Q_HO108 (hon 6 (by kernel_rfl)))
        have HO112 := Aside0.mk (Q_HO112 (hon 12 (by kernel_rfl)))
        have HO116 := Aside0.mk (Q_HO116 (hon 14 (by kernel_rfl)))
        refine value_ (w1 := w') (v := .bool (t109 == t117)) (by rfl) rfl ?_ ?_
        · go_simp
          (try simp only [i64_w])
          try rfl
        refine hK.out _ _ ⟨v103, v107, v111, v115, (by rw [ha.out]; exact putSel_upk 12 hb_ rfl rfl rfl), Q_BK101, Q_HB, Q_HO104, Q_HO108, Q_HO112, Q_HO116⟩
      refine steps_cons ?_ ?_
      · rintro b a w' ⟨v103, v107, v111, v115, ha, Q_BK101, Q_HB, Q_HO104, Q_HO108, Q_HO112, Q_HO116⟩ hb_ hon hoff
        refine ⟨_, rfl, fun K hK => ?_⟩
        have e22 : a.tmps[22]? = some (.bool (t109 == t117)) := by rw [ha]; exact putSel_on (e := (16, 22, .bool (t109 == t117))) 12 rfl rfl (hon 16 (by kernel_rfl)) rfl
        replace ha := Aside0.mk ha
        have BK101 := Aside0.mk Q_BK101
        have HB := Aside0.mk Q_HB
        have HO104 := Aside0.mk (Q_HO104 (hon 4 (by kernel_rfl)))
        have HO108 := Aside0.mk (Q_HO108 (hon 6 (by kernel_rfl)))
        have HO112 := Aside0.mk (Q_HO112 (hon 12 (by kernel_rfl)))
        have HO116 := Aside0.mk (Q_HO116 (hon 14 (by kernel_rfl)))
        refine value_ (w1 := w') (v := .bool (t109 == t117)) (by rfl) rfl ?_ ?_
        · go_simp
          (try simp only [i64_w])
          try rfl
        refine hK.out _ _ ⟨v103, v107, v111, v115, (by rw [ha.out]; exact putSel_upk 13 hb_ rfl rfl rfl), Q_BK101, Q_HB, Q_HO104, Q_HO108, Q_HO112, Q_HO116⟩
      refine steps_cons ?_ ?_
      · rintro b a w' ⟨v103, v107, v111, v115, ha, Q_BK101, Q_HB, Q_HO104, Q_HO108, Q_HO112, Q_HO116⟩ hb_ hon hoff
        refine ⟨_, rfl, fun K hK => ?_⟩
        have e23 : a.tmps[23]? = some (.bool (t109 == t117)) := by rw [ha]; exact putSel_on (e := (17, 23, .bool (t109 == t117))) 13 rfl rfl (hon 17 (by kernel_rfl)) rfl
        replace ha := Aside0.mk ha
        have BK101 := Aside0.mk Q_BK101
        have HB := Aside0.mk Q_HB
        have HO104 := Aside0.mk (Q_HO104 (hon 4 (by kernel_rfl)))
        have HO108 := Aside0.mk (Q_HO108 (hon 6 (by kernel_rfl)))
        have HO112 := Aside0.mk (Q_HO112 (hon 12 (by kernel_rfl)))
        have HO116 := Aside0.mk (Q_HO116 (hon 14 (by kernel_rfl)))
        refine off_ (wanted_off rfl rfl rfl (e23.trans (by first | rfl | (simp [*]; done)))) ?_
        refine hK.out _ _ ⟨v103, v107, v111, v115, (by rw [ha.out]; exact putSel_upk 14 hb_ rfl rfl rfl), Q_BK101, Q_HB, Q_HO104, Q_HO108, Q_HO112, Q_HO116⟩
      refine steps_cons ?_ ?_
      · rintro b a w' ⟨v103, v107, v111, v115, ha, Q_BK101, Q_HB, Q_HO104, Q_HO108, Q_HO112, Q_HO116⟩ hb_ hon hoff
        refine ⟨_, rfl, fun K hK => ?_⟩
        have e23 : a.tmps[23]? = some (.bool (t109 == t117)) := by rw [ha]; exact putSel_on (e := (17, 23, .bool (t109 == t117))) 13 rfl rfl (hon 17 (by kernel_rfl)) rfl
        replace ha := Aside0.mk ha
        have BK101 := Aside0.mk Q_BK101
        have HB := Aside0.mk Q_HB
        have HO104 := Aside0.mk (Q_HO104 (hon 4 (by kernel_rfl)))
        have HO108 := Aside0.mk (Q_HO108 (hon 6 (by kernel_rfl)))
        have HO112 := Aside0.mk (Q_HO112 (hon 12 (by kernel_rfl)))
        have HO116 := Aside0.mk (Q_HO116 (hon 14 (by kernel_rfl)))
        refine off_ (wanted_off rfl rfl rfl (e23.trans (by first | rfl | (simp [*]; done)))) ?_
        refine hK.out _ _ ⟨v103, v107, v111, v115, (by rw [ha.out]; exact putSel_upk 15 hb_ rfl rfl rfl), Q_BK101, Q_HB, Q_HO104, Q_HO108, Q_HO112, Q_HO116⟩
      refine steps_cons ?_ ?_
      · rintro b a w' ⟨v103, v107, v111, v115, ha, Q_BK101, Q_HB, Q_HO104, Q_HO108, Q_HO112, Q_HO116⟩ hb_ hon hoff
        refine ⟨_, rfl, fun K hK => ?_⟩
        have e23 : a.tmps[23]? = some (.bool (t109 == t117)) := by rw [ha]; exact putSel_on (e := (17, 23, .bool (t109 == t117))) 13 rfl rfl (hon 17 (by kernel_rfl)) rfl
        replace ha := Aside0.mk ha
        have BK101 := Aside0.mk Q_BK101
        have HB := Aside0.mk Q_HB
        have HO104 := Aside0.mk (Q_HO104 (hon 4 (by kernel_rfl)))
        have HO108 := Aside0.mk (Q_HO108 (hon 6 (by kernel_rfl)))
        have HO112 := Aside0.mk (Q_HO112 (hon 12 (by kernel_rfl)))
        have HO116 := Aside0.mk (Q_HO116 (hon 14 (by kernel_rfl)))
        refine off_ (wanted_off rfl rfl rfl (e23.trans (by first | rfl | (simp [*]; done)))) ?_
        refine hK.out _ _ ⟨v103, v107, v111, v115, (by rw [ha.out]; exact putSel_upk 16 hb_ rfl rfl rfl), Q_BK101, Q_HB, Q_HO104, Q_HO108, Q_HO112, Q_HO116⟩
      refine steps_cons ?_ ?_
      · rintro b a w' ⟨v103, v107, v111, v115, ha, Q_BK101, Q_HB, Q_HO104, Q_HO108, Q_HO112, Q_HO116⟩ hb_ hon hoff
        refine ⟨_, rfl, fun K hK => ?_⟩
        have e23 : a.tmps[23]? = some (.bool (t109 == t117)) := by rw [ha]; exact putSel_on (e := (17, 23, .bool (t109 == t117))) 13 rfl rfl (hon 17 (by kernel_rfl)) rfl
        replace ha := Aside0.mk ha
        have BK101 := Aside0.mk Q_BK101
        have HB := Aside0.mk Q_HB
        have HO104 := Aside0.mk (Q_HO104 (hon 4 (by kernel_rfl)))
        have HO108 := Aside0.mk (Q_HO108 (hon 6 (by kernel_rfl)))
        have HO112 := Aside0.mk (Q_HO112 (hon 12 (by kernel_rfl)))
        have HO116 := Aside0.mk (Q_HO116 (hon 14 (by kernel_rfl)))
        refine off_ (wanted_off rfl rfl rfl (e23.trans (by first | rfl | (simp [*]; done)))) ?_
        refine hK.out _ _ ⟨v103, v107, v111, v115, (by rw [ha.out]; exact putSel_upk 17 hb_ rfl rfl rfl), Q_BK101, Q_HB, Q_HO104, Q_HO108, Q_HO112, Q_HO116⟩
      refine steps_cons ?_ ?_
      · rintro b a w' ⟨v103, v107, v111, v115, ha, Q_BK101, Q_HB, Q_HO104, Q_HO108, Q_HO112, Q_HO116⟩ hb_ hon hoff
        refine ⟨_, rfl, fun K hK => ?_⟩
        have e23 : a.tmps[23]? = some (.bool (t109 == t117)) := by rw [ha]; exact putSel_on (e := (17, 23, .bool (t109 == t117))) 13 rfl rfl (hon 17 (by kernel_rfl)) rfl
        replace ha := Aside0.mk ha
        have BK101 := Aside0.mk Q_BK101
        have HB := Aside0.mk Q_HB
        have HO104 := Aside0.mk (Q_HO104 (hon 4 (by kernel_rfl)))
        have HO108 := Aside0.mk (Q_HO108 (hon 6 (by kernel_rfl)))
        have HO112 := Aside0.mk (Q_HO112 (hon 12 (by kernel_rfl)))
        have HO116 := Aside0.mk (Q_HO116 (hon 14 (by kernel_rfl)))
        refine off_ (wanted_off rfl rfl rfl (e23.trans (by first | rfl | (simp [*]; done)))) ?_
        refine hK.out _ _ ⟨v103, v107, v111, v115, (by rw [ha.out]; exact putSel_upk 18 hb_ rfl rfl rfl), Q_BK101, Q_HB, Q_HO104, Q_HO108, Q_HO112, Q_HO116⟩
      refine steps_cons ?_ ?_
      · rintro b a w' ⟨v103, v107, v111, v115, ha, Q_BK101, Q_HB, Q_HO104, Q_HO108, Q_HO112, Q_HO116⟩ hb_ hon hoff
        refine ⟨_, rfl, fun K hK => ?_⟩
        have e23 : a.tmps[23]? = some (.bool (t109 == t117)) := by rw [ha]; exact putSel_on (e := (17, 23, .bool (t109 == t117))) 13 rfl rfl (hon 17 (by kernel_rfl)) rfl
        replace ha := Aside0.mk ha
        have BK101 := Aside0.mk Q_BK101
        have HB := Aside0.mk Q_HB
        have HO104 := Aside0.mk (Q_HO104 (hon 4 (by kernel_rfl)))
        have HO108 := Aside0.mk (Q_HO108 (hon 6 (by kernel_rfl)))
        have HO112 := Aside0.mk (Q_HO112 (hon 12 (by kernel_rfl)))
        have HO116 := Aside0.mk (Q_HO116 (hon 14 (by kernel_rfl)))
        refine off_ (wanted_off rfl rfl rfl (e23.trans (by first | rfl | (simp [*]; done)))) ?_
        refine hK.out _ _ ⟨v103, v107, v111, v115, (by rw [ha.out]; exact putSel_upk 19 hb_ rfl rfl rfl), Q_BK101, Q_HB, Q_HO104, Q_HO108, Q_HO112, Q_HO116⟩
      refine steps_cons ?_ ?_
      · rintro b a w' ⟨v103, v107, v111, v115, ha, Q_BK101, Q_HB, Q_HO104, Q_HO108, Q_HO112, Q_HO116⟩ hb_ hon hoff
        refine ⟨_, rfl, fun K hK => ?_⟩
        have e23 : a.tmps[23]? = some (.bool (t109 == t117)) := by rw [ha]; exact putSel_on (e := (17, 23, .bool (t109 == t117))) 13 rfl rfl (hon 17 (by kernel_rfl)) rfl
        replace ha := Aside0.mk ha
        have BK101 := Aside0.mk Q_BK101
        have HB := Aside0.mk Q_HB
        have HO104 := Aside0.mk (Q_HO104 (hon 4 (by kernel_rfl)))
        have HO108 := Aside0.mk (Q_HO108 (hon 6 (by kernel_rfl)))
        have HO112 := Aside0.mk (Q_HO112 (hon 12 (by kernel_rfl)))
        have HO116 := Aside0.mk (Q_HO116 (hon 14 (by kernel_rfl)))
        refine off_ (wanted_off rfl rfl rfl (e23.trans (by first | rfl | (simp [*]; done)))) ?_
        refine hK.out _ _ ⟨v103, v107, v111, v115, (by rw [ha.out]; exact putSel_upk 20 hb_ rfl rfl rfl), Q_BK101, Q_HB, Q_HO104, Q_HO108, Q_HO112, Q_HO116⟩
      refine steps_cons ?_ ?_
      · rintro b a w' ⟨v103, v107, v111, v115, ha, Q_BK101, Q_HB, Q_HO104, Q_HO108, Q_HO112, Q_HO116⟩ hb_ hon hoff
        refine ⟨_, rfl, fun K hK => ?_⟩
        have e23 : a.tmps[23]? = some (.bool (t109 == t117)) := by rw [ha]; exact putSel_on (e := (17, 23, .bool (t109 == t117))) 13 rfl rfl (hon 17 (by kernel_rfl)) rfl
        replace ha := Aside0.mk ha
        have BK101 := Aside0.mk Q_BK101
        have HB := Aside0.mk Q_HB
        have HO104 := Aside0.mk (Q_HO104 (hon 4 (by kernel_rfl)))
        have HO108 := Aside0.mk (Q_HO108 (hon 6 (by kernel_rfl)))
        have HO112 := Aside0.mk (Q_HO112 (hon 12 (by kernel_rfl)))
        have HO116 := Aside0.mk (Q_HO116 (hon 14 (by kernel_rfl)))
        refine off_ (wanted_off rfl rfl rfl (e23.trans (by first | rfl | (simp [*]; done)))) ?_
        refine hK.out _ _ ⟨v103, v107, v111, v115, (by rw [ha.out]; exact putSel_upk 21 hb_ rfl rfl rfl), Q_BK101, Q_HB, Q_HO104, Q_HO108, Q_HO112, Q_HO116⟩
      refine steps_cons ?_ ?_
      · rintro b a w' ⟨v103, v107, v111, v115, ha, Q_BK101, Q_HB, Q_HO104, Q_HO108, Q_HO112, Q_HO116⟩ hb_ hon hoff
        refine ⟨_, rfl, fun K hK => ?_⟩
        have e23 : a.tmps[23]? = some (.bool (t109 == t117)) := by rw [ha]; exact putSel_on (e := (17, 23, .bool (t109 == t117))) 13 rfl rfl (hon 17 (by kernel_rfl)) rfl
        replace ha := Aside0.mk ha
        have BK101 := Aside0.mk Q_BK101
        have HB := Aside0.mk Q_HB
        have HO104 := Aside0.mk (Q_HO104 (hon 4 (by kernel_rfl)))
        have HO108 := Aside0.mk (Q_HO108 (hon 6 (by kernel_rfl)))
        have HO112 := Aside0.mk (Q_HO112 (hon 12 (by kernel_rfl)))
        have HO116 := Aside0.mk (Q_HO116 (hon 14 (by kernel_rfl)))
        refine off_ (wanted_off rfl rfl rfl (e23.trans (by first | rfl | (simp [*]; done)))) ?_
        refine hK.out _ _ ⟨v103, v107, v111, v115, (by rw [ha.out]; exact putSel_upk 22 hb_ rfl rfl rfl), Q_BK101, Q_HB, Q_HO104, Q_HO108, Q_HO112, Q_HO116⟩
      refine steps_cons ?_ ?_
      · rintro b a w' ⟨v103, v107, v111, v115, ha, Q_BK101, Q_HB, Q_HO104, Q_HO108, Q_HO112, Q_HO116⟩ hb_ hon hoff
        refine ⟨_, rfl, fun K hK => ?_⟩
        have e23 : a.tmps[23]? = some (.bool (t109 == t117)) := by rw [ha]; exact putSel_on (e := (17, 23, .bool (t109 == t117))) 13 rfl rfl (hon 17 (by kernel_rfl)) rfl
        replace ha := Aside0.mk ha
        have BK101 := Aside0.mk Q_BK101
        have HB := Aside0.mk Q_HB
        have HO104 := Aside0.mk (Q_HO104 (hon 4 (by kernel_rfl)))
        have HO108 := Aside0.mk (Q_HO108 (hon 6 (by kernel_rfl)))
        have HO112 := Aside0.mk (Q_HO112 (hon 12 (by kernel_rfl)))
        have HO116 := Aside0.mk (Q_HO116 (hon 14 (by kernel_rfl)))
        refine off_ (wanted_off rfl rfl rfl (e23.trans (by first | rfl | (simp [*]; done)))) ?_
        refine hK.out _ _ ⟨v103, v107, v111, v115, (by rw [ha.out]; exact putSel_upk 23 hb_ rfl rfl rfl), Q_BK101, Q_HB, Q_HO104, Q_HO108, Q_HO112, Q_HO116⟩
      refine steps_cons ?_ ?_
      · rintro b a w' ⟨v103, v107, v111, v115, ha, Q_BK101, Q_HB, Q_HO104, Q_HO108, Q_HO112, Q_HO116⟩ hb_ hon hoff
        refine ⟨_, rfl, fun K hK => ?_⟩
        have e23 : a.tmps[23]? = some (.bool (t109 == t117)) := by rw [ha]; exact putSel_on (e := (17, 23, .bool (t109 == t117))) 13 rfl rfl (hon 17 (by kernel_rfl)) rfl
        replace ha := Aside0.mk ha
        have BK101 := Aside0.mk Q_BK101
        have HB := Aside0.mk Q_HB
        have HO104 := Aside0.mk (Q_HO104 (hon 4 (by kernel_rfl)))
        have HO108 := Aside0.mk (Q_HO108 (hon 6 (by kernel_rfl)))
        have HO112 := Aside0.mk (Q_HO112 (hon 12 (by kernel_rfl)))
        have HO116 := Aside0.mk (Q_HO116 (hon 14 (by kernel_rfl)))
        refine off_ (wanted_off rfl rfl rfl (e23.trans (by first | rfl | (simp [*]; done)))) ?_
        refine hK.out _ _ ⟨v103, v107, v111, v115, (by rw [ha.out]; exact putSel_upk 24 hb_ rfl rfl rfl), Q_BK101, Q_HB, Q_HO104, Q_HO108, Q_HO112, Q_HO116⟩
      refine steps_cons ?_ ?_
      · rintro b a w' ⟨v103, v107, v111, v115, ha, Q_BK101, Q_HB, Q_HO104, Q_HO108, Q_HO112, Q_HO116⟩ hb_ hon hoff
        refine ⟨_, rfl, fun K hK => ?_⟩
        have e23 : a.tmps[23]? = some (.bool (t109 == t117)) := by rw [ha]; exact putSel_on (e := (17, 23, .bool (t109 == t117))) 13 rfl rfl (hon 17 (by kernel_rfl)) rfl
        replace ha := Aside0.mk ha
        have BK101 := Aside0.mk Q_BK101
        have HB := Aside0.mk Q_HB
        have HO104 := Aside0.mk (Q_HO104 (hon 4 (by kernel_rfl)))
        have HO108 := Aside0.mk (Q_HO108 (hon 6 (by kernel_rfl)))
        have HO112 := Aside0.mk (Q_HO112 (hon 12 (by kernel_rfl)))
        have HO116 := Aside0.mk (Q_HO116 (hon 14 (by kernel_rfl)))
        refine off_ (wanted_off rfl rfl rfl (e23.trans (by first | rfl | (simp [*]; done)))) ?_
        refine hK.out _ _ ⟨v103, v107, v111, v115, (by rw [ha.out]; exact putSel_upk 25 hb_ rfl rfl rfl), Q_BK101, Q_HB, Q_HO104, Q_HO108, Q_HO112, Q_HO116⟩
      refine steps_cons ?_ ?_
      · rintro b a w' ⟨v103, v107, v111, v115, ha, Q_BK101, Q_HB, Q_HO104, Q_HO108, Q_HO112, Q_HO116⟩ hb_ hon hoff
        refine ⟨_, rfl, fun K hK => ?_⟩
        have e23 : a.tmps[23]? = some (.bool (t109 == t117)) := by rw [ha]; exact putSel_on (e := (17, 23, .bool (t109 == t117))) 13 rfl rfl (hon 17 (by kernel_rfl)) rfl
        replace ha := Aside0.mk ha
        have BK101 := Aside0.mk Q_BK101
        have HB := Aside0.mk Q_HB
        have HO104 := Aside0.mk (Q_HO104 (hon 4 (by kernel_rfl)))
        have HO108 := Aside0.mk (Q_HO108 (hon 6 (by kernel_rfl)))
        have HO112 := Aside0.mk (Q_HO112 (hon 12 (by kernel_rfl)))
        have HO116 := Aside0.mk (Q_HO116 (hon 14 (by kernel_rfl)))
        refine off_ (wanted_off rfl rfl rfl (e23.trans (by first | rfl | (simp [*]; done)))) ?_
        refine hK.out _ _ ⟨v103, v107, v111, v115, (by rw [ha.out]; exact putSel_upk 26 hb_ rfl rfl rfl), Q_BK101, Q_HB, Q_HO104, Q_HO108, Q_HO112, Q_HO116⟩
      refine steps_cons ?_ ?_
      · rintro b a w' ⟨v103, v107, v111, v115, ha, Q_BK101, Q_HB, Q_HO104, Q_HO108, Q_HO112, Q_HO116⟩ hb_ hon hoff
        refine ⟨_, rfl, fun K hK => ?_⟩
        have e23 : a.tmps[23]? = some (.bool (t109 == t117)) := by rw [ha]; exact putSel_on (e := (17, 23, .bool (t109 == t117))) 13 rfl rfl (hon 17 (by kernel_rfl)) rfl
        replace ha := Aside0.mk ha
        have BK101 := Aside0.mk Q_BK101
        have HB := Aside0.mk Q_HB
        have HO104 := Aside0.mk (Q_HO104 (hon 4 (by kernel_rfl)))
        have HO108 := Aside0.mk (Q_HO108 (hon 6 (by kernel_rfl)))
        have HO112 := Aside0.mk (Q_HO112 (hon 12 (by kernel_rfl)))
        have HO116 := Aside0.mk (Q_HO116 (hon 14 (by kernel_rfl)))
        refine off_ (wanted_off rfl rfl rfl (e23.trans (by first | rfl | (simp [*]; done)))) ?_
        refine hK.out _ _ ⟨v103, v107, v111, v115, (by rw [ha.out]; exact putSel_upk 27 hb_ rfl rfl rfl), Q_BK101, Q_HB, Q_HO104, Q_HO108, Q_HO112, Q_HO116⟩
      refine steps_cons ?_ ?_
      · rintro b a w' ⟨v103, v107, v111, v115, ha, Q_BK101, Q_HB, Q_HO104, Q_HO108, Q_HO112, Q_HO116⟩ hb_ hon hoff
        refine ⟨_, rfl, fun K hK => ?_⟩
        have e23 : a.tmps[23]? = some (.bool (t109 == t117)) := by rw [ha]; exact putSel_on (e := (17, 23, .bool (t109 == t117))) 13 rfl rfl (hon 17 (by kernel_rfl)) rfl
        replace ha := Aside0.mk ha
        have BK101 := Aside0.mk Q_BK101
        have HB := Aside0.mk Q_HB
        have HO104 := Aside0.mk (Q_HO104 (hon 4 (by kernel_rfl)))
        have HO108 := Aside0.mk (Q_HO108 (hon 6 (by kernel_rfl)))
        have HO112 := Aside0.mk (Q_HO112 (hon 12 (by kernel_rfl)))
        have HO116 := Aside0.mk (Q_HO116 (hon 14 (by kernel_rfl)))
        refine off_ (wanted_off rfl rfl rfl (e23.trans (by first | rfl | (simp [*]; done)))) ?_
        refine hK.out _ _ ⟨v103, v107, v111, v115, (by rw [ha.out]; exact putSel_upk 28 hb_ rfl rfl rfl), Q_BK101, Q_HB, Q_HO104, Q_HO108, Q_HO112, Q_HO116⟩
      refine steps_cons ?_ ?_
      · rintro b a w' ⟨v103, v107, v111, v115, ha, Q_BK101, Q_HB, Q_HO104, Q_HO108, Q_HO112, Q_HO116⟩ hb_ hon hoff
        refine ⟨_, rfl, fun K hK => ?_⟩
        have e23 : a.tmps[23]? = some (.bool (t109 == t117)) := by rw [ha]; exact putSel_on (e := (17, 23, .bool (t109 == t117))) 13 rfl rfl (hon 17 (by kernel_rfl)) rfl
        replace ha := Aside0.mk ha
        have BK101 := Aside0.mk Q_BK101
        have HB := Aside0.mk Q_HB
        have HO104 := Aside0.mk (Q_HO104 (hon 4 (by kernel_rfl)))
        have HO108 := Aside0.mk (Q_HO108 (hon 6 (by kernel_rfl)))
        have HO112 := Aside0.mk (Q_HO112 (hon 12 (by kernel_rfl)))
        have HO116 := Aside0.mk (Q_HO116 (hon 14 (by kernel_rfl)))
        refine off_ (wanted_off rfl rfl rfl (e23.trans (by first | rfl | (simp [*]; done)))) ?_
        refine hK.out _ _ ⟨v103, v107, v111, v115, (by rw [ha.out]; exact putSel_upk 29 hb_ rfl rfl rfl), Q_BK101, Q_HB, Q_HO104, Q_HO108, Q_HO112, Q_HO116⟩
      refine steps_cons ?_ ?_
      · rintro b a w' ⟨v103, v107, v111, v115, ha, Q_BK101, Q_HB, Q_HO104, Q_HO108, Q_HO112, Q_HO116⟩ hb_ hon hoff
        refine ⟨_, rfl, fun K hK => ?_⟩
        have e23 : a.tmps[23]? = some (.bool (t109 == t117)) := by rw [ha]; exact putSel_on (e := (17, 23, .bool (t109 == t117))) 13 rfl rfl (hon 17 (by kernel_rfl)) rfl
        replace ha := Aside0.mk ha
        have BK101 := Aside0.mk Q_BK101
        have HB := Aside0.mk Q_HB
        have HO104 := Aside0.mk (Q_HO104 (hon 4 (by kernel_rfl)))
        have HO108 := Aside0.mk (Q_HO108 (hon 6 (by kernel_rfl)))
        have HO112 := Aside0.mk (Q_HO112 (hon 12 (by kernel_rfl)))
        have HO116 := Aside0.mk (Q_HO116 (hon 14 (by kernel_rfl)))
        refine off_ (wanted_off rfl rfl rfl (e23.trans (by first | rfl | (simp [*]; done)))) ?_
        refine hK.out _ _ ⟨v103, v107, v111, v115, (by rw [ha.out]; exact putSel_upk 30 hb_ rfl rfl rfl), Q_BK101, Q_HB, Q_HO104, Q_HO108, Q_HO112, Q_HO116⟩
      refine steps_cons ?_ ?_
      · rintro b a w' ⟨v103, v107, v111, v115, ha, Q_BK101, Q_HB, Q_HO104, Q_HO108, Q_HO112, Q_HO116⟩ hb_ hon hoff
        refine ⟨_, rfl, fun K hK => ?_⟩
        have e23 : a.tmps[23]? = some (.bool (t109 == t117)) := by rw [ha]; exact putSel_on (e := (17, 23, .bool (t109 == t117))) 13 rfl rfl (hon 17 (by kernel_rfl)) rfl
        have e40 : a.tmps[40]? = some (undef) := by rw [ha]; exact putSel_on (e := (34, 40, undef)) 30 rfl rfl (hon 34 (by kernel_rfl)) rfl
        replace ha := Aside0.mk ha
        have BK101 := Aside0.mk Q_BK101
        have HB := Aside0.mk Q_HB
        have HO104 := Aside0.mk (Q_HO104 (hon 4 (by kernel_rfl)))
        have HO108 := Aside0.mk (Q_HO108 (hon 6 (by kernel_rfl)))
        have HO112 := Aside0.mk (Q_HO112 (hon 12 (by kernel_rfl)))
        have HO116 := Aside0.mk (Q_HO116 (hon 14 (by kernel_rfl)))
        refine value_ (w1 := w') (v := .bool false) (by rfl) rfl ?_ ?_
        · go_simp
          (try simp only [i64_w])
          try rfl
        refine hK.out _ _ ⟨v103, v107, v111, v115, (by rw [ha.out]; exact putSel_upk 31 hb_ rfl rfl rfl), Q_BK101, Q_HB, Q_HO104, Q_HO108, Q_HO112, Q_HO116⟩
      refine steps_cons ?_ ?_
      · rintro b a w' ⟨v103, v107, v111, v115, ha, Q_BK101, Q_HB, Q_HO104, Q_HO108, Q_HO112, Q_HO116⟩ hb_ hon hoff
        refine ⟨_, rfl, fun K hK => ?_⟩
        have e41 : a.tmps[41]? = some (.bool false) := by rw [ha]; exact putSel_on (e := (35, 41, .bool false)) 31 rfl rfl (hon 35 (by kernel_rfl)) rfl
        replace ha := Aside0.mk ha
        have BK101 := Aside0.mk Q_BK101
        have HB := Aside0.mk Q_HB
        have HO104 := Aside0.mk (Q_HO104 (hon 4 (by kernel_rfl)))
        have HO108 := Aside0.mk (Q_HO108 (hon 6 (by kernel_rfl)))
        have HO112 := Aside0.mk (Q_HO112 (hon 12 (by kernel_rfl)))
        have HO116 := Aside0.mk (Q_HO116 (hon 14 (by kernel_rfl)))
        refine value_ (w1 := w') (v := .bool false) (by rfl) rfl ?_ ?_
        · go_simp
          (try simp only [i64_w])
          try rfl
        refine hK.out _ _ ⟨v103, v107, v111, v115, (by rw [ha.out]; exact putSel_upk 32 hb_ rfl rfl rfl), Q_BK101, Q_HB, Q_HO104, Q_HO108, Q_HO112, Q_HO116⟩
      exact steps_nil
    rintro b a w64 hall ⟨v103, v107, v111, v115, ha, Q_BK101, Q_HB, Q_HO104, Q_HO108, Q_HO112, Q_HO116⟩
    clear BK101 HB
    have hb0_ := hall 0 (by kernel_rfl)
    have hb2_ := hall 2 (by kernel_rfl)
    have hb4_ := hall 4 (by kernel_rfl)
    have hb5_ := hall 5 (by kernel_rfl)
    have hb6_ := hall 6 (by kernel_rfl)
    have hb7_ := hall 7 (by kernel_rfl)
    have hb8_ := hall 8 (by kernel_rfl)
    have hb9_ := hall 9 (by kernel_rfl)
    have hb12_ := hall 12 (by kernel_rfl)
    have hb13_ := hall 13 (by kernel_rfl)
    have hb14_ := hall 14 (by kernel_rfl)
    have hb15_ := hall 15 (by kernel_rfl)
    have hb16_ := hall 16 (by kernel_rfl)
    have hb17_ := hall 17 (by kernel_rfl)
    have hb18_ := hall 18 (by kernel_rfl)
    have hb19_ := hall 19 (by kernel_rfl)
    have hb20_ := hall 20 (by kernel_rfl)
    have hb21_ := hall 21 (by kernel_rfl)
    have hb22_ := hall 22 (by kernel_rfl)
    have hb23_ := hall 23 (by kernel_rfl)
    have hb24_ := hall 24 (by kernel_rfl)
    have hb25_ := hall 25 (by kernel_rfl)
    have hb26_ := hall 26 (by kernel_rfl)
    have hb27_ := hall 27 (by kernel_rfl)
    have hb28_ := hall 28 (by kernel_rfl)
    have hb29_ := hall 29 (by kernel_rfl)
    have hb30_ := hall 30 (by kernel_rfl)
    have hb31_ := hall 31 (by kernel_rfl)
    have hb32_ := hall 32 (by kernel_rfl)
    have hb33_ := hall 33 (by kernel_rfl)
    have hb34_ := hall 34 (by kernel_rfl)
    have hb35_ := hall 35 (by kernel_rfl)
    have hb36_ := hall 36 (by kernel_rfl)
    subst ha
    simp only [putSel, hb0_, hb2_, hb4_, hb5_, hb6_, hb7_, hb8_, hb9_, hb12_, hb13_, hb14_, hb15_, hb16_, hb17_, hb18_, hb19_, hb20_, hb21_, hb22_, hb23_, hb24_, hb25_, hb26_, hb27_, hb28_, hb29_, hb30_, hb31_, hb32_, hb33_, hb34_, hb35_, hb36_, if_true, Act.put, List.setIfInBounds_toArray, List.set_cons_zero, List.set_cons_succ]
    have BK101 := Aside0.mk Q_BK101
    clear Q_BK101
    have HB := Aside0.mk Q_HB
    clear Q_HB
    have HO104 := Aside0.mk (Q_HO104 hb4_)
    clear Q_HO104
    have HO108 := Aside0.mk (Q_HO108 hb6_)
    clear Q_HO108
    have HO112 := Aside0.mk (Q_HO112 hb12_)
    clear Q_HO112
    have HO116 := Aside0.mk (Q_HO116 hb14_)
    clear Q_HO116
    clear hall hb0_ hb2_ hb4_ hb5_ hb6_ hb7_ hb8_ hb9_ hb12_ hb13_ hb14_ hb15_ hb16_ hb17_ hb18_ hb19_ hb20_ hb21_ hb22_ hb23_ hb24_ hb25_ hb26_ hb27_ hb28_ hb29_ hb30_ hb31_ hb32_ hb33_ hb34_ hb35_ hb36_
    try go_wp2
    go_ret
    exact ⟨by first | rfl | (simp [errW_none, errW_some] <;> rfl) | (simp [*, errW_none, errW_some] <;> rfl), by repeat (first | (with_reducible first | exact HB.out | apply below_alloc | apply pw_below_drewN | apply below_drew1 | refine below_set ?_ GE101.out) | exact HB.out)⟩
end
end Go.Proofs.Ytbnngmjkoopbmaa.D
