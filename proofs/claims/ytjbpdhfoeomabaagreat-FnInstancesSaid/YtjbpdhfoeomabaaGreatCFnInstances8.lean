/-
  What the Go functions that FnInstances reaches hand back, each as a plain function with a proof that the call does so, and plain lemmas on them. Conditions: those of each theorem.
-/
import Derived.Test.YtjbpdhfoeomabaaGreatCFnInstances7
namespace Go.Proofs.YtjbpdhfoeomabaaGreat.E
open Go Go.Proofs
/-- FnInstances, in plain numbers and lists: no condition but what is known of all data. -/
theorem PuFnInstances (x : den as_w_FnInstances) (h : okD as_w_FnInstances x) : ∃ K, w_FnInstances K x = some true := by
  obtain ⟨code, u⟩ := x
  exact ⟨BK, law_FnInstances fun b hb => by
    have h1 := bounds_u8 (h.1.2 b hb)
    exact ⟨h1.1, Int.lt_of_le_of_lt h1.2 (by decide)⟩⟩
end Go.Proofs.YtjbpdhfoeomabaaGreat.E
