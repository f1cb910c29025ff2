/-
  What the Go functions that FnNames reaches hand back, each as a plain function with a proof that the call does so, and plain lemmas on them. Conditions: those of each theorem.
-/
import Derived.Test.YtkdebjppdhlbgaaGreatDoorCFnNames8
namespace Go.Proofs.YtkdebjppdhlbgaaGreatDoor.E
open Go Go.Proofs
set_option maxRecDepth 100000
set_option linter.unusedVariables false
set_option linter.unusedSimpArgs false
variable {K : Nat} {R : Type}
theorem ba_ext {a b : ByteArray} (h : (a.data.toList == b.data.toList) = true) : a = b := by rw [ba_list a, ba_list b, eq_of_beq h]
theorem name_gen_d : (allNames.all fun t => (nameV (genOf t)).data.toList == t.data.toList) = true := by decide +kernel
theorem name_gen {t : ByteArray} (h : t ∈ allNames) : nameV (genOf t) = t := ba_ext (List.all_eq_true.1 name_gen_d t h)
theorem bf_d : (allNames.all fun t => (genOf t).all fun f => (nameV (genOf ⟨#[66, 70]⟩ ++ [f])).data.toList == [66, 70]) = true := by decide +kernel
theorem bf_all {t : ByteArray} (h : t ∈ allNames) : belowV t ⟨#[66, 70]⟩ = true := by
  rw [belowV, List.all_eq_true]
  intro f hf
  have := List.all_eq_true.1 (List.all_eq_true.1 bf_d t h) f hf
  exact (eql_iff _ _).2 (ba_ext (b := ⟨#[66, 70]⟩) this)
theorem inV_iff {f : DF} {t : ByteArray} : inV f t = true ↔ nameV (genOf t ++ [f]) = t := eql_iff _ _
theorem okL_app {l m : List DF} (h : okL l) (h' : okL m) (hs : l.length + m.length ≤ 40) : okL (l ++ m) :=
  ⟨fun f hf => (List.mem_append.1 hf).elim (h.1 f) (h'.1 f), by rw [List.length_append]; exact hs⟩
theorem below_l {a b : ByteArray} (ha : a ∈ allNames) (hb : b ∈ allNames) (h : belowV a b = true) : ∀ r p : List DF, genOf a = p ++ r → nameV (genOf b ++ p) = b → nameV (genOf b ++ genOf a) = b
  | [], p, e, hp => by rw [e, List.append_nil]; exact hp
  | f :: r, p, e, hp => by
    obtain ⟨a1, a2⟩ := genOf_ok ha
    obtain ⟨b1, b2⟩ := genOf_ok hb
    have hf : f ∈ genOf a := by rw [e]; simp
    have hl : p.length ≤ 5 := by rw [e] at a2; simp at a2; omega
    have hpk : okL p := ⟨fun g hg => a1.1 g (by rw [e]; exact List.mem_append_left _ hg), by omega⟩
    have hfb : nameV (genOf b ++ [f]) = b := inV_iff.1 (List.all_eq_true.1 h f hf)
    refine below_l ha hb h r (p ++ [f]) (by rw [e]; simp) ?_
    rw [← List.append_assoc]
    refine (name_mem (L := genOf b ++ [f]) (Q := genOf b ++ p) (okL_snoc b1 (by omega) (a1.1 f hf)) (okL_app b1 hpk (by omega)) (by simp) (by rw [hfb, hp])).trans hp
theorem below_join {a b : ByteArray} (ha : a ∈ allNames) (hb : b ∈ allNames) (h : belowV a b = true) : nameV (genOf b ++ genOf a) = b :=
  below_l ha hb h _ [] rfl (by rw [List.append_nil]; exact name_gen hb)
theorem least_go (c : Nat) : ∀ (m : List DF) (a : Nat), a ≤ 9 → m.foldl (fun a f => min a (pD c f)) a = min a (m.foldl (fun a f => min a (pD c f)) 9)
  | [], a, h => by show a = min a 9; omega
  | f :: m, a, h => by
    rw [List.foldl_cons, List.foldl_cons, least_go c m (min a (pD c f)) (by omega), least_go c m (min 9 (pD c f)) (by omega)]; omega
theorem least_app (c : Nat) (l m : List DF) : leastD c (l ++ m) = min (leastD c l) (leastD c m) := by
  rw [leastD, List.foldl_append]; exact least_go c m _ (leastD_le c l)
theorem nameV_comm (l m : List DF) : nameV (l ++ m) = nameV (m ++ l) := by
  have e : ∀ c : DF → Bool, (l ++ m).all c = (m ++ l).all c := fun c => by rw [List.all_append, List.all_append, Bool.and_comm]
  have e2 : ∀ c, leastD c (l ++ m) = leastD c (m ++ l) := fun c => by rw [least_app, least_app, Nat.min_comm]
  simp only [nameV, e, e2]
/-- What is below each other is the same. -/
theorem below_anti {a b : ByteArray} (ha : a ∈ allNames) (hb : b ∈ allNames) (h : belowV a b = true) (h' : belowV b a = true) : a = b := by
  rw [← below_join hb ha h', nameV_comm]; exact below_join ha hb h
theorem four_in {z o : Bool} {a b c d : ByteArray} (h1 : a ∈ allNames) (h2 : b ∈ allNames) (h3 : c ∈ allNames) (h4 : d ∈ allNames) : four z o a b c d ∈ allNames := by
  unfold four
  split
  · exact h1
  · split
    · exact h2
    · split
      · exact h3
      · exact h4
theorem sep_in_d : ([(48 : UInt8), 49].all fun x => [true, false].all fun k => [true, false].all fun m => [2, 3, 9].all fun p => allNames.any fun b => b.data.toList == sepKey x k m p) = true := by decide +kernel
theorem bool_mem (b : Bool) : b ∈ [true, false] := by cases b <;> simp
theorem sep_in {x : UInt8} (hx : x ∈ [(48 : UInt8), 49]) (k m : Bool) {p : Nat} (hp : p ∈ [2, 3, 9]) : sepN x k m p ∈ allNames :=
  mem_of (List.all_eq_true.1 (List.all_eq_true.1 (List.all_eq_true.1 (List.all_eq_true.1 sep_in_d x hx) k (bool_mem k)) m (bool_mem m)) p hp)
theorem in_deg {p : Nat} (h : p ≤ 3 ∨ p = 9) (h2 : decide (2 ≤ p) = true) : p ∈ [2, 3, 9] := by
  have h2 := of_decide_eq_true h2
  have : p = 2 ∨ p = 3 ∨ p = 9 := by omega
  rcases this with h | h | h <;> subst h <;> decide
theorem nm_in {x : PV} (h : okV x) : nmV x ∈ allNames := by
  rw [nm_tree]
  unfold pvtI; split
  · exact four_in (mem_of (by decide +kernel)) (mem_of (by decide +kernel)) (mem_of (by decide +kernel)) (mem_of (by decide +kernel))
  unfold pvtN; split
  · unfold pvlN; split <;> exact mem_of (by decide +kernel)
  unfold pvtV; split
  · exact four_in (mem_of (by decide +kernel)) (mem_of (by decide +kernel)) (mem_of (by decide +kernel)) (mem_of (by decide +kernel))
  unfold pvtE; split
  · exact four_in (mem_of (by decide +kernel)) (mem_of (by decide +kernel)) (mem_of (by decide +kernel)) (mem_of (by decide +kernel))
  unfold pvtA; split
  · unfold pvlA
    split
    · exact mem_of (by decide +kernel)
    split
    · exact mem_of (by decide +kernel)
    split
    · exact mem_of (by decide +kernel)
    split <;> exact mem_of (by decide +kernel)
  unfold pvtD; split
  · unfold pvlD
    split
    · exact mem_of (by decide +kernel)
    split <;> exact mem_of (by decide +kernel)
  unfold pvtP; split
  · rename_i h2; exact sep_in (by decide) _ _ (in_deg h.1 h2)
  unfold pvtQ; split
  · rename_i h2; exact sep_in (by decide) _ _ (in_deg h.2 h2)
  unfold pvtM; split
  · exact four_in (mem_of (by decide +kernel)) (mem_of (by decide +kernel)) (mem_of (by decide +kernel)) (mem_of (by decide +kernel))
  unfold pvtR
  exact four_in (mem_of (by decide +kernel)) (mem_of (by decide +kernel)) (mem_of (by decide +kernel)) (mem_of (by decide +kernel))
theorem name_in {l : List DF} (h : okL l) : nameV l ∈ allNames := nm_in (vec_ok h)
/-- Members of a list are in the clone that is named by it. -/
theorem mem_in {l : List DF} {f : DF} (h : okL l) (hf : f ∈ l) : inV f (nameV l) = true := by
  have hn := name_in h
  obtain ⟨h1, _⟩ := genOf_ok hn
  exact inV_iff.2 ((name_mem h h1 hf (name_gen hn).symm).trans (name_gen hn))
noncomputable def dualOf (t : ByteArray) : ByteArray := ((i_DualName 9223372036854775808 (t, ())).getD (ByteArray.empty, 0, ())).1
theorem dual_d : (allNames.all fun t => ((i_DualName 9223372036854775808 (t, ())).any fun y => y.2.1 == 0 && ((s_DualName 9223372036854775808 (t, ())).any fun z => z.1.data.toList == y.1.data.toList && z.2.1 == 0)
    && ((i_DualName 9223372036854775808 (y.1, ())).any fun z => z.1.data.toList == t.data.toList && z.2.1 == 0))) = true := by decide +kernel
theorem any_some {α : Type} {o : Option α} {p : α → Bool} (h : o.any p = true) : ∃ y, o = some y ∧ p y = true := by
  cases o with
  | none => cases h
  | some y => exact ⟨y, rfl, h⟩
theorem dual_t {t : ByteArray} (h : t ∈ allNames) : i_DualName 9223372036854775808 (t, ()) = some (dualOf t, 0, ()) ∧ s_DualName 9223372036854775808 (t, ()) = some (dualOf t, 0, ()) ∧ i_DualName 9223372036854775808 (dualOf t, ()) = some (t, 0, ()) := by
  obtain ⟨⟨y1, y2, u⟩, e, h1⟩ := any_some (List.all_eq_true.1 dual_d t h)
  rw [Bool.and_eq_true, Bool.and_eq_true] at h1
  obtain ⟨⟨h1, h2⟩, h3⟩ := h1
  obtain ⟨⟨z1, z2, u'⟩, e', h2⟩ := any_some h2
  obtain ⟨⟨v1, v2, u''⟩, e'', h3⟩ := any_some h3
  rw [Bool.and_eq_true] at h2 h3
  have h1 : y2 = 0 := eq_of_beq h1
  have h2' : z2 = 0 := eq_of_beq h2.2
  have h3' : v2 = 0 := eq_of_beq h3.2
  have hd : dualOf t = y1 := by rw [dualOf, e]; rfl
  have hz : z1 = y1 := ba_ext h2.1
  have hv : v1 = t := ba_ext h3.1
  subst h1 h2' h3' hz hv
  rw [hd]
  exact ⟨e, e', e''⟩
theorem dual_f {t : ByteArray} (h : t ∉ allNames) (hs : t.size < 4611686018427387904) : i_DualName 9223372036854775808 (t, ()) = some (⟨#[]⟩, 6, ()) ∧ s_DualName 9223372036854775808 (t, ()) = some (⟨#[]⟩, 6, ()) := by
  simp only [s_DualName, i_DualName, gen_not h hs, i_gen_not (K := 9223372036854775808) h (by decide), some_bind']
  exact ⟨rfl, rfl⟩
theorem size_d : ((badNames ++ allNames).all fun t => decide (t.size ≤ 10)) = true := by decide +kernel
theorem size_ok {t : ByteArray} (h : t ∈ badNames ++ allNames) : t.size < 4611686018427387904 := by
  have := of_decide_eq_true (List.all_eq_true.1 size_d t h); omega
theorem genl_d : (allNames.all fun t => decide (0 < (genOf t).length)) = true := by decide +kernel
theorem DrawCN_ok {code : List Int} (h : okCode code) : Okf (s_DrawCloneName 9223372036854775808 (code, ())) (fun l => l.length ≤ 10) := by
  simp only [s_DrawCloneName]
  exact (from_ok h.1 h.2 (by decide)).bind fun y1 h1 => (drawList_ok h1).bind fun y2 h2 => Okf.ret h2.2
theorem DrawGO_ok {code : List Int} (h : okCode code) : Okf (s_DrawGeneratorsOf 9223372036854775808 (code, ())) (fun t => t ∈ badNames ++ allNames) := by
  simp only [s_DrawGeneratorsOf]
  exact (from_ok h.1 h.2 (by decide)).bind fun y1 h1 => (drawName_ok h1).bind fun y2 h2 => Okf.ret h2.2
theorem DrawDN_ok {code : List Int} (h : okCode code) : Okf (s_DrawDualName 9223372036854775808 (code, ())) (fun t => t ∈ badNames ++ allNames) := by
  simp only [s_DrawDualName]
  exact (from_ok h.1 h.2 (by decide)).bind fun y1 h1 => (drawName_ok h1).bind fun y2 h2 => Okf.ret h2.2
theorem DrawBE_ok {code : List Int} (h : okCode code) : Okf (s_DrawIsBelow 9223372036854775808 (code, ())) (fun y => y.1 ∈ badNames ++ allNames ∧ y.2.1 ∈ badNames ++ allNames) := by
  simp only [s_DrawIsBelow]
  exact (from_ok h.1 h.2 (by decide)).bind fun y1 h1 => (drawName_ok h1).bind fun y2 h2 => (drawName_ok h2.1).bind fun y3 h3 => Okf.ret ⟨h2.2, h3.2⟩
theorem DrawIN_ok {code : List Int} (h : okCode code) : Okf (s_DrawIsInNamed 9223372036854775808 (code, ())) (fun y => y.2.1 ∈ badNames ++ allNames) := by
  simp only [s_DrawIsInNamed, s_DrawIsInNamed_j5, gN_eq]
  refine (from_ok h.1 h.2 (by decide)).bind fun y1 h1 => (drawName_ok h1).bind fun y2 h2 => ?_
  by_cases hn : y2.1.1 ∈ allNames
  · obtain ⟨_, h3, _⟩ := gens_all _ hn
    have hl := of_decide_eq_true (List.all_eq_true.1 genl_d _ hn)
    rw [h3, some_bind']
    refine Okf.ite (fun _ => ?_) (fun h => by cases h)
    refine (next_ok 4 h2.1).bind fun y4 h4 => Okf.ite (fun _ => ?_) (fun _ => ?_)
    · refine (next_ok _ h4.1).bind fun y5 h5 => ?_
      have hr := h5.2.1 (by show (0 : Int) < ((genOf y2.1.1).length : Int); omega)
      rw [ite_t (bnds_t hr.1 hr.2)]
      exact Okf.ret h2.2
    · exact (drawIn_ok h4.1 (by decide)).bind fun y8 h8 => Okf.ret h2.2
  · rw [gen_not hn (size_ok h2.2), some_bind']
    refine Okf.ite (fun h => by cases h) (fun _ => ?_)
    exact (drawIn_ok h2.1 (by decide)).bind fun y9 h9 => Okf.ret h2.2
def cnV (l : List DF) : ByteArray × Int × Unit := if codeV l = 0 then (nameV l, 0, ()) else (⟨#[]⟩, codeV l, ())
noncomputable def goV (t : ByteArray) : List DF × Int × Unit := if inN t = true then (genOf t, 0, ()) else ([], 6, ())
noncomputable def beV (a b : ByteArray) : Bool × Int × Unit := if (inN a && inN b) = true then (belowV a b, 0, ()) else (false, 6, ())
noncomputable def duV (t : ByteArray) : ByteArray × Int × Unit := if inN t = true then (dualOf t, 0, ()) else (⟨#[]⟩, 6, ())
theorem inN_mem {t : ByteArray} (h : inN t = true) : t ∈ allNames := mem_of h
theorem i_GO_eq (t : ByteArray) : i_GeneratorsOf 9223372036854775808 (t, ()) = some (goV t) := by
  simp only [i_GeneratorsOf, goV]
  by_cases h : t ∈ allNames
  · rw [(gens_all t h).1, some_bind', inN_t h]; rfl
  · rw [i_gen_not h (by decide), some_bind', inN_f h]; rfl
theorem s_GO_eq {t : ByteArray} (hs : t.size < 4611686018427387904) : s_GeneratorsOf 9223372036854775808 (t, ()) = some (goV t) := by
  simp only [s_GeneratorsOf, goV]
  by_cases h : t ∈ allNames
  · rw [(gens_all t h).2.1, some_bind', inN_t h]; rfl
  · rw [gen_not h hs, some_bind', inN_f h]; rfl
theorem i_DN_eq {t : ByteArray} (hs : t.size < 4611686018427387904) : i_DualName 9223372036854775808 (t, ()) = some (duV t) := by
  unfold duV
  by_cases h : t ∈ allNames
  · rw [(dual_t h).1, inN_t h]; rfl
  · rw [(dual_f h hs).1, inN_f h]; rfl
theorem s_DN_eq {t : ByteArray} (hs : t.size < 4611686018427387904) : s_DualName 9223372036854775808 (t, ()) = some (duV t) := by
  unfold duV
  by_cases h : t ∈ allNames
  · rw [(dual_t h).2.1, inN_t h]; rfl
  · rw [(dual_f h hs).2, inN_f h]; rfl
theorem funcs9_self {l : List DF} (hl : l.length < 4611686018427387904) (hK : 4611686018427387904 ≤ K) : w_funcs9 K (l, l, ()) = some true := by
  simp only [w_funcs9]
  rw [ite_f (by simp)]
  refine (lpLA (l := l) (L := fun k i => w_funcs9_l4 K k l l i (some true) (fun z2 => some z2)) (g := fun _ => true) (B := 0) (kx := some true) (kf := some false) (fun k => ?_) (fun k p y r e _ => ?_) l [] K rfl (by omega)).trans ?_
  · simp only [w_funcs9_l4]; rw [ite_f (decide_eq_false (by omega))]
  · subst e
    simp only [w_funcs9_l4]
    rw [ite_t lt_len, ite_t bnds_mid, ite_t bnds_mid, getD_midI, next_i hl, ite_f (by simp [eqD]), if_pos trivial]
  · simp
theorem names_size {t : ByteArray} (h : t ∈ allNames) : t.size < 4611686018427387904 := size_ok (List.mem_append.2 (Or.inr h))
theorem nm_j41 {l : List DF} (hl : l.length ≤ 10) (kn : Option R) (kr : Bool → Option R) : w_FnNames_j41 9223372036854775808 9223372036854775808 l (cnV l).1 (cnV l).2.1 kn kr = kr true := by
  rw [w_FnNames_j41]
  by_cases h : codeV l = 0
  · have e : cnV l = (nameV l, 0, ()) := if_pos h
    obtain ⟨ok, h8⟩ := okL_of_code h
    have hn := name_in ok
    rw [e, ite_f (by rfl)]
    refine (lpLA (l := l) (L := fun k i => w_FnNames_l44 9223372036854775808 k l (nameV l) i (kr true) (fun z23 => kr z23)) (g := fun _ => true) (B := 0) (kx := kr true) (kf := kr false) (fun k => ?_) (fun k p y r e _ => ?_) l [] 9223372036854775808 rfl (by omega)).trans ?_
    · simp only [w_FnNames_l44]; rw [ite_f (decide_eq_false (by omega))]
    · have hy := mem_mid e
      have hw : IntKind.i64.wrap ((p.length : Int) + 1) = (((p ++ [y]).length : Nat) : Int) := by rw [snoc_len']; exact w64s (by rw [e] at hl; simp at hl; omega)
      simp only [w_FnNames_l44]
      rw [ite_t (by rw [e]; exact lt_len), ite_t (by rw [e]; exact bnds_mid), show l.getD ((p.length : Nat) : Int).toNat ((0 : Int), (0 : Int), ()) = y by rw [e]; exact getD_midI p r _ _, i_IsInNamed_eq _ (names_size hn), some_bind',
        if_pos (ok.1 y hy), inN_t hn, if_pos rfl, mem_in ok hy, hw]
      rfl
    · simp
  · have e : cnV l = (⟨#[]⟩, codeV l, ()) := if_neg h
    rw [e, ite_t (by simp [h])]
    show kr (cmpS .eql ⟨#[]⟩ ⟨#[]⟩) = kr true
    rw [(eql_iff _ _).2 rfl]
theorem codeV_gen {t : ByteArray} (h : t ∈ allNames) : codeV (genOf t) = 0 := by
  obtain ⟨h1, h2⟩ := genOf_ok h
  rw [codeV, if_pos (List.all_eq_true.2 h1.1), if_neg (by omega)]
theorem nm_j37 {l : List DF} (hl : l.length ≤ 10) (t : ByteArray) (kn : Option R) (kr : Bool → Option R) : w_FnNames_j37 9223372036854775808 9223372036854775808 l (cnV l).1 (cnV l).2.1 t (goV t).1 (goV t).2.1 kn kr = kr true := by
  rw [w_FnNames_j37]
  by_cases h : t ∈ allNames
  · have e : goV t = (genOf t, 0, ()) := by rw [goV, inN_t h]; rfl
    obtain ⟨h1, h2⟩ := genOf_ok h
    rw [e, ite_t (by rfl), i_CloneName_eq (show (genOf t).length < _ by omega) (by decide), some_bind', if_pos (codeV_gen h), name_gen h, ite_f (by rfl), ite_f (neq_self t), nm_j41 hl]
  · have e : goV t = ([], 6, ()) := by rw [goV, inN_f h]; rfl
    rw [e, ite_f (by rfl), nm_j41 hl]
theorem bf_in : (⟨#[66, 70]⟩ : ByteArray) ∈ allNames := mem_of (by decide +kernel)
theorem nm_j32 {l : List DF} (hl : l.length ≤ 10) (t : ByteArray) {a b : ByteArray} (ha : a.size < 4611686018427387904) (hb : b.size < 4611686018427387904) (kn : Option R) (kr : Bool → Option R) :
    w_FnNames_j32 9223372036854775808 9223372036854775808 l (cnV l).1 (cnV l).2.1 t (goV t).1 (goV t).2.1 a b (beV a b).1 (beV a b).2.1 kn kr = kr true := by
  rw [w_FnNames_j32]
  cases h : inN a && inN b
  · have e : beV a b = (false, 6, ()) := by rw [beV, h]; rfl
    rw [e, ite_f (by rfl), nm_j37 hl]
  · have e : beV a b = (belowV a b, 0, ()) := by rw [beV, h]; rfl
    rw [Bool.and_eq_true] at h
    have hA := inN_mem h.1
    have hB := inN_mem h.2
    rw [e, ite_t (by rfl), i_IsBelow_eq hb ha, some_bind', i_IsBelow_eq ha (names_size bf_in), some_bind', h.1, h.2, inN_t bf_in, bf_all hA]
    rw [ite_f (by rfl)]
    cases h1 : belowV a b
    · rw [ite_f (by rfl), ite_f (by rfl), ite_f (by rfl), nm_j37 hl]
    · rw [ite_t (by rfl)]
      cases h2 : belowV b a
      · rw [ite_f (by rfl), ite_f (by rfl), ite_f (by rfl), nm_j37 hl]
      · have hab := below_anti hA hB h1 h2
        subst hab
        rw [ite_t (by rfl), ite_f (neq_self a), ite_f (by rfl), ite_f (by rfl), nm_j37 hl]
theorem nm_j28 {l : List DF} (hl : l.length ≤ 10) (t : ByteArray) {a b g : ByteArray} (ha : a.size < 4611686018427387904) (hb : b.size < 4611686018427387904) (kn : Option R) (kr : Bool → Option R) :
    w_FnNames_j28 9223372036854775808 9223372036854775808 l (cnV l).1 (cnV l).2.1 t (goV t).1 (goV t).2.1 a b (beV a b).1 (beV a b).2.1 g (duV g).1 (duV g).2.1 kn kr = kr true := by
  rw [w_FnNames_j28]
  by_cases h : g ∈ allNames
  · have e : duV g = (dualOf g, 0, ()) := by rw [duV, inN_t h]; rfl
    rw [e, ite_t (by rfl), (dual_t h).2.2, some_bind', ite_f (by rfl), ite_f (neq_self g), nm_j32 hl t ha hb]
  · have e : duV g = (⟨#[]⟩, 6, ()) := by rw [duV, inN_f h]; rfl
    rw [e, ite_f (by rfl), nm_j32 hl t ha hb]
theorem law_Names {code : List Int} (hb : ∀ b ∈ code, 0 ≤ b ∧ b < 256) : w_FnNames 9223372036854775808 (code, ()) = some true := by
  simp only [w_FnNames, w_big, some_bind']
  by_cases hl : (code.length : Int) > 4096
  · rw [ite_t (decide_eq_true hl)]
  · rw [ite_f (decide_eq_false hl)]
    have hc : okCode code := ⟨by omega, hb⟩
    obtain ⟨l, e2, h2⟩ := DrawCN_ok hc
    obtain ⟨t, e5, h5⟩ := DrawGO_ok hc
    obtain ⟨y9, e9, h9⟩ := DrawIN_ok hc
    obtain ⟨y12, e12, h12⟩ := DrawBE_ok hc
    obtain ⟨g, e15, h15⟩ := DrawDN_ok hc
    have i1 : i_CloneName 9223372036854775808 (l, ()) = some (cnV l) := i_CloneName_eq (by omega) (by decide)
    have s1 : s_CloneName 9223372036854775808 (l, ()) = some (cnV l) := s_CloneName_eq (by omega) (by decide)
    have hg : (goV t).1.length < 4611686018427387904 := by
      unfold goV
      split
      · rename_i h; have := (genOf_ok (inN_mem h)).2; show (genOf t).length < _; omega
      · decide
    have i4 : i_IsBelow 9223372036854775808 (y12.1, y12.2.1, ()) = some (beV y12.1 y12.2.1) := i_IsBelow_eq (size_ok h12.1) (size_ok h12.2)
    have s4 : s_IsBelow 9223372036854775808 (y12.1, y12.2.1, ()) = some (beV y12.1 y12.2.1) := s_IsBelow_eq (size_ok h12.1) (size_ok h12.2)
    rw [e2, some_bind', i1, some_bind', s1, some_bind', ite_f (by simp), ite_f (neq_self _), w_FnNames_j8, e5, some_bind', i_GO_eq, some_bind', s_GO_eq (size_ok h5), some_bind', ite_f (by simp), funcs9_self hg (by decide), some_bind', ite_f (by rfl)]
    rw [w_FnNames_j13, e9, some_bind', i_IsInNamed_eq _ (size_ok h9), some_bind', s_IsInNamed_eq _ (size_ok h9), some_bind', ite_f (by simp), ite_f (by simp)]
    rw [w_FnNames_j18, e12, some_bind', i4, some_bind', s4, some_bind', ite_f (by simp), ite_f (by simp)]
    rw [w_FnNames_j23, e15, some_bind', i_DN_eq (size_ok h15), some_bind', s_DN_eq (size_ok h15), some_bind', ite_f (by simp), ite_f (neq_self _), nm_j28 h2 t (size_ok h12.1) (size_ok h12.2)]
end Go.Proofs.YtkdebjppdhlbgaaGreatDoor.E
namespace Go.Proofs.YtkdebjppdhlbgaaGreatDoor.E
open Go Go.Proofs
/-- FnNames, in plain numbers and lists: no condition but what is known of all data. -/
theorem PuFnNames (x : den as_w_FnNames) (h : okD as_w_FnNames x) : ∃ K, w_FnNames K x = some true := by
  obtain ⟨code, u⟩ := x
  exact ⟨9223372036854775808, law_Names fun b hb => by
    have h1 := bounds_u8 (h.1.2 b hb)
    exact ⟨h1.1, Int.lt_of_le_of_lt h1.2 (by decide)⟩⟩
end Go.Proofs.YtkdebjppdhlbgaaGreatDoor.E
