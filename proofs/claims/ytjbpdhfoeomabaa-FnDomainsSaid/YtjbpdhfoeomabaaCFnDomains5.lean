/-
  A function's contract by shapes, out of its code and the evaluator's run of it. Conditions: those of each theorem.
-/
import Derived.Test.YtjbpdhfoeomabaaCFnDomains4
namespace Go.Proofs.Ytjbpdhfoeomabaa.E
open Go Go.RowKit
set_option linter.unusedVariables false
set_option linter.unusedSimpArgs false
section
variable {C : Cx} {cf : Cfg} {st st' : St} {a : Act} {w w' : World} {G G' : Gh} {us : U}
theorem kcan_fit : ∀ (sh : Shp) (d : Nat), sh.okI = true → KFit sh (kcan sh d).1 ∧ ∀ p ∈ (kcan sh d).1.ids, p.2 = 1
  | .v T, d, _ => ⟨trivial, fun p hp => (by cases hp)⟩
  | .r e, d, _ => ⟨trivial, fun p hp => by simp only [kcan, KS.ids, List.mem_singleton] at hp; rw [hp]⟩
  | .bx c, d, h => by cases h
  | .unit, d, _ => ⟨trivial, fun p hp => (by cases hp)⟩
  | .pair a b, d, h => by
    simp only [Shp.okI, Bool.and_eq_true] at h
    obtain ⟨h1, h2⟩ := kcan_fit a d h.1
    obtain ⟨h3, h4⟩ := kcan_fit b (kcan a d).2 h.2
    exact ⟨⟨h1, h3⟩, fun p hp => (List.mem_append.1 hp).elim (h2 p) (h4 p)⟩
  | .st a, d, h => kcan_fit a d h
theorem kzL_fit : ∀ (l : Lv) {vs : List Value}, (l.all fun z => z.2.okO) = true → vs.length = l.length → FitL st0 G l (kzL l) vs
  | [], vs, _, hv => by rw [List.length_eq_zero_iff.1 hv]; trivial
  | (i, sh) :: l, [], _, hv => by simp at hv
  | (i, sh) :: l, v :: vs, h, hv => by
    simp only [List.all_cons, Bool.and_eq_true] at h
    have ih := kzL_fit l (vs := vs) h.2 (by simpa using hv)
    have g0 : ∀ k, (st0 k).gen = 0 := fun k => rfl
    cases sh with
    | bx c =>
      obtain ⟨h1, h2⟩ := kcan_fit c (8 * i + 1) h.1
      exact ⟨h1, fun p hp => by rw [h2 p hp]; exact Nat.zero_lt_one, .inl Nat.zero_lt_one, ih⟩
    | _ =>
      have hI := h.1
      simp only [Shp.okO, Bool.and_eq_true] at hI
      obtain ⟨h1, h2⟩ := kcan_fit _ (8 * i) hI.1
      exact ⟨h1, fun p hp => by rw [h2 p hp]; exact Nat.zero_lt_one, ih⟩
theorem putS_keys : ∀ (sh : Shp) (k : KS) (x : den sh.ty), KFit sh k → (putS sh k x).2.map (·.1) = k.keys
  | .v T, k, x, h => by cases k <;> first | rfl | exact h.elim
  | .r e, k, x, h => by cases k <;> first | rfl | exact h.elim
  | .bx c, k, x, h => by cases k <;> exact h.elim
  | .unit, k, x, h => by cases k <;> first | rfl | exact h.elim
  | .pair a b, k, x, h => by
    cases k <;> try exact h.elim
    rename_i k1 k2
    show ((putS a k1 x.1).2 ++ (putS b k2 x.2).2).map (·.1) = _
    rw [List.map_append, putS_keys a k1 x.1 h.1, putS_keys b k2 x.2 h.2]; rfl
  | .st a, k, x, h => by
    cases k <;> try exact h.elim
    rename_i k1
    exact putS_keys a k1 x h
theorem putL_keys : ∀ (l : Lv) (ks : List (Nat × Nat × KS)) (x : den l.ty) {vs : List Value}, FitL st G l ks vs → (putL l ks x).2.map (·.1) = keysL l ks
  | [], [], x, vs, h => rfl
  | [], _ :: _, x, vs, h => rfl
  | (i, sh) :: l, [], x, vs, h => by cases sh <;> cases vs <;> exact h.elim
  | (i, sh) :: l, k :: ks, x, [], h => by cases sh <;> exact h.elim
  | (i, sh) :: l, (b, g, k) :: ks, x, v :: vs, h => by
    cases sh with
    | bx c =>
      show ((bk b, _) :: (putS c k x.1).2 ++ (putL l ks x.2).2).map (·.1) = _
      rw [List.map_append, List.map_cons, putS_keys c k x.1 h.1, putL_keys l ks x.2 h.2.2.2]; rfl
    | v T =>
      show ((putS _ k x.1).2 ++ (putL l ks x.2).2).map (·.1) = _
      rw [List.map_append, putS_keys _ k x.1 h.1, putL_keys l ks x.2 h.2.2]; rfl
    | r T =>
      show ((putS _ k x.1).2 ++ (putL l ks x.2).2).map (·.1) = _
      rw [List.map_append, putS_keys _ k x.1 h.1, putL_keys l ks x.2 h.2.2]; rfl
    | unit =>
      show ((putS _ k x.1).2 ++ (putL l ks x.2).2).map (·.1) = _
      rw [List.map_append, putS_keys _ k x.1 h.1, putL_keys l ks x.2 h.2.2]; rfl
    | pair A B =>
      show ((putS _ k x.1).2 ++ (putL l ks x.2).2).map (·.1) = _
      rw [List.map_append, putS_keys _ k x.1 h.1, putL_keys l ks x.2 h.2.2]; rfl
    | st A =>
      show ((putS _ k x.1).2 ++ (putL l ks x.2).2).map (·.1) = _
      rw [List.map_append, putS_keys _ k x.1 h.1, putL_keys l ks x.2 h.2.2]; rfl
/-- The slots of the parameters. -/
theorem slots_sw {P : Program} {S : Nat → Prop} : ∀ (l : Lv) (v : SV) {vs : List Value} (i0 : Nat), idxs i0 l = true → SX P st G w S v true vs → ∀ z ∈ slotsU l v, ∃ j v', z = (sk (i0 + j), .sv v') ∧ j < vs.length ∧ SW P st G w S v' (vs.getD j undef)
  | [], v, vs, i0, _, _, z, hz => by cases v <;> cases hz
  | (i, sh) :: l, v, vs, i0, hi, h, z, hz => by
    cases v with
    | pair a b =>
      obtain ⟨c, r, rfl, h1, h2⟩ := h
      simp only [idxs, Bool.and_eq_true] at hi
      have hi0 := Nat.eq_of_beq_eq_true hi.1
      subst hi0
      rcases List.mem_cons.1 hz with hz | hz
      · refine ⟨0, a, hz, by simp, ?_⟩
        show SW P st G w S a (valS a c)
        cases a <;> first | exact ⟨c, rfl, h1⟩ | exact h1.elim
      · obtain ⟨j, v', k1, k2, k3⟩ := slots_sw l b (i + 1) hi.2 h2 z hz
        refine ⟨j + 1, v', by rw [k1]; congr 2; omega, by simpa using k2, by simpa using k3⟩
    | _ => cases hz
theorem slots_keys : ∀ (l : Lv) (v : SV) (i0 : Nat), idxs i0 l = true → ((slotsU l v).map (·.1)).Nodup ∧ ∀ z ∈ slotsU l v, ∃ j v', z = (sk j, .sv v') ∧ i0 ≤ j
  | [], v, i0, _ => by cases v <;> exact ⟨List.nodup_nil, fun z hz => (by cases hz)⟩
  | (i, sh) :: l, v, i0, hi => by
    cases v with
    | pair a b =>
      simp only [idxs, Bool.and_eq_true] at hi
      have hi0 := Nat.eq_of_beq_eq_true hi.1
      subst hi0
      obtain ⟨h1, h2⟩ := slots_keys l b (i + 1) hi.2
      refine ⟨?_, fun z hz => ?_⟩
      · show (sk i :: (slotsU l b).map (·.1)).Nodup
        rw [List.nodup_cons]
        refine ⟨fun hm => ?_, h1⟩
        obtain ⟨z, hz, e⟩ := List.mem_map.1 hm
        obtain ⟨j, v', e2, hj⟩ := h2 z hz
        rw [e2] at e
        have := sk_inj e
        omega
      · rcases List.mem_cons.1 hz with hz | hz
        · exact ⟨i, a, hz, Nat.le_refl _⟩
        · obtain ⟨j, v', k1, k2⟩ := h2 z hz
          exact ⟨j, v', k1, by omega⟩
    | _ => exact ⟨List.nodup_nil, fun z hz => (by cases hz)⟩
theorem entry_invS {P : Program} {ps : Lv} {vals : List Value} {x : den ps.ty} {bs : List Nat} {S : Nat → Prop} {pr nt : Nat} (h : XL P ps w S vals x bs) (hn : bs.Nodup) (hS : ∀ b, S b → b < w.heap.size ∧ b ∉ bs) (hbs : ∀ b ∈ bs, b < w.heap.size) (hok : entSB ps = true) (hlen : ps.length ≤ nt) (hpr : pr ≤ ps.length) :
    ∃ G, Inv ⟨P, w, bs, vals, pr, nt, fun b => S b ∨ w.heap.size ≤ b ∨ b ∈ bs⟩ (entSt ps x) { tmps := vals.toArray ++ Array.replicate (nt - vals.toArray.size) undef, defers := [] } w G := by
  simp only [entSB, Bool.and_eq_true, nodupB_iff] at hok
  obtain ⟨⟨hi, hO⟩, hkn⟩ := hok
  have hvl := XL_len _ h
  let G0 : Gh := ⟨fun _ => undef, fun _ => [], fun _ => 0, fun b => S b ∨ w.heap.size ≤ b ∨ b ∈ bs⟩
  have hfit := kzL_fit (G := G0) ps (vs := vals) hO hvl
  obtain ⟨ge, K⟩ := putL_ok (st := st0) (G := G0) (fun b hb => (hS b hb).1) ps (kzL ps) x hfit h
  have hke := putL_keys ps (kzL ps) x hfit
  have hkn : ((putL ps (kzL ps) x).2.map (·.1)).Nodup := by rw [hke]; exact hkn
  have hkg : (ge.map (·.1)).Nodup := K.keys ▸ hkn
  obtain ⟨hsn, hsk⟩ := slots_keys ps (putL ps (kzL ps) x).1 0 hi
  have bn : (ge.flatMap (·.2.2)).Nodup := K.bls ▸ hn
  let G : Gh := ⟨fun k => match ge.lookup k with | some q => q.1 | none => undef, fun k => match ge.lookup k with | some q => q.2 | none => [], fun k => match ge.lookup k with | some q => q.2.headD 0 | none => 0, fun b => S b ∨ w.heap.size ≤ b ∨ b ∈ bs⟩
  have hga : GA G ge := fun q hq => by
    have := lkp_mem ge hkg (show (q.1, q.2) ∈ ge from hq)
    refine ⟨?_, ?_, ?_⟩
    · show (match ge.lookup q.1 with | some q => q.1 | none => undef) = _; rw [this]
    · show (match ge.lookup q.1 with | some q => q.2 | none => []) = _; rw [this]
    · show (match ge.lookup q.1 with | some q => q.2.headD 0 | none => 0) = _; rw [this]
  have hin : ∀ z ∈ (putL ps (kzL ps) x).2, entSt ps x z.1 = z.2 := fun z hz => upds_in _ _ hkn (by simpa using hz)
  have hcell : ∀ z ∈ (putL ps (kzL ps) x).2, ∀ i, z.1 ≠ sk i := fun z hz i e => by
    obtain ⟨q, _, _, ⟨t, _, _, _, h1, _⟩ | ⟨b, _, _, _, _, _, _, h1, _⟩⟩ := K.cell z hz
    · rw [h1] at e; exact sk_ne_rk _ _ e.symm
    · rw [h1] at e; exact sk_ne_bk _ _ e.symm
  have hslot : ∀ i, entSt ps x (sk i) = upds st0 (slotsU ps (putL ps (kzL ps) x).1) (sk i) := fun i => upds_out _ _ _ fun p hp e => hcell p hp i e
  have hout : ∀ k, (∀ i, k ≠ sk i) → k ∉ (putL ps (kzL ps) x).2.map (·.1) → entSt ps x k = .none := fun k h1 h2 => by
    have e1 : entSt ps x k = upds st0 (slotsU ps (putL ps (kzL ps) x).1) k := upds_out _ _ _ fun p hp e => h2 (List.mem_map.2 ⟨p, hp, e⟩)
    rw [e1, upds_out _ _ _ fun p hp e => ?_]; rfl
    obtain ⟨j, v', e2, _⟩ := hsk p hp
    rw [e2] at e; exact h1 j e.symm
  have hsl : ∀ i, entSt ps x (sk i) = .none ∨ ∃ v, entSt ps x (sk i) = .sv v ∧ (sk i, Cell.sv v) ∈ slotsU ps (putL ps (kzL ps) x).1 := fun i => by
    rw [hslot i]
    by_cases hk : ∃ p ∈ slotsU ps (putL ps (kzL ps) x).1, p.1 = sk i
    · obtain ⟨p, hp, e⟩ := hk
      obtain ⟨j, v', e2, _⟩ := hsk p hp
      rw [e2] at e
      have := sk_inj e
      subst this
      right
      rw [e2] at hp
      exact ⟨v', upds_in _ _ hsn hp, hp⟩
    · left
      rw [upds_out _ _ _ fun p hp e => hk ⟨p, hp, e⟩]; rfl
  have hmem : ∀ k, entSt ps x k ≠ .none → (∀ i, k ≠ sk i) → ∃ z ∈ (putL ps (kzL ps) x).2, z.1 = k := fun k h1 h2 => by
    by_cases hk : k ∈ (putL ps (kzL ps) x).2.map (·.1)
    · obtain ⟨z, hz, e⟩ := List.mem_map.1 hk; exact ⟨z, hz, e⟩
    · exact absurd (hout k h2 hk) h1
  have hns : ∀ k c, entSt ps x k = c → (∀ v, c ≠ .sv v) → c ≠ .none → ∃ z ∈ (putL ps (kzL ps) x).2, z.1 = k := fun k c h1 h2 h3 => by
    refine hmem k (by rw [h1]; exact h3) fun i e => ?_
    subst e
    rcases hsl i with h | ⟨v, h, _⟩
    · rw [h] at h1; exact h3 h1.symm
    · rw [h] at h1; exact h2 v h1.symm
  have hown : ∀ k b, b ∈ ownB (entSt ps x) G k → ∃ z ∈ (putL ps (kzL ps) x).2, z.1 = k := fun k b hb => by
    unfold ownB at hb
    split at hb
    · rename_i g h e l hr; exact hns k _ hr (fun v e => by cases e) (by simp)
    · rename_i g T v hr; exact hns k _ hr (fun v e => by cases e) (by simp)
    · rename_i g hr; exact hns k _ hr (fun v e => by cases e) (by simp)
    · cases hb
  have hz : ∀ z ∈ (putL ps (kzL ps) x).2, ∃ q ∈ ge, q.1 = z.1 ∧ ownB (entSt ps x) G z.1 = q.2.2 := fun z hz => by
    obtain ⟨q, hq, e, h⟩ := K.cell z hz
    refine ⟨q, hq, e, ?_⟩
    have hz2 := hin z hz
    have g := hga q hq
    rw [e] at g
    unfold ownB
    rw [hz2]
    rcases h with ⟨t, g', e', l, h1, _⟩ | ⟨b, g', T, v, blk, arr, ty, h1, h2, _⟩
    · rw [h1]; rw [h1] at g; exact g.2.1
    · rw [h1]; rw [h1] at g
      show [G.bx (bk b)] = _
      rw [g.2.2, h2]; rfl
  have hfz : ∀ b, S b → Fz (entSt ps x) G w b := fun b hb => by
    refine ⟨(hS b hb).1, fun k hk => ?_, .inl hb⟩
    obtain ⟨z, hz1, rfl⟩ := hown k b hk
    obtain ⟨q, hq, _, ho⟩ := hz z hz1
    rw [ho] at hk
    exact (hS b hb).2 (by rw [K.bls]; exact List.mem_flatMap.2 ⟨q, hq, hk⟩)
  have hinst : Inst (putL ps (kzL ps) x).2 ge S w (entSt ps x) G (Fz (entSt ps x) G w) := ⟨hin, hga, hfz, fun b hb => hb.1⟩
  have hsx := K.sx _ _ _ hinst
  have hsize : vals.toArray.size = vals.length := by simp
  have htm : ∀ i, i < vals.length → ({ tmps := vals.toArray ++ Array.replicate (nt - vals.toArray.size) undef, defers := [] } : Act).tmps.getD i undef = vals.getD i undef := fun i hi => by
    show (vals.toArray ++ Array.replicate (nt - vals.toArray.size) undef).getD i undef = _
    simp only [Array.getD_eq_getD_getElem?, List.getD]
    rw [Array.getElem?_append_left (by simpa using hi)]
    simp
  refine ⟨G, { rt := fun k g hh e l hr => ?_, sc := fun i => ?_, bx := fun k g T v hr => ?_, nd := fun k => ?_, dj := fun k k' b h1 h2 => ?_, lt := fun k b hb => ?_, os := rfl, tape := rfl, output := rfl, size := Nat.le_refl _, block := fun _ _ _ => rfl, s0 := rfl, m0 := fun b hb => hb.elim (fun h => .inr (.inl h)) (fun h => .inr (.inr h)), sl := fun i v hv => ?_, df := rfl, sz := ?_, pa := fun i hi => ?_ }⟩
  · obtain ⟨z, hz1, rfl⟩ := hns k _ hr (fun v e => by cases e) (by simp)
    obtain ⟨q, hq, e', hc⟩ := K.cell z hz1
    have hz2 := hin z hz1
    have gg := hga q hq
    rw [e'] at gg
    rw [hz2] at hr
    rcases hc with ⟨t, g', e2, l2, h1, h2, _⟩ | ⟨b, g', T, v, blk, arr, ty, h1, _⟩
    · rw [h1] at hr; cases hr
      rw [gg.1, gg.2.1]; exact h2
    · rw [h1] at hr; cases hr
  · rcases hsl i with h | ⟨v, h, _⟩
    · exact .inr h
    · exact .inl ⟨v, h⟩
  · obtain ⟨z, hz1, rfl⟩ := hns k _ hr (fun v e => by cases e) (by simp)
    obtain ⟨q, hq, e', hc⟩ := K.cell z hz1
    have hz2 := hin z hz1
    have gg := hga q hq
    rw [e'] at gg
    rw [hz2] at hr
    rcases hc with ⟨t, g', e2, l2, h1, _⟩ | ⟨b, g', T', v', blk, arr, ty, h1, h2, h3, h4, h5, h6⟩
    · rw [h1] at hr; cases hr
    · rw [h1] at hr; cases hr
      refine ⟨h3, arr, ty, ?_, h6 _ _ _ hinst⟩
      rw [gg.2.2, h2]; exact h4
  · by_cases hk : ∃ z ∈ (putL ps (kzL ps) x).2, z.1 = k
    · obtain ⟨z, hz1, rfl⟩ := hk
      obtain ⟨q, hq, e, ho⟩ := hz z hz1
      rw [ho]; exact flat_nd bn q hq
    · have : ownB (entSt ps x) G k = [] := List.eq_nil_iff_forall_not_mem.2 fun b hb => hk (hown k b hb)
      rw [this]; exact List.nodup_nil
  · obtain ⟨z, hz1, rfl⟩ := hown k b h1
    obtain ⟨z', hz1', rfl⟩ := hown k' b h2
    obtain ⟨q, hq, e, ho⟩ := hz z hz1
    obtain ⟨q', hq', e', ho'⟩ := hz z' hz1'
    rw [ho] at h1; rw [ho'] at h2
    rw [← e, ← e', flat_dj bn q hq q' hq' b h1 h2]
  · obtain ⟨z, hz1, rfl⟩ := hown k b hb
    obtain ⟨q, hq, e, ho⟩ := hz z hz1
    rw [ho] at hb
    have : b ∈ bs := by rw [K.bls]; exact List.mem_flatMap.2 ⟨q, hq, hb⟩
    exact ⟨hbs b this, .inr this⟩
  · rcases hsl i with h | ⟨v', h, hm⟩
    · rw [h] at hv; cases hv
    · rw [h] at hv; cases hv
      obtain ⟨j, v2, e2, hj, hw⟩ := slots_sw ps _ 0 hi hsx _ hm
      simp only [Prod.mk.injEq, Cell.sv.injEq, Nat.zero_add] at e2
      have := sk_inj e2.1
      subst this
      rw [e2.2, htm i hj]; exact hw
  · show (vals.toArray ++ Array.replicate (nt - vals.toArray.size) undef).size = nt
    rw [Array.size_append, Array.size_replicate, hsize]; omega
  · show (vals.toArray ++ Array.replicate (nt - vals.toArray.size) undef).getD i undef = vals.getD i undef
    exact htm i (by rw [hvl]; exact Nat.lt_of_lt_of_le hi hpr)
theorem outsV_run {α : Type} {u : α} (I : Inv C st a w G) : ∀ (l : Lv) {f : SV → M α}, Rn (outsV l f) st u → ∃ v, SX C.P st G w (Fz st G w) v true (l.map fun p => a.tmps.getD p.1 undef) ∧ Rn (f v) st u
  | [], f, h => ⟨.unit, rfl, h⟩
  | (i, sh) :: l, f, h => by
    unfold outsV at h
    obtain ⟨v, _, hv, h⟩ := slot_run I h
    split at h
    · exact (Rn_fail.1 h).elim
    · rename_i hnt
      obtain ⟨v', k1, k2⟩ := outsV_run I l h
      obtain ⟨c, hc1, hc2⟩ := SW_cells hv (fun b e => hnt b e)
      exact ⟨.pair v v', ⟨c, _, by rw [List.map_cons, hc1], hc2, k1⟩, k2⟩
theorem outV_map (f : Nat → Value) : ∀ (l : Lv) (vs : List Value) (i0 : Nat), idxs i0 l = true → vs.length = l.length → (∀ p ∈ outL l, p.1 < i0 + vs.length → f p.1 = vs.getD (p.1 - i0) undef) → (outL l).map (fun p => f p.1) = outV l vs
  | [], vs, i0, _, hv, _ => by rw [List.length_eq_zero_iff.1 hv]; rfl
  | (i, sh) :: l, [], i0, _, hv, _ => by simp at hv
  | (i, sh) :: l, v :: vs, i0, hi, hv, h => by
    simp only [idxs, Bool.and_eq_true] at hi
    have hi0 := Nat.eq_of_beq_eq_true hi.1
    subst hi0
    have hge : ∀ (l : Lv) (i0 : Nat), idxs i0 l = true → ∀ p ∈ outL l, i0 ≤ p.1 := by
      intro l
      induction l with
      | nil => intro i0 _ p hp; cases hp
      | cons q l ih =>
        intro i0 hi p hp
        obtain ⟨q1, q2⟩ := q
        simp only [idxs, Bool.and_eq_true] at hi
        have e := Nat.eq_of_beq_eq_true hi.1
        have := fun hp => ih (i0 + 1) hi.2 p hp
        cases q2 with
        | bx c =>
          rcases List.mem_cons.1 hp with hp | hp
          · rw [hp]; exact Nat.le_of_eq e.symm
          · have := this hp; omega
        | _ => have := this hp; omega
    have rest := outV_map f l vs (i + 1) hi.2 (by simpa using hv) (fun p hp hlt => by
      have h1 := hge l (i + 1) hi.2 p hp
      have hp' : p ∈ outL ((i, sh) :: l) := by cases sh <;> first | exact hp | exact List.mem_cons_of_mem _ hp
      rw [h p hp' (by simp; omega), show p.1 - i = (p.1 - (i + 1)) + 1 from by omega]; simp)
    cases sh with
    | bx c =>
      show f i :: (outL l).map (fun p => f p.1) = v :: outV l vs
      rw [rest, h (i, .bx c) List.mem_cons_self (by simp)]; simp
    | _ => exact rest
/-- The boxes among the parameters stand in slots that stay as they are. -/
def protB (ps : Lv) (pr : Nat) : Bool := (outL ps).all fun p => Nat.blt p.1 pr
theorem fin_shape {P : Program} {ps rl : Lv} {vals : List Value} {bs : List Nat} {S : Nat → Prop} {w0 : World} {fn : Func} {y : den rl.ty × den (outL ps).ty} {pr nt : Nat} (O : CfgOk ⟨P, w0, bs, vals, pr, nt, fun b => S b ∨ w0.heap.size ≤ b ∨ b ∈ bs⟩ cf) (I : Inv ⟨P, w0, bs, vals, pr, nt, fun b => S b ∨ w0.heap.size ≤ b ∨ b ∈ bs⟩ st a w G)
    {F : den ps.ty → Option (den rl.ty × den (outL ps).ty)} (hi : idxs 0 ps = true) (hp : protB ps pr = true) (hvl : vals.length = ps.length) (h : Rn (finS cf fn.results.toList ps rl) st y) : ∃ v, (results fn a.tmps).run P w = .ok v w ∧ ShRet P ⟨ps, rl, F⟩ vals y.1 y.2 bs S w0 v w := by
  unfold finS at h
  obtain ⟨v, vs, h1, h2, h⟩ := resSV_run O I _ h
  obtain ⟨x, ks, gs, od, d1, h, A⟩ := rdL_run I.toInvM rl v _ h h2
  obtain ⟨u, h3, h⟩ := outsV_run I (outL ps) h
  obtain ⟨z, ks', gs', od', d2, h, B⟩ := rdL_run I.toInvM (outL ps) u _ h h3
  rw [Rn_bif] at h
  rcases h with ⟨hb, h⟩ | ⟨_, h⟩
  case inr => exact (Rn_fail.1 h).elim
  rw [Rn_ret] at h
  subst h
  rw [nodupB_iff] at hb
  obtain ⟨hodn, _, hodg⟩ := List.nodup_append.1 hb
  have hov : (outL ps).map (fun p => a.tmps.getD p.1 undef) = outV ps vals := outV_map (fun i => a.tmps.getD i undef) ps vals 0 hi hvl fun p hp' _ => by
    have := List.all_eq_true.1 hp p hp'
    rw [Nat.sub_zero]
    exact I.pa p.1 (Nat.le_of_ble_eq_true this)
  have hown : ∀ b, b ∈ od.flatMap (ownB st G) ++ od'.flatMap (ownB st G) → ∃ k ∈ od ++ od', b ∈ ownB st G k := fun b hb => by
    rcases List.mem_append.1 hb with hb | hb
    · obtain ⟨k, hk, hb⟩ := List.mem_flatMap.1 hb; exact ⟨k, List.mem_append_left _ hk, hb⟩
    · obtain ⟨k, hk, hb⟩ := List.mem_flatMap.1 hb; exact ⟨k, List.mem_append_right _ hk, hb⟩
  have s0 : ∀ b, G.s0 b → S b ∨ w0.heap.size ≤ b ∨ b ∈ bs := fun b hb => by rw [I.s0] at hb; exact hb
  have hS1 : ∀ b, Fz st G w b → b < w.heap.size ∧ (S b ∨ w0.heap.size ≤ b ∨ b ∈ bs) ∧ b ∉ od.flatMap (ownB st G) ++ od'.flatMap (ownB st G) := fun b hb => ⟨hb.1, s0 b hb.2.2, fun hm => by
    obtain ⟨k, _, hk⟩ := hown b hm
    exact hb.2.1 k hk⟩
  have hS2 : ∀ (gs2 : List (Nat × Nat)), (∀ p ∈ gs2, p ∈ gs ++ gs') → (∀ p ∈ gs2, RT st p) → ∀ p ∈ gs2, ∀ b ∈ G.bl (rk p.1), b < w.heap.size ∧ (S b ∨ w0.heap.size ≤ b ∨ b ∈ bs) ∧ b ∉ od.flatMap (ownB st G) ++ od'.flatMap (ownB st G) := fun gs2 hsub hrt p hp b hb => by
    have ho : b ∈ ownB st G (rk p.1) := by rw [own_of_RT (hrt p hp)]; exact hb
    refine ⟨(I.lt _ _ ho).1, s0 b (I.m0 _ (I.lt _ _ ho).2), fun hm => ?_⟩
    obtain ⟨k, hk, hbk⟩ := hown b hm
    have := I.dj _ _ _ hbk ho
    subst this
    exact hodg _ hk _ (List.mem_map.2 ⟨p, hsub p hp, rfl⟩) rfl
  refine ⟨retV vs, ?_, ⟨vs, _, _, rfl, A.xs _ hS1 (fun b hb => hb.1) (hS2 gs (fun p hp => List.mem_append_left _ hp) A.gone), ?_, ?_, fun b hb => ?_⟩, I.os, I.tape, I.output, I.size, I.block⟩
  · rw [results_run h1]; rfl
  · have := B.xs _ hS1 (fun b hb => hb.1) (hS2 gs' (fun p hp => List.mem_append_right _ hp) B.gone)
    rw [hov] at this
    exact this
  · rw [← List.flatMap_append]; exact own_nd I.toInvM _ hodn
  · obtain ⟨k, _, hk⟩ := hown b hb
    exact ⟨(I.lt _ _ hk).2.symm, (I.lt _ _ hk).1⟩
/-- A function's contract by shapes: out of its code, and the evaluator's run of it. -/
theorem sh_ok {P : Program} {cf : Cfg} {f : FuncId} {fn : Func} {c : Code} {ps rl : Lv} {en : Env (den rl.ty × den (outL ps).ty)} {F : den ps.ty → Option (den rl.ty × den (outL ps).ty)} (hf : P.funcs[f]? = some fn) (hname : (fn.name == "runtime.NumGoroutine") = false) (hb : fn.body = some c)
    (hT : ∀ t T, cf.ty t = some T → TyOk P cf.ty t T) (hfn : ∀ g sp, cf.fn g = some sp → FnOk P g sp) (hfs : ∀ g sp, cf.fs g = some sp → ShOk P g sp) (hmix : P.follows .mixedOrders = true) (hnt : cf.nt = fn.ntmps) (hpr : cf.prot ≤ ps.length) (hprm : protB ps cf.prot = true) (hlen : ps.length ≤ cf.nt) (hent : entSB ps = true)
    (hl : ∀ C, C.P = P → CfgOk C cf → LpOk C en c) (hF : ∀ x y, F x = some y → evFnS cf ps rl en fn.results.toList c x = some y) : ShOk P f ⟨ps, rl, F⟩ := by
  intro w vals x y z bs S hX hnd hS hbs hy
  have O : CfgOk ⟨P, w, bs, vals, cf.prot, cf.nt, fun b => S b ∨ w.heap.size ≤ b ∨ b ∈ bs⟩ cf := ⟨rfl, rfl, hT, hfn, hfs⟩
  have hX : XL P ps w S vals x bs := hX
  have hvl : vals.length = ps.length := XL_len _ hX
  have hi : idxs 0 ps = true := by simp only [entSB, Bool.and_eq_true] at hent; exact hent.1.1
  obtain ⟨G, I⟩ := entry_invS (nt := cf.nt) (pr := cf.prot) hX hnd hS hbs hent hlen hpr
  intro o a next Q hn
  rw [run_enter hf hname hb, Oper.upon_enter]
  refine calls_of_wp hf hb ?_
  have hev := hF x (y, z) hy
  unfold evFnS at hev
  rw [← hnt]
  have last : ∀ st' a' w' G', (finS cf fn.results.toList ps rl).go st' [] (fun _ y => some y) = some (y, z) → Inv ⟨P, w, bs, vals, cf.prot, cf.nt, fun b => S b ∨ w.heap.size ≤ b ∨ b ∈ bs⟩ st' a' w' G' → ∃ v, (results fn a'.tmps).run P w' = .ok v w' ∧ ShRet P ⟨ps, rl, F⟩ vals y z bs S w v w' := fun st' a' w' G' h I' => by
    obtain ⟨rd, u, h1, h2⟩ := go_run _ _ h
    simp only [Option.some.injEq] at h2
    subst h2
    exact fin_shape O I' hi hprm hvl ⟨rd, h1⟩
  refine evC_sound O hmix c (hl _ rfl O) hev I (fun st' a' w' G' h I' => ?_) (fun i st' a' w' G' h I' => by cases h) (fun st' a' w' G' h I' => ?_)
  · obtain ⟨v, k1, k2⟩ := last st' a' w' G' h I'
    exact ⟨I'.df, v, k1, hn v w' k2⟩
  · obtain ⟨v, k1, k2⟩ := last st' a' w' G' h I'
    exact ⟨I'.df, v, k1, hn v w' k2⟩
theorem shOk_none {P : Program} {f : Nat} {ps rl : Lv} : ShOk P f ⟨ps, rl, fun _ => none⟩ := by
  intro w vs x y z bs S _ _ _ _ hy; cases hy
/-- Callees with contracts by shapes. -/
def ShsOk (P : Program) : List (Nat × ShSpec) → Prop
  | [] => True
  | p :: l => ShOk P p.1 p.2 ∧ ShsOk P l
theorem shs_ok {P : Program} : ∀ {l : List (Nat × ShSpec)}, ShsOk P l → ∀ g sp, lk l g = some sp → ShOk P g sp
  | [], _, g, sp, h => by cases h
  | (k, c) :: l, hl, g, sp, h => by
    unfold lk at h
    cases hb : Nat.beq k g
    · rw [hb] at h; exact shs_ok hl.2 g sp h
    · rw [hb] at h
      simp only [cond_true, Option.some.injEq] at h
      have := Nat.eq_of_beq_eq_true hb
      subst h; subst this; exact hl.1
end
end Go.Proofs.Ytjbpdhfoeomabaa.E
namespace Go.Proofs.Ytjbpdhfoeomabaa.E
open Go Go.Proofs Go.Proofs.Ytjbpdhfoeomabaa
set_option maxRecDepth 100000
noncomputable def tys : List (Nat × Ty) := [(2, (.int .i64)), (3, (.int .i64)), (4, .bool), (5, (.int .u8)), (9, .str), (22, (.sl (.int .u8))), (25, (.st (.pair (.int .i64) (.pair (.int .i64) .unit)))), (30, (.sl (.int .i64))), (38, (.st (.pair (.int .i64) (.pair (.int .i64) .unit)))), (43, (.int .u64)), (47, (.sl (.st (.pair (.int .i64) (.pair (.int .i64) .unit))))), (49, (.sl (.st (.pair (.st (.pair (.int .i64) (.pair (.int .i64) .unit))) (.pair (.sl (.int .i64)) .unit))))), (51, (.st (.pair (.int .i64) (.pair (.sl (.st (.pair (.st (.pair (.int .i64) (.pair (.int .i64) .unit))) (.pair (.sl (.int .i64)) .unit)))) .unit)))), (89, (.fn (.pair (.int .i64) .unit) .bool)), (97, (.int .u64)), (109, (.st (.pair (.st (.pair (.int .i64) (.pair (.int .i64) .unit))) (.pair (.sl (.int .i64)) .unit)))), (122, (.sl (.sl (.int .i64)))), (124, (.st (.pair (.int .i64) (.pair (.sl (.int .i64)) (.pair (.sl (.sl (.int .i64))) .unit))))), (137, (.st (.pair (.sl (.int .u8)) (.pair (.int .i64) (.pair (.int .u64) .unit))))), (146, (.arr 2 .bool)), (149, (.sl .str)), (186, (.int .u32)), (191, (.sl (.st (.pair .str (.pair .str .unit))))), (194, (.st (.pair .str (.pair .str .unit))))]
theorem tysOk : ∀ t T, lk tys t = some T → TyOk Try.prog (lk tys) t T := tys_ok (by kernel_rfl)
noncomputable def as_i_Func_made : Ty := (.pair (.st (.pair (.int .i64) (.pair (.int .i64) .unit))) (.pair (.int .i64) (.pair (.sl (.int .i64)) (.pair (.sl (.int .i64)) (.pair (.int .i64) (.pair (.fn (.pair (.int .i64) .unit) .bool) .unit))))))
noncomputable def sp_i_Func_made (F : ((Int × Int × Unit) × Int × (List Int) × (List Int) × Int × ((Int × Unit) → Option Bool) × Unit) → Option Bool) : FnSpec := ⟨as_i_Func_made, [false, false, false, false, false, false], .bool, F⟩
noncomputable def as_s_l06Made : Ty := (.pair (.st (.pair (.int .i64) (.pair (.int .i64) .unit))) (.pair (.st (.pair (.int .i64) (.pair (.int .i64) .unit))) (.pair (.sl (.int .i64)) (.pair (.sl (.int .i64)) .unit))))
noncomputable def sp_s_l06Made (F : ((Int × Int × Unit) × (Int × Int × Unit) × (List Int) × (List Int) × Unit) → Option Int) : FnSpec := ⟨as_s_l06Made, [false, false, false, false], (.int .i64), F⟩
end Go.Proofs.Ytjbpdhfoeomabaa.E
namespace Go.Proofs.Ytjbpdhfoeomabaa.E
open Go Go.Proofs Go.Proofs.Ytjbpdhfoeomabaa
set_option maxRecDepth 100000
set_option linter.unusedVariables false
noncomputable def as_i_bit : Ty := (.pair (.int .i64) (.pair (.int .i64) .unit))
noncomputable def sp_i_bit (F : (Int × Int × Unit) → Option Int) : FnSpec := ⟨as_i_bit, [false, false], (.int .i64), F⟩
noncomputable def i_bit (K : Nat) (x : (Int × Int × Unit)) : Option Int :=
    (if (decide ((0 : Int) ≤ x.2.1)) = true then
    some (bitI .and .i64 (shrI .i64 x.1 x.2.1) (1 : Int))
    else
    none)
noncomputable def rv_i_bit : Lv := [(4, (.v (.int .i64)))]
noncomputable def sg_i_bit {R : Type} (K : Nat) (k : Nat) : List (Nat × SegS R) := []
noncomputable def su_i_bit : List (Nat × Unit) := []
noncomputable def en_i_bit {R : Type} (K : Nat) (k : Nat) : Env R := { L := lk [], X := lk [], S := lk (sg_i_bit K k), rv := rv_i_bit }
noncomputable def cf_i_bit (K : Nat) : Cfg := { ty := lk tys, fn := lk [], fs := lk [], prot := 0, nt := Try.f70.ntmps }
theorem e_i_bit (K : Nat) (x : den as_i_bit) : i_bit K x = evFn (cf_i_bit K) as_i_bit [false, false] (.int .i64) (en_i_bit K K) Try.f70.results.toList (bodyOf Try.f70) x := by kernel_rfl
theorem ok_i_bit (K : Nat) : FnOk Try.prog 70 (sp_i_bit (i_bit K)) :=
  fn_ok (cf := cf_i_bit K) (en := en_i_bit K K) (c := bodyOf Try.f70) Try.func70 (by kernel_rfl) (by kernel_rfl) tysOk (fns_ok (l := []) trivial) (shs_ok (l := []) trivial) (by kernel_rfl) rfl (Nat.le_of_ble_eq_true (by kernel_rfl)) (by kernel_rfl) (of_decide_eq_true (by kernel_rfl)) (by decide) (fun C hP O => lpOk_of (en := en_i_bit K K) (S := hasK su_i_bit) (fun i => hasK_lk (sg_i_bit K K) i) _ (by rw [show partsOf (hasK su_i_bit) (bodyOf Try.f70) = [] from by kernel_rfl]; exact trivial)) (fun x y h => by rw [← e_i_bit]; exact h)
noncomputable def as_slices_Index_int64 : Ty := (.pair (.sl (.int .i64)) (.pair (.int .i64) .unit))
noncomputable def sp_slices_Index_int64 (F : ((List Int) × Int × Unit) → Option Int) : FnSpec := ⟨as_slices_Index_int64, [false, false], (.int .i64), F⟩
noncomputable def slices_Index_int64_l2 {R : Type} (K : Nat) : Nat → (List Int) → Int → Int → Int → (Option R) → (Int → Option R) → Option R
  | 0, _, _, _, _, _, _ => none
  | k + 1, v0, v1, v7, v8, kx0, kr =>
    (if (decide (v8 < v7)) = true then
    (if (bnds v8 (v0.length : Int)) = true then
    (if (decide (v1 = (v0.getD v8.toNat (0 : Int)))) = true then
    kr v8
    else
    slices_Index_int64_l2 K k v0 v1 v7 (IntKind.i64.wrap (v8 + (1 : Int))) kx0 kr)
    else
    none)
    else
    kx0)
noncomputable def slices_Index_int64 (K : Nat) (x : ((List Int) × Int × Unit)) : Option Int :=
    slices_Index_int64_l2 K K x.1 x.2.1 (x.1.length : Int) (0 : Int) (some (-1 : Int)) (fun z1 =>
    some z1)
noncomputable def lv_slices_Index_int64_L2 : Lv := [(0, (.v (.sl (.int .i64)))), (1, (.v (.int .i64))), (7, (.v (.int .i64))), (8, (.v (.int .i64)))]
noncomputable def lv_slices_Index_int64_X0 : Lv := []
noncomputable def rv_slices_Index_int64 : Lv := [(4, (.v (.int .i64)))]
noncomputable def gslices_Index_int64_l2 {R : Type} (K : Nat) (k : Nat) (x : den lv_slices_Index_int64_L2.ty) (kx : Nat → St → Option R) (kr : St → Option R) : Option R := slices_Index_int64_l2 K k x.1 x.2.1 x.2.2.1 x.2.2.2.1 (kx 0 (mkSt lv_slices_Index_int64_X0 ())) (fun z0 => kr (mkSt rv_slices_Index_int64 (z0, ())))
noncomputable def sg_slices_Index_int64 {R : Type} (K : Nat) (k : Nat) : List (Nat × SegS R) := []
noncomputable def su_slices_Index_int64 : List (Nat × Unit) := []
noncomputable def en_slices_Index_int64 {R : Type} (K : Nat) (k : Nat) : Env R := { L := lk [(2, mkLoop lv_slices_Index_int64_L2 (gslices_Index_int64_l2 K k))], X := lk [(0, lv_slices_Index_int64_X0)], S := lk (sg_slices_Index_int64 K k), rv := rv_slices_Index_int64 }
noncomputable def cf_slices_Index_int64 (K : Nat) : Cfg := { ty := lk tys, fn := lk [], fs := lk [], prot := 0, nt := Try.f128.ntmps }
noncomputable def c_slices_Index_int64_L2 : Code := nthC (partsOf (hasK su_slices_Index_int64) (bodyOf Try.f128)) 0
theorem eslices_Index_int64_l2 {R : Type} (K : Nat) (k : Nat) (x : den lv_slices_Index_int64_L2.ty) (kx : Nat → St → Option R) (kr : St → Option R) : gslices_Index_int64_l2 K (k + 1) x kx kr = evC (cf_slices_Index_int64 K) (en_slices_Index_int64 K k) c_slices_Index_int64_L2 (mkSt lv_slices_Index_int64_L2 x) (fun s => mkLoop lv_slices_Index_int64_L2 (gslices_Index_int64_l2 K k) s kx kr) kx kr := by kernel_rfl
theorem sslices_Index_int64_l2 {R : Type} (K : Nat) (C : Cx) (hP : C.P = Try.prog) (O : CfgOk C (cf_slices_Index_int64 K)) (k : Nat) : LpS C (R := R) (mkLoop lv_slices_Index_int64_L2 (gslices_Index_int64_l2 K k)) c_slices_Index_int64_L2 :=
  loop_sound O (by rw [hP]; kernel_rfl) (fun x kx kr => rfl) (eslices_Index_int64_l2 K) (fun k => lpOk_of (en := en_slices_Index_int64 K k) (S := hasK su_slices_Index_int64) (fun i => hasK_lk (sg_slices_Index_int64 K k) i) _ (by rw [show partsOf (hasK su_slices_Index_int64) c_slices_Index_int64_L2 = [] from by kernel_rfl]; exact trivial)) k
theorem e_slices_Index_int64 (K : Nat) (x : den as_slices_Index_int64) : slices_Index_int64 K x = evFn (cf_slices_Index_int64 K) as_slices_Index_int64 [false, false] (.int .i64) (en_slices_Index_int64 K K) Try.f128.results.toList (bodyOf Try.f128) x := by kernel_rfl
theorem ok_slices_Index_int64 (K : Nat) : FnOk Try.prog 128 (sp_slices_Index_int64 (slices_Index_int64 K)) :=
  fn_ok (cf := cf_slices_Index_int64 K) (en := en_slices_Index_int64 K K) (c := bodyOf Try.f128) Try.func128 (by kernel_rfl) (by kernel_rfl) tysOk (fns_ok (l := []) trivial) (shs_ok (l := []) trivial) (by kernel_rfl) rfl (Nat.le_of_ble_eq_true (by kernel_rfl)) (by kernel_rfl) (of_decide_eq_true (by kernel_rfl)) (by decide) (fun C hP O => lpOk_of (en := en_slices_Index_int64 K K) (S := hasK su_slices_Index_int64) (fun i => hasK_lk (sg_slices_Index_int64 K K) i) _ (by rw [show partsOf (hasK su_slices_Index_int64) (bodyOf Try.f128) = [(true, c_slices_Index_int64_L2)] from by kernel_rfl]; exact (lpL_loop (f := mkLoop lv_slices_Index_int64_L2 (gslices_Index_int64_l2 K K)) (by kernel_rfl) (sslices_Index_int64_l2 K C hP O K) trivial))) (fun x y h => by rw [← e_slices_Index_int64]; exact h)
noncomputable def as_i_Clause_isOpen : Ty := (.pair (.st (.pair (.st (.pair (.int .i64) (.pair (.int .i64) .unit))) (.pair (.sl (.int .i64)) .unit))) (.pair (.int .i64) (.pair (.sl (.int .i64)) .unit)))
noncomputable def sp_i_Clause_isOpen (F : (((Int × Int × Unit) × (List Int) × Unit) × Int × (List Int) × Unit) → Option Bool) : FnSpec := ⟨as_i_Clause_isOpen, [false, false, false], .bool, F⟩
noncomputable def i_Clause_isOpen_l2 {R : Type} (K : Nat) : Nat → Int → (List Int) → ((Int × Int × Unit) × (List Int) × Unit) → (List Int) → Int → Int → (Option R) → (Bool → Option R) → Option R
  | 0, _, _, _, _, _, _, _, _ => none
  | k + 1, v1, v2, v3, v11, v12, v13, kx0, kr =>
    (if (decide (v13 < v12)) = true then
    (if (bnds v13 (v11.length : Int)) = true then
    (slices_Index_int64 K (v3.2.1, (v11.getD v13.toNat (0 : Int)), ())).bind fun y1 =>
    (if (bnds (v11.getD v13.toNat (0 : Int)) (v2.length : Int)) = true then
    let x2 := (!decide ((v2.getD (v11.getD v13.toNat (0 : Int)).toNat (0 : Int)) = (2 : Int)))
    (if x2 = true then
    (if (bnds (v11.getD v13.toNat (0 : Int)) (v2.length : Int)) = true then
    (i_bit K (v1, v13, ())).bind fun y3 =>
    let x4 := (!decide ((v2.getD (v11.getD v13.toNat (0 : Int)).toNat (0 : Int)) = y3))
    (if x4 = true then
    kr false
    else
    (i_bit K (v1, y1, ())).bind fun y5 =>
    (i_bit K (v1, v13, ())).bind fun y6 =>
    (if (!decide (y5 = y6)) = true then
    kr false
    else
    i_Clause_isOpen_l2 K k v1 v2 v3 v11 v12 (IntKind.i64.wrap (v13 + (1 : Int))) kx0 kr))
    else
    none)
    else
    (i_bit K (v1, y1, ())).bind fun y7 =>
    (i_bit K (v1, v13, ())).bind fun y8 =>
    (if (!decide (y7 = y8)) = true then
    kr false
    else
    i_Clause_isOpen_l2 K k v1 v2 v3 v11 v12 (IntKind.i64.wrap (v13 + (1 : Int))) kx0 kr))
    else
    none)
    else
    none)
    else
    kx0)
noncomputable def i_Clause_isOpen (K : Nat) (x : (((Int × Int × Unit) × (List Int) × Unit) × Int × (List Int) × Unit)) : Option Bool :=
    i_Clause_isOpen_l2 K K x.2.1 x.2.2.1 x.1 x.1.2.1 (x.1.2.1.length : Int) (0 : Int) (some true) (fun z9 =>
    some z9)
noncomputable def lv_i_Clause_isOpen_L2 : Lv := [(1, (.v (.int .i64))), (2, (.v (.sl (.int .i64)))), (3, (.bx (.v (.st (.pair (.st (.pair (.int .i64) (.pair (.int .i64) .unit))) (.pair (.sl (.int .i64)) .unit)))))), (11, (.v (.sl (.int .i64)))), (12, (.v (.int .i64))), (13, (.v (.int .i64)))]
noncomputable def lv_i_Clause_isOpen_X0 : Lv := []
noncomputable def rv_i_Clause_isOpen : Lv := [(6, (.v .bool))]
noncomputable def gi_Clause_isOpen_l2 {R : Type} (K : Nat) (k : Nat) (x : den lv_i_Clause_isOpen_L2.ty) (kx : Nat → St → Option R) (kr : St → Option R) : Option R := i_Clause_isOpen_l2 K k x.1 x.2.1 x.2.2.1 x.2.2.2.1 x.2.2.2.2.1 x.2.2.2.2.2.1 (kx 0 (mkSt lv_i_Clause_isOpen_X0 ())) (fun z0 => kr (mkSt rv_i_Clause_isOpen (z0, ())))
noncomputable def sg_i_Clause_isOpen {R : Type} (K : Nat) (k : Nat) : List (Nat × SegS R) := []
noncomputable def su_i_Clause_isOpen : List (Nat × Unit) := []
noncomputable def en_i_Clause_isOpen {R : Type} (K : Nat) (k : Nat) : Env R := { L := lk [(2, mkLoop lv_i_Clause_isOpen_L2 (gi_Clause_isOpen_l2 K k))], X := lk [(0, lv_i_Clause_isOpen_X0)], S := lk (sg_i_Clause_isOpen K k), rv := rv_i_Clause_isOpen }
noncomputable def cf_i_Clause_isOpen (K : Nat) : Cfg := { ty := lk tys, fn := lk [(70, sp_i_bit (i_bit K)), (128, sp_slices_Index_int64 (slices_Index_int64 K))], fs := lk [], prot := 0, nt := Try.f139.ntmps }
noncomputable def c_i_Clause_isOpen_L2 : Code := nthC (partsOf (hasK su_i_Clause_isOpen) (bodyOf Try.f139)) 0
theorem ei_Clause_isOpen_l2 {R : Type} (K : Nat) (k : Nat) (x : den lv_i_Clause_isOpen_L2.ty) (kx : Nat → St → Option R) (kr : St → Option R) : gi_Clause_isOpen_l2 K (k + 1) x kx kr = evC (cf_i_Clause_isOpen K) (en_i_Clause_isOpen K k) c_i_Clause_isOpen_L2 (mkSt lv_i_Clause_isOpen_L2 x) (fun s => mkLoop lv_i_Clause_isOpen_L2 (gi_Clause_isOpen_l2 K k) s kx kr) kx kr := by kernel_rfl
theorem si_Clause_isOpen_l2 {R : Type} (K : Nat) (C : Cx) (hP : C.P = Try.prog) (O : CfgOk C (cf_i_Clause_isOpen K)) (k : Nat) : LpS C (R := R) (mkLoop lv_i_Clause_isOpen_L2 (gi_Clause_isOpen_l2 K k)) c_i_Clause_isOpen_L2 :=
  loop_sound O (by rw [hP]; kernel_rfl) (fun x kx kr => rfl) (ei_Clause_isOpen_l2 K) (fun k => lpOk_of (en := en_i_Clause_isOpen K k) (S := hasK su_i_Clause_isOpen) (fun i => hasK_lk (sg_i_Clause_isOpen K k) i) _ (by rw [show partsOf (hasK su_i_Clause_isOpen) c_i_Clause_isOpen_L2 = [] from by kernel_rfl]; exact trivial)) k
theorem e_i_Clause_isOpen (K : Nat) (x : den as_i_Clause_isOpen) : i_Clause_isOpen K x = evFn (cf_i_Clause_isOpen K) as_i_Clause_isOpen [false, false, false] .bool (en_i_Clause_isOpen K K) Try.f139.results.toList (bodyOf Try.f139) x := by kernel_rfl
theorem ok_i_Clause_isOpen (K : Nat) : FnOk Try.prog 139 (sp_i_Clause_isOpen (i_Clause_isOpen K)) :=
  fn_ok (cf := cf_i_Clause_isOpen K) (en := en_i_Clause_isOpen K K) (c := bodyOf Try.f139) Try.func139 (by kernel_rfl) (by kernel_rfl) tysOk (fns_ok (l := [(70, sp_i_bit (i_bit K)), (128, sp_slices_Index_int64 (slices_Index_int64 K))]) ⟨ok_i_bit K, ⟨ok_slices_Index_int64 K, trivial⟩⟩) (shs_ok (l := []) trivial) (by kernel_rfl) rfl (Nat.le_of_ble_eq_true (by kernel_rfl)) (by kernel_rfl) (of_decide_eq_true (by kernel_rfl)) (by decide) (fun C hP O => lpOk_of (en := en_i_Clause_isOpen K K) (S := hasK su_i_Clause_isOpen) (fun i => hasK_lk (sg_i_Clause_isOpen K K) i) _ (by rw [show partsOf (hasK su_i_Clause_isOpen) (bodyOf Try.f139) = [(true, c_i_Clause_isOpen_L2)] from by kernel_rfl]; exact (lpL_loop (f := mkLoop lv_i_Clause_isOpen_L2 (gi_Clause_isOpen_l2 K K)) (by kernel_rfl) (si_Clause_isOpen_l2 K C hP O K) trivial))) (fun x y h => by rw [← e_i_Clause_isOpen]; exact h)
noncomputable def as_i_rowsOf : Ty := (.pair (.int .i64) .unit)
noncomputable def sp_i_rowsOf (F : (Int × Unit) → Option Int) : FnSpec := ⟨as_i_rowsOf, [false], (.int .i64), F⟩
noncomputable def i_rowsOf (K : Nat) (x : (Int × Unit)) : Option Int :=
    (if (decide ((0 : Int) ≤ x.1)) = true then
    some (shlI .i64 (1 : Int) x.1)
    else
    none)
noncomputable def rv_i_rowsOf : Lv := [(2, (.v (.int .i64)))]
noncomputable def sg_i_rowsOf {R : Type} (K : Nat) (k : Nat) : List (Nat × SegS R) := []
noncomputable def su_i_rowsOf : List (Nat × Unit) := []
noncomputable def en_i_rowsOf {R : Type} (K : Nat) (k : Nat) : Env R := { L := lk [], X := lk [], S := lk (sg_i_rowsOf K k), rv := rv_i_rowsOf }
noncomputable def cf_i_rowsOf (K : Nat) : Cfg := { ty := lk tys, fn := lk [], fs := lk [], prot := 0, nt := Try.f59.ntmps }
theorem e_i_rowsOf (K : Nat) (x : den as_i_rowsOf) : i_rowsOf K x = evFn (cf_i_rowsOf K) as_i_rowsOf [false] (.int .i64) (en_i_rowsOf K K) Try.f59.results.toList (bodyOf Try.f59) x := by kernel_rfl
theorem ok_i_rowsOf (K : Nat) : FnOk Try.prog 59 (sp_i_rowsOf (i_rowsOf K)) :=
  fn_ok (cf := cf_i_rowsOf K) (en := en_i_rowsOf K K) (c := bodyOf Try.f59) Try.func59 (by kernel_rfl) (by kernel_rfl) tysOk (fns_ok (l := []) trivial) (shs_ok (l := []) trivial) (by kernel_rfl) rfl (Nat.le_of_ble_eq_true (by kernel_rfl)) (by kernel_rfl) (of_decide_eq_true (by kernel_rfl)) (by decide) (fun C hP O => lpOk_of (en := en_i_rowsOf K K) (S := hasK su_i_rowsOf) (fun i => hasK_lk (sg_i_rowsOf K K) i) _ (by rw [show partsOf (hasK su_i_rowsOf) (bodyOf Try.f59) = [] from by kernel_rfl]; exact trivial)) (fun x y h => by rw [← e_i_rowsOf]; exact h)
noncomputable def as_i_Relation_has : Ty := (.pair (.st (.pair (.int .i64) (.pair (.int .i64) .unit))) (.pair (.int .i64) .unit))
noncomputable def sp_i_Relation_has (F : ((Int × Int × Unit) × Int × Unit) → Option Bool) : FnSpec := ⟨as_i_Relation_has, [false, false], .bool, F⟩
noncomputable def i_Relation_has (K : Nat) (x : ((Int × Int × Unit) × Int × Unit)) : Option Bool :=
    (i_bit K (x.1.2.1, x.2.1, ())).bind fun y1 =>
    some (decide (y1 = (1 : Int)))
noncomputable def rv_i_Relation_has : Lv := [(4, (.v .bool))]
noncomputable def sg_i_Relation_has {R : Type} (K : Nat) (k : Nat) : List (Nat × SegS R) := []
noncomputable def su_i_Relation_has : List (Nat × Unit) := []
noncomputable def en_i_Relation_has {R : Type} (K : Nat) (k : Nat) : Env R := { L := lk [], X := lk [], S := lk (sg_i_Relation_has K k), rv := rv_i_Relation_has }
noncomputable def cf_i_Relation_has (K : Nat) : Cfg := { ty := lk tys, fn := lk [(70, sp_i_bit (i_bit K))], fs := lk [], prot := 0, nt := Try.f62.ntmps }
theorem e_i_Relation_has (K : Nat) (x : den as_i_Relation_has) : i_Relation_has K x = evFn (cf_i_Relation_has K) as_i_Relation_has [false, false] .bool (en_i_Relation_has K K) Try.f62.results.toList (bodyOf Try.f62) x := by kernel_rfl
theorem ok_i_Relation_has (K : Nat) : FnOk Try.prog 62 (sp_i_Relation_has (i_Relation_has K)) :=
  fn_ok (cf := cf_i_Relation_has K) (en := en_i_Relation_has K K) (c := bodyOf Try.f62) Try.func62 (by kernel_rfl) (by kernel_rfl) tysOk (fns_ok (l := [(70, sp_i_bit (i_bit K))]) ⟨ok_i_bit K, trivial⟩) (shs_ok (l := []) trivial) (by kernel_rfl) rfl (Nat.le_of_ble_eq_true (by kernel_rfl)) (by kernel_rfl) (of_decide_eq_true (by kernel_rfl)) (by decide) (fun C hP O => lpOk_of (en := en_i_Relation_has K K) (S := hasK su_i_Relation_has) (fun i => hasK_lk (sg_i_Relation_has K K) i) _ (by rw [show partsOf (hasK su_i_Relation_has) (bodyOf Try.f62) = [] from by kernel_rfl]; exact trivial)) (fun x y h => by rw [← e_i_Relation_has]; exact h)
noncomputable def as_i_Relation_tuples : Ty := (.pair (.st (.pair (.int .i64) (.pair (.int .i64) .unit))) .unit)
noncomputable def sp_i_Relation_tuples (F : ((Int × Int × Unit) × Unit) → Option (List Int)) : FnSpec := ⟨as_i_Relation_tuples, [false], (.sl (.int .i64)), F⟩
noncomputable def i_Relation_tuples_l3 {R : Type} (K : Nat) : Nat → (Int × Int × Unit) → (List Int) → Int → Int → ((List Int) → Option R) → Option R
  | 0, _, _, _, _, _ => none
  | k + 1, v1, v3, v7, v8, kx0 =>
    (if (decide (v8 < v7)) = true then
    (i_Relation_has K (v1, v8, ())).bind fun y2 =>
    (if y2 = true then
    (if (decide (v3.length + ([v8]).length ≤ lim)) = true then
    let l3 := (v3 ++ [v8])
    i_Relation_tuples_l3 K k v1 l3 v7 (IntKind.i64.wrap (v8 + (1 : Int))) kx0
    else
    none)
    else
    i_Relation_tuples_l3 K k v1 v3 v7 (IntKind.i64.wrap (v8 + (1 : Int))) kx0)
    else
    kx0 v3)
noncomputable def i_Relation_tuples (K : Nat) (x : ((Int × Int × Unit) × Unit)) : Option (List Int) :=
    (i_rowsOf K (x.1.1, ())).bind fun y1 =>
    i_Relation_tuples_l3 K K x.1 ([] : List Int) y1 (0 : Int) (fun z4 =>
    some z4)
noncomputable def lv_i_Relation_tuples_L3 : Lv := [(1, (.bx (.v (.st (.pair (.int .i64) (.pair (.int .i64) .unit)))))), (3, (.r (.int .i64))), (7, (.v (.int .i64))), (8, (.v (.int .i64)))]
noncomputable def lv_i_Relation_tuples_X0 : Lv := [(3, (.r (.int .i64)))]
noncomputable def rv_i_Relation_tuples : Lv := [(2, (.r (.int .i64)))]
noncomputable def gi_Relation_tuples_l3 {R : Type} (K : Nat) (k : Nat) (x : den lv_i_Relation_tuples_L3.ty) (kx : Nat → St → Option R) (kr : St → Option R) : Option R := i_Relation_tuples_l3 K k x.1 x.2.1 x.2.2.1 x.2.2.2.1 (fun z0 => kx 0 (mkSt lv_i_Relation_tuples_X0 (z0, ())))
noncomputable def sg_i_Relation_tuples {R : Type} (K : Nat) (k : Nat) : List (Nat × SegS R) := []
noncomputable def su_i_Relation_tuples : List (Nat × Unit) := []
noncomputable def en_i_Relation_tuples {R : Type} (K : Nat) (k : Nat) : Env R := { L := lk [(3, mkLoop lv_i_Relation_tuples_L3 (gi_Relation_tuples_l3 K k))], X := lk [(0, lv_i_Relation_tuples_X0)], S := lk (sg_i_Relation_tuples K k), rv := rv_i_Relation_tuples }
noncomputable def cf_i_Relation_tuples (K : Nat) : Cfg := { ty := lk tys, fn := lk [(59, sp_i_rowsOf (i_rowsOf K)), (62, sp_i_Relation_has (i_Relation_has K))], fs := lk [], prot := 0, nt := Try.f69.ntmps }
noncomputable def c_i_Relation_tuples_L3 : Code := nthC (partsOf (hasK su_i_Relation_tuples) (bodyOf Try.f69)) 0
theorem ei_Relation_tuples_l3 {R : Type} (K : Nat) (k : Nat) (x : den lv_i_Relation_tuples_L3.ty) (kx : Nat → St → Option R) (kr : St → Option R) : gi_Relation_tuples_l3 K (k + 1) x kx kr = evC (cf_i_Relation_tuples K) (en_i_Relation_tuples K k) c_i_Relation_tuples_L3 (mkSt lv_i_Relation_tuples_L3 x) (fun s => mkLoop lv_i_Relation_tuples_L3 (gi_Relation_tuples_l3 K k) s kx kr) kx kr := by kernel_rfl
theorem si_Relation_tuples_l3 {R : Type} (K : Nat) (C : Cx) (hP : C.P = Try.prog) (O : CfgOk C (cf_i_Relation_tuples K)) (k : Nat) : LpS C (R := R) (mkLoop lv_i_Relation_tuples_L3 (gi_Relation_tuples_l3 K k)) c_i_Relation_tuples_L3 :=
  loop_sound O (by rw [hP]; kernel_rfl) (fun x kx kr => rfl) (ei_Relation_tuples_l3 K) (fun k => lpOk_of (en := en_i_Relation_tuples K k) (S := hasK su_i_Relation_tuples) (fun i => hasK_lk (sg_i_Relation_tuples K k) i) _ (by rw [show partsOf (hasK su_i_Relation_tuples) c_i_Relation_tuples_L3 = [] from by kernel_rfl]; exact trivial)) k
theorem e_i_Relation_tuples (K : Nat) (x : den as_i_Relation_tuples) : i_Relation_tuples K x = evFn (cf_i_Relation_tuples K) as_i_Relation_tuples [false] (.sl (.int .i64)) (en_i_Relation_tuples K K) Try.f69.results.toList (bodyOf Try.f69) x := by kernel_rfl
theorem ok_i_Relation_tuples (K : Nat) : FnOk Try.prog 69 (sp_i_Relation_tuples (i_Relation_tuples K)) :=
  fn_ok (cf := cf_i_Relation_tuples K) (en := en_i_Relation_tuples K K) (c := bodyOf Try.f69) Try.func69 (by kernel_rfl) (by kernel_rfl) tysOk (fns_ok (l := [(59, sp_i_rowsOf (i_rowsOf K)), (62, sp_i_Relation_has (i_Relation_has K))]) ⟨ok_i_rowsOf K, ⟨ok_i_Relation_has K, trivial⟩⟩) (shs_ok (l := []) trivial) (by kernel_rfl) rfl (Nat.le_of_ble_eq_true (by kernel_rfl)) (by kernel_rfl) (of_decide_eq_true (by kernel_rfl)) (by decide) (fun C hP O => lpOk_of (en := en_i_Relation_tuples K K) (S := hasK su_i_Relation_tuples) (fun i => hasK_lk (sg_i_Relation_tuples K K) i) _ (by rw [show partsOf (hasK su_i_Relation_tuples) (bodyOf Try.f69) = [(true, c_i_Relation_tuples_L3)] from by kernel_rfl]; exact (lpL_loop (f := mkLoop lv_i_Relation_tuples_L3 (gi_Relation_tuples_l3 K K)) (by kernel_rfl) (si_Relation_tuples_l3 K C hP O K) trivial))) (fun x y h => by rw [← e_i_Relation_tuples]; exact h)
noncomputable def as_i_Clause_narrow : Ty := (.pair (.st (.pair (.st (.pair (.int .i64) (.pair (.int .i64) .unit))) (.pair (.sl (.int .i64)) .unit))) (.pair (.sl (.int .i64)) .unit))
noncomputable def sp_i_Clause_narrow (F : (((Int × Int × Unit) × (List Int) × Unit) × (List Int) × Unit) → Option (Bool × ((List Int) × Unit))) : FnSpec := ⟨as_i_Clause_narrow, [false, true], (.pair .bool (.pair (.sl (.int .i64)) .unit)), F⟩
noncomputable def i_Clause_narrow_l6 {R : Type} (K : Nat) : Nat → (List Int) → ((Int × Int × Unit) × (List Int) × Unit) → Int → Int → (List Bool) → (List Int) → Int → Int → (List Int) → Int → Int → ((List Int) → ((Int × Int × Unit) × (List Int) × Unit) → Int → (List Bool) → (List Int) → Int → Int → Option R) → Option R
  | 0, _, _, _, _, _, _, _, _, _, _, _, _ => none
  | k + 1, v1, v2, v5, v6, v7, v11, v12, v13, v20, v21, v22, kx2 =>
    (if (decide (v22 < v21)) = true then
    (if (bnds v22 (v20.length : Int)) = true then
    (i_Clause_isOpen K (v2, (v20.getD v22.toNat (0 : Int)), v1, ())).bind fun y2 =>
    (if y2 = true then
    (i_bit K ((v20.getD v22.toNat (0 : Int)), v5, ())).bind fun y3 =>
    (if (bnds y3 (2 : Int)) = true then
    let a4 := (v7.set y3.toNat true)
    i_Clause_narrow_l6 K k v1 v2 v5 v6 a4 v11 v12 v13 v20 v21 (IntKind.i64.wrap (v22 + (1 : Int))) kx2
    else
    none)
    else
    i_Clause_narrow_l6 K k v1 v2 v5 v6 v7 v11 v12 v13 v20 v21 (IntKind.i64.wrap (v22 + (1 : Int))) kx2)
    else
    none)
    else
    kx2 v1 v2 v6 v7 v11 v12 v13)
noncomputable def i_Clause_narrow_j17 {R : Type} (K : Nat) (k : Nat) (v1 : (List Int)) (v2 : ((Int × Int × Unit) × (List Int) × Unit)) (v11 : (List Int)) (v12 : Int) (v13 : Int) (kn : (List Int) → ((Int × Int × Unit) × (List Int) × Unit) → (List Int) → Int → Int → Option R)  : Option R :=
    kn v1 v2 v11 v12 (IntKind.i64.wrap (v13 + (1 : Int)))
noncomputable def i_Clause_narrow_l2 {R : Type} (K : Nat) : Nat → (List Int) → ((Int × Int × Unit) × (List Int) × Unit) → (List Int) → Int → Int → ((List Int) → Option R) → ((List Int) → Bool → Option R) → Option R
  | 0, _, _, _, _, _, _, _ => none
  | k + 1, v1, v2, v11, v12, v13, kx0, kr =>
    (if (decide (v13 < v12)) = true then
    (if (bnds v13 (v11.length : Int)) = true then
    (i_Relation_tuples K (v2.1, ())).bind fun y1 =>
    i_Clause_narrow_l6 K k v1 v2 v13 (v11.getD v13.toNat (0 : Int)) (List.replicate 2 false) v11 v12 v13 y1 (y1.length : Int) (0 : Int) (fun z5 z6 z7 z8 z9 z10 z11 =>
    (if (bnds (0 : Int) (2 : Int)) = true then
    (if (!(z8.getD (0 : Int).toNat false)) = true then
    (if (bnds (1 : Int) (2 : Int)) = true then
    (if (!(z8.getD (1 : Int).toNat false)) = true then
    kr z5 false
    else
    (if (bnds (0 : Int) (2 : Int)) = true then
    (if (!(z8.getD (0 : Int).toNat false)) = true then
    (if (bnds z7 (z5.length : Int)) = true then
    let l12 := (z5.set z7.toNat (1 : Int))
    i_Clause_narrow_j17 K k l12 z6 z9 z10 z11 (fun z13 z14 z15 z16 z17 =>
    i_Clause_narrow_l2 K k z13 z14 z15 z16 z17 kx0 kr)
    else
    none)
    else
    (if (bnds (1 : Int) (2 : Int)) = true then
    (if (!(z8.getD (1 : Int).toNat false)) = true then
    (if (bnds z7 (z5.length : Int)) = true then
    let l18 := (z5.set z7.toNat (0 : Int))
    i_Clause_narrow_j17 K k l18 z6 z9 z10 z11 (fun z19 z20 z21 z22 z23 =>
    i_Clause_narrow_l2 K k z19 z20 z21 z22 z23 kx0 kr)
    else
    none)
    else
    i_Clause_narrow_j17 K k z5 z6 z9 z10 z11 (fun z24 z25 z26 z27 z28 =>
    i_Clause_narrow_l2 K k z24 z25 z26 z27 z28 kx0 kr))
    else
    none))
    else
    none))
    else
    none)
    else
    (if (bnds (0 : Int) (2 : Int)) = true then
    (if (!(z8.getD (0 : Int).toNat false)) = true then
    (if (bnds z7 (z5.length : Int)) = true then
    let l29 := (z5.set z7.toNat (1 : Int))
    i_Clause_narrow_j17 K k l29 z6 z9 z10 z11 (fun z30 z31 z32 z33 z34 =>
    i_Clause_narrow_l2 K k z30 z31 z32 z33 z34 kx0 kr)
    else
    none)
    else
    (if (bnds (1 : Int) (2 : Int)) = true then
    (if (!(z8.getD (1 : Int).toNat false)) = true then
    (if (bnds z7 (z5.length : Int)) = true then
    let l35 := (z5.set z7.toNat (0 : Int))
    i_Clause_narrow_j17 K k l35 z6 z9 z10 z11 (fun z36 z37 z38 z39 z40 =>
    i_Clause_narrow_l2 K k z36 z37 z38 z39 z40 kx0 kr)
    else
    none)
    else
    i_Clause_narrow_j17 K k z5 z6 z9 z10 z11 (fun z41 z42 z43 z44 z45 =>
    i_Clause_narrow_l2 K k z41 z42 z43 z44 z45 kx0 kr))
    else
    none))
    else
    none))
    else
    none))
    else
    none)
    else
    kx0 v1)
noncomputable def i_Clause_narrow (K : Nat) (x : (((Int × Int × Unit) × (List Int) × Unit) × (List Int) × Unit)) : Option (Bool × ((List Int) × Unit)) :=
    i_Clause_narrow_l2 K K x.2.1 x.1 x.1.2.1 (x.1.2.1.length : Int) (0 : Int) (fun z46 =>
    some (true, (z46, ()))) (fun z47 z48 =>
    some (z48, (z47, ())))
noncomputable def lv_i_Clause_narrow_J17 : Lv := [(1, (.r (.int .i64))), (2, (.bx (.v (.st (.pair (.st (.pair (.int .i64) (.pair (.int .i64) .unit))) (.pair (.sl (.int .i64)) .unit)))))), (11, (.v (.sl (.int .i64)))), (12, (.v (.int .i64))), (13, (.v (.int .i64)))]
noncomputable def lv_i_Clause_narrow_L2 : Lv := [(1, (.r (.int .i64))), (2, (.bx (.v (.st (.pair (.st (.pair (.int .i64) (.pair (.int .i64) .unit))) (.pair (.sl (.int .i64)) .unit)))))), (11, (.v (.sl (.int .i64)))), (12, (.v (.int .i64))), (13, (.v (.int .i64)))]
noncomputable def lv_i_Clause_narrow_L6 : Lv := [(1, (.r (.int .i64))), (2, (.bx (.v (.st (.pair (.st (.pair (.int .i64) (.pair (.int .i64) .unit))) (.pair (.sl (.int .i64)) .unit)))))), (5, (.v (.int .i64))), (6, (.v (.int .i64))), (7, (.bx (.v (.arr 2 .bool)))), (11, (.v (.sl (.int .i64)))), (12, (.v (.int .i64))), (13, (.v (.int .i64))), (20, (.r (.int .i64))), (21, (.v (.int .i64))), (22, (.v (.int .i64)))]
noncomputable def lv_i_Clause_narrow_N17 : Lv := [(1, (.r (.int .i64))), (2, (.bx (.v (.st (.pair (.st (.pair (.int .i64) (.pair (.int .i64) .unit))) (.pair (.sl (.int .i64)) .unit)))))), (11, (.v (.sl (.int .i64)))), (12, (.v (.int .i64))), (13, (.v (.int .i64)))]
noncomputable def lv_i_Clause_narrow_X0 : Lv := [(1, (.r (.int .i64)))]
noncomputable def lv_i_Clause_narrow_X2 : Lv := [(1, (.r (.int .i64))), (2, (.bx (.v (.st (.pair (.st (.pair (.int .i64) (.pair (.int .i64) .unit))) (.pair (.sl (.int .i64)) .unit)))))), (6, (.v (.int .i64))), (7, (.bx (.v (.arr 2 .bool)))), (11, (.v (.sl (.int .i64)))), (12, (.v (.int .i64))), (13, (.v (.int .i64)))]
noncomputable def rv_i_Clause_narrow : Lv := [(1, (.r (.int .i64))), (4, (.v .bool))]
noncomputable def gi_Clause_narrow_l6 {R : Type} (K : Nat) (k : Nat) (x : den lv_i_Clause_narrow_L6.ty) (kx : Nat → St → Option R) (kr : St → Option R) : Option R := i_Clause_narrow_l6 K k x.1 x.2.1 x.2.2.1 x.2.2.2.1 x.2.2.2.2.1 x.2.2.2.2.2.1 x.2.2.2.2.2.2.1 x.2.2.2.2.2.2.2.1 x.2.2.2.2.2.2.2.2.1 x.2.2.2.2.2.2.2.2.2.1 x.2.2.2.2.2.2.2.2.2.2.1 (fun z0 z1 z2 z3 z4 z5 z6 => kx 2 (mkSt lv_i_Clause_narrow_X2 (z0, z1, z2, z3, z4, z5, z6, ())))
noncomputable def gi_Clause_narrow_j17 {R : Type} (K : Nat) (k : Nat) (x : den lv_i_Clause_narrow_J17.ty) (kn : den lv_i_Clause_narrow_N17.ty → Option R) (kx : Nat → St → Option R) (kr : St → Option R) : Option R := i_Clause_narrow_j17 K k x.1 x.2.1 x.2.2.1 x.2.2.2.1 x.2.2.2.2.1 (fun z0 z1 z2 z3 z4 => kn (z0, z1, z2, z3, z4, ()))
noncomputable def gi_Clause_narrow_l2 {R : Type} (K : Nat) (k : Nat) (x : den lv_i_Clause_narrow_L2.ty) (kx : Nat → St → Option R) (kr : St → Option R) : Option R := i_Clause_narrow_l2 K k x.1 x.2.1 x.2.2.1 x.2.2.2.1 x.2.2.2.2.1 (fun z0 => kx 0 (mkSt lv_i_Clause_narrow_X0 (z0, ()))) (fun z0 z1 => kr (mkSt rv_i_Clause_narrow (z0, z1, ())))
noncomputable def sg_i_Clause_narrow {R : Type} (K : Nat) (k : Nat) : List (Nat × SegS R) := [(17, mkSeg lv_i_Clause_narrow_J17 lv_i_Clause_narrow_N17 (gi_Clause_narrow_j17 K k))]
noncomputable def su_i_Clause_narrow : List (Nat × Unit) := [(17, ())]
noncomputable def en_i_Clause_narrow {R : Type} (K : Nat) (k : Nat) : Env R := { L := lk [(6, mkLoop lv_i_Clause_narrow_L6 (gi_Clause_narrow_l6 K k)), (2, mkLoop lv_i_Clause_narrow_L2 (gi_Clause_narrow_l2 K k))], X := lk [(0, lv_i_Clause_narrow_X0), (2, lv_i_Clause_narrow_X2)], S := lk (sg_i_Clause_narrow K k), rv := rv_i_Clause_narrow }
noncomputable def cf_i_Clause_narrow (K : Nat) : Cfg := { ty := lk tys, fn := lk [(69, sp_i_Relation_tuples (i_Relation_tuples K)), (70, sp_i_bit (i_bit K)), (139, sp_i_Clause_isOpen (i_Clause_isOpen K))], fs := lk [], prot := 2, nt := Try.f91.ntmps }
noncomputable def c_i_Clause_narrow_L2 : Code := nthC (partsOf (hasK su_i_Clause_narrow) (bodyOf Try.f91)) 0
noncomputable def c_i_Clause_narrow_L6 : Code := nthC (partsOf (hasK su_i_Clause_narrow) c_i_Clause_narrow_L2) 0
noncomputable def c_i_Clause_narrow_J17 : Code := nthC (partsOf (hasK su_i_Clause_narrow) c_i_Clause_narrow_L2) 1
theorem ei_Clause_narrow_l6 {R : Type} (K : Nat) (k : Nat) (x : den lv_i_Clause_narrow_L6.ty) (kx : Nat → St → Option R) (kr : St → Option R) : gi_Clause_narrow_l6 K (k + 1) x kx kr = evC (cf_i_Clause_narrow K) (en_i_Clause_narrow K k) c_i_Clause_narrow_L6 (mkSt lv_i_Clause_narrow_L6 x) (fun s => mkLoop lv_i_Clause_narrow_L6 (gi_Clause_narrow_l6 K k) s kx kr) kx kr := by kernel_rfl
theorem si_Clause_narrow_l6 {R : Type} (K : Nat) (C : Cx) (hP : C.P = Try.prog) (O : CfgOk C (cf_i_Clause_narrow K)) (k : Nat) : LpS C (R := R) (mkLoop lv_i_Clause_narrow_L6 (gi_Clause_narrow_l6 K k)) c_i_Clause_narrow_L6 :=
  loop_sound O (by rw [hP]; kernel_rfl) (fun x kx kr => rfl) (ei_Clause_narrow_l6 K) (fun k => lpOk_of (en := en_i_Clause_narrow K k) (S := hasK su_i_Clause_narrow) (fun i => hasK_lk (sg_i_Clause_narrow K k) i) _ (by rw [show partsOf (hasK su_i_Clause_narrow) c_i_Clause_narrow_L6 = [] from by kernel_rfl]; exact trivial)) k
theorem ei_Clause_narrow_j17 {R : Type} (K : Nat) (k : Nat) (x : den lv_i_Clause_narrow_J17.ty) (kn : den lv_i_Clause_narrow_N17.ty → Option R) (kx : Nat → St → Option R) (kr : St → Option R) : gi_Clause_narrow_j17 K k x kn kx kr = evC (cf_i_Clause_narrow K) (en_i_Clause_narrow K k) c_i_Clause_narrow_J17 (mkSt lv_i_Clause_narrow_J17 x) (cutK lv_i_Clause_narrow_N17 kn) kx kr := by kernel_rfl
theorem si_Clause_narrow_j17 {R : Type} (K : Nat) (C : Cx) (hP : C.P = Try.prog) (O : CfgOk C (cf_i_Clause_narrow K)) (k : Nat) : SgS C (R := R) (mkSeg lv_i_Clause_narrow_J17 lv_i_Clause_narrow_N17 (gi_Clause_narrow_j17 K k)) c_i_Clause_narrow_J17 :=
  seg_sound O (by rw [hP]; kernel_rfl) (ei_Clause_narrow_j17 K k) (lpOk_of (en := en_i_Clause_narrow K k) (S := hasK su_i_Clause_narrow) (fun i => hasK_lk (sg_i_Clause_narrow K k) i) _ (by rw [show partsOf (hasK su_i_Clause_narrow) c_i_Clause_narrow_J17 = [] from by kernel_rfl]; exact trivial))
theorem ei_Clause_narrow_l2 {R : Type} (K : Nat) (k : Nat) (x : den lv_i_Clause_narrow_L2.ty) (kx : Nat → St → Option R) (kr : St → Option R) : gi_Clause_narrow_l2 K (k + 1) x kx kr = evC (cf_i_Clause_narrow K) (en_i_Clause_narrow K k) c_i_Clause_narrow_L2 (mkSt lv_i_Clause_narrow_L2 x) (fun s => mkLoop lv_i_Clause_narrow_L2 (gi_Clause_narrow_l2 K k) s kx kr) kx kr := by kernel_rfl
theorem si_Clause_narrow_l2 {R : Type} (K : Nat) (C : Cx) (hP : C.P = Try.prog) (O : CfgOk C (cf_i_Clause_narrow K)) (k : Nat) : LpS C (R := R) (mkLoop lv_i_Clause_narrow_L2 (gi_Clause_narrow_l2 K k)) c_i_Clause_narrow_L2 :=
  loop_sound O (by rw [hP]; kernel_rfl) (fun x kx kr => rfl) (ei_Clause_narrow_l2 K) (fun k => lpOk_of (en := en_i_Clause_narrow K k) (S := hasK su_i_Clause_narrow) (fun i => hasK_lk (sg_i_Clause_narrow K k) i) _ (by rw [show partsOf (hasK su_i_Clause_narrow) c_i_Clause_narrow_L2 = [(true, c_i_Clause_narrow_L6), (false, c_i_Clause_narrow_J17)] from by kernel_rfl]; exact (lpL_loop (f := mkLoop lv_i_Clause_narrow_L6 (gi_Clause_narrow_l6 K k)) (by kernel_rfl) (si_Clause_narrow_l6 K C hP O k) (lpL_seg (f := mkSeg lv_i_Clause_narrow_J17 lv_i_Clause_narrow_N17 (gi_Clause_narrow_j17 K k)) (by kernel_rfl) (si_Clause_narrow_j17 K C hP O k) trivial)))) k
theorem e_i_Clause_narrow (K : Nat) (x : den as_i_Clause_narrow) : i_Clause_narrow K x = evFn (cf_i_Clause_narrow K) as_i_Clause_narrow [false, true] (.pair .bool (.pair (.sl (.int .i64)) .unit)) (en_i_Clause_narrow K K) Try.f91.results.toList (bodyOf Try.f91) x := by kernel_rfl
theorem ok_i_Clause_narrow (K : Nat) : FnOk Try.prog 91 (sp_i_Clause_narrow (i_Clause_narrow K)) :=
  fn_ok (cf := cf_i_Clause_narrow K) (en := en_i_Clause_narrow K K) (c := bodyOf Try.f91) Try.func91 (by kernel_rfl) (by kernel_rfl) tysOk (fns_ok (l := [(69, sp_i_Relation_tuples (i_Relation_tuples K)), (70, sp_i_bit (i_bit K)), (139, sp_i_Clause_isOpen (i_Clause_isOpen K))]) ⟨ok_i_Relation_tuples K, ⟨ok_i_bit K, ⟨ok_i_Clause_isOpen K, trivial⟩⟩⟩) (shs_ok (l := []) trivial) (by kernel_rfl) rfl (Nat.le_of_ble_eq_true (by kernel_rfl)) (by kernel_rfl) (of_decide_eq_true (by kernel_rfl)) (by decide) (fun C hP O => lpOk_of (en := en_i_Clause_narrow K K) (S := hasK su_i_Clause_narrow) (fun i => hasK_lk (sg_i_Clause_narrow K K) i) _ (by rw [show partsOf (hasK su_i_Clause_narrow) (bodyOf Try.f91) = [(true, c_i_Clause_narrow_L2)] from by kernel_rfl]; exact (lpL_loop (f := mkLoop lv_i_Clause_narrow_L2 (gi_Clause_narrow_l2 K K)) (by kernel_rfl) (si_Clause_narrow_l2 K C hP O K) trivial))) (fun x y h => by rw [← e_i_Clause_narrow]; exact h)
noncomputable def as_i_Clause_satisfied : Ty := (.pair (.st (.pair (.st (.pair (.int .i64) (.pair (.int .i64) .unit))) (.pair (.sl (.int .i64)) .unit))) (.pair (.int .i64) .unit))
noncomputable def sp_i_Clause_satisfied (F : (((Int × Int × Unit) × (List Int) × Unit) × Int × Unit) → Option Bool) : FnSpec := ⟨as_i_Clause_satisfied, [false, false], .bool, F⟩
noncomputable def i_Clause_satisfied_l3 {R : Type} (K : Nat) : Nat → Int → ((Int × Int × Unit) × (List Int) × Unit) → Int → (List Int) → Int → Int → (((Int × Int × Unit) × (List Int) × Unit) → Int → Option R) → Option R
  | 0, _, _, _, _, _, _, _ => none
  | k + 1, v1, v2, v5, v9, v10, v11, kx0 =>
    (if (decide (v11 < v10)) = true then
    (if (bnds v11 (v9.length : Int)) = true then
    (i_bit K (v1, (v9.getD v11.toNat (0 : Int)), ())).bind fun y1 =>
    (if (decide ((0 : Int) ≤ v11)) = true then
    i_Clause_satisfied_l3 K k v1 v2 (bitI .or .i64 v5 (shlI .i64 y1 v11)) v9 v10 (IntKind.i64.wrap (v11 + (1 : Int))) kx0
    else
    none)
    else
    none)
    else
    kx0 v2 v5)
noncomputable def i_Clause_satisfied (K : Nat) (x : (((Int × Int × Unit) × (List Int) × Unit) × Int × Unit)) : Option Bool :=
    i_Clause_satisfied_l3 K K x.2.1 x.1 (0 : Int) x.1.2.1 (x.1.2.1.length : Int) (0 : Int) (fun z2 z3 =>
    (i_Relation_has K (z2.1, z3, ())).bind fun y4 =>
    some y4)
noncomputable def lv_i_Clause_satisfied_L3 : Lv := [(1, (.v (.int .i64))), (2, (.bx (.v (.st (.pair (.st (.pair (.int .i64) (.pair (.int .i64) .unit))) (.pair (.sl (.int .i64)) .unit)))))), (5, (.v (.int .i64))), (9, (.v (.sl (.int .i64)))), (10, (.v (.int .i64))), (11, (.v (.int .i64)))]
noncomputable def lv_i_Clause_satisfied_X0 : Lv := [(2, (.bx (.v (.st (.pair (.st (.pair (.int .i64) (.pair (.int .i64) .unit))) (.pair (.sl (.int .i64)) .unit)))))), (5, (.v (.int .i64)))]
noncomputable def rv_i_Clause_satisfied : Lv := [(4, (.v .bool))]
noncomputable def gi_Clause_satisfied_l3 {R : Type} (K : Nat) (k : Nat) (x : den lv_i_Clause_satisfied_L3.ty) (kx : Nat → St → Option R) (kr : St → Option R) : Option R := i_Clause_satisfied_l3 K k x.1 x.2.1 x.2.2.1 x.2.2.2.1 x.2.2.2.2.1 x.2.2.2.2.2.1 (fun z0 z1 => kx 0 (mkSt lv_i_Clause_satisfied_X0 (z0, z1, ())))
noncomputable def sg_i_Clause_satisfied {R : Type} (K : Nat) (k : Nat) : List (Nat × SegS R) := []
noncomputable def su_i_Clause_satisfied : List (Nat × Unit) := []
noncomputable def en_i_Clause_satisfied {R : Type} (K : Nat) (k : Nat) : Env R := { L := lk [(3, mkLoop lv_i_Clause_satisfied_L3 (gi_Clause_satisfied_l3 K k))], X := lk [(0, lv_i_Clause_satisfied_X0)], S := lk (sg_i_Clause_satisfied K k), rv := rv_i_Clause_satisfied }
noncomputable def cf_i_Clause_satisfied (K : Nat) : Cfg := { ty := lk tys, fn := lk [(62, sp_i_Relation_has (i_Relation_has K)), (70, sp_i_bit (i_bit K))], fs := lk [], prot := 0, nt := Try.f106.ntmps }
noncomputable def c_i_Clause_satisfied_L3 : Code := nthC (partsOf (hasK su_i_Clause_satisfied) (bodyOf Try.f106)) 0
theorem ei_Clause_satisfied_l3 {R : Type} (K : Nat) (k : Nat) (x : den lv_i_Clause_satisfied_L3.ty) (kx : Nat → St → Option R) (kr : St → Option R) : gi_Clause_satisfied_l3 K (k + 1) x kx kr = evC (cf_i_Clause_satisfied K) (en_i_Clause_satisfied K k) c_i_Clause_satisfied_L3 (mkSt lv_i_Clause_satisfied_L3 x) (fun s => mkLoop lv_i_Clause_satisfied_L3 (gi_Clause_satisfied_l3 K k) s kx kr) kx kr := by kernel_rfl
theorem si_Clause_satisfied_l3 {R : Type} (K : Nat) (C : Cx) (hP : C.P = Try.prog) (O : CfgOk C (cf_i_Clause_satisfied K)) (k : Nat) : LpS C (R := R) (mkLoop lv_i_Clause_satisfied_L3 (gi_Clause_satisfied_l3 K k)) c_i_Clause_satisfied_L3 :=
  loop_sound O (by rw [hP]; kernel_rfl) (fun x kx kr => rfl) (ei_Clause_satisfied_l3 K) (fun k => lpOk_of (en := en_i_Clause_satisfied K k) (S := hasK su_i_Clause_satisfied) (fun i => hasK_lk (sg_i_Clause_satisfied K k) i) _ (by rw [show partsOf (hasK su_i_Clause_satisfied) c_i_Clause_satisfied_L3 = [] from by kernel_rfl]; exact trivial)) k
theorem e_i_Clause_satisfied (K : Nat) (x : den as_i_Clause_satisfied) : i_Clause_satisfied K x = evFn (cf_i_Clause_satisfied K) as_i_Clause_satisfied [false, false] .bool (en_i_Clause_satisfied K K) Try.f106.results.toList (bodyOf Try.f106) x := by kernel_rfl
theorem ok_i_Clause_satisfied (K : Nat) : FnOk Try.prog 106 (sp_i_Clause_satisfied (i_Clause_satisfied K)) :=
  fn_ok (cf := cf_i_Clause_satisfied K) (en := en_i_Clause_satisfied K K) (c := bodyOf Try.f106) Try.func106 (by kernel_rfl) (by kernel_rfl) tysOk (fns_ok (l := [(62, sp_i_Relation_has (i_Relation_has K)), (70, sp_i_bit (i_bit K))]) ⟨ok_i_Relation_has K, ⟨ok_i_bit K, trivial⟩⟩) (shs_ok (l := []) trivial) (by kernel_rfl) rfl (Nat.le_of_ble_eq_true (by kernel_rfl)) (by kernel_rfl) (of_decide_eq_true (by kernel_rfl)) (by decide) (fun C hP O => lpOk_of (en := en_i_Clause_satisfied K K) (S := hasK su_i_Clause_satisfied) (fun i => hasK_lk (sg_i_Clause_satisfied K K) i) _ (by rw [show partsOf (hasK su_i_Clause_satisfied) (bodyOf Try.f106) = [(true, c_i_Clause_satisfied_L3)] from by kernel_rfl]; exact (lpL_loop (f := mkLoop lv_i_Clause_satisfied_L3 (gi_Clause_satisfied_l3 K K)) (by kernel_rfl) (si_Clause_satisfied_l3 K C hP O K) trivial))) (fun x y h => by rw [← e_i_Clause_satisfied]; exact h)
noncomputable def as_i_within : Ty := (.pair (.int .i64) (.pair (.int .i64) (.pair (.int .i64) .unit)))
noncomputable def sp_i_within (F : (Int × Int × Int × Unit) → Option Bool) : FnSpec := ⟨as_i_within, [false, false, false], .bool, F⟩
noncomputable def i_within (K : Nat) (x : (Int × Int × Int × Unit)) : Option Bool :=
    (if (decide (x.1 ≥ x.2.1)) = true then
    some (decide (x.1 ≤ x.2.2.1))
    else
    some false)
noncomputable def rv_i_within : Lv := [(6, (.v .bool))]
noncomputable def sg_i_within {R : Type} (K : Nat) (k : Nat) : List (Nat × SegS R) := []
noncomputable def su_i_within : List (Nat × Unit) := []
noncomputable def en_i_within {R : Type} (K : Nat) (k : Nat) : Env R := { L := lk [], X := lk [], S := lk (sg_i_within K k), rv := rv_i_within }
noncomputable def cf_i_within (K : Nat) : Cfg := { ty := lk tys, fn := lk [], fs := lk [], prot := 0, nt := Try.f67.ntmps }
theorem e_i_within (K : Nat) (x : den as_i_within) : i_within K x = evFn (cf_i_within K) as_i_within [false, false, false] .bool (en_i_within K K) Try.f67.results.toList (bodyOf Try.f67) x := by kernel_rfl
theorem ok_i_within (K : Nat) : FnOk Try.prog 67 (sp_i_within (i_within K)) :=
  fn_ok (cf := cf_i_within K) (en := en_i_within K K) (c := bodyOf Try.f67) Try.func67 (by kernel_rfl) (by kernel_rfl) tysOk (fns_ok (l := []) trivial) (shs_ok (l := []) trivial) (by kernel_rfl) rfl (Nat.le_of_ble_eq_true (by kernel_rfl)) (by kernel_rfl) (of_decide_eq_true (by kernel_rfl)) (by decide) (fun C hP O => lpOk_of (en := en_i_within K K) (S := hasK su_i_within) (fun i => hasK_lk (sg_i_within K K) i) _ (by rw [show partsOf (hasK su_i_within) (bodyOf Try.f67) = [] from by kernel_rfl]; exact trivial)) (fun x y h => by rw [← e_i_within]; exact h)
noncomputable def as_slices_IndexFunc_impl_Clause : Ty := (.pair (.sl (.st (.pair (.st (.pair (.int .i64) (.pair (.int .i64) .unit))) (.pair (.sl (.int .i64)) .unit)))) (.pair (.fn (.pair (.st (.pair (.st (.pair (.int .i64) (.pair (.int .i64) .unit))) (.pair (.sl (.int .i64)) .unit))) .unit) .bool) .unit))
noncomputable def sp_slices_IndexFunc_impl_Clause (F : ((List ((Int × Int × Unit) × (List Int) × Unit)) × ((((Int × Int × Unit) × (List Int) × Unit) × Unit) → Option Bool) × Unit) → Option Int) : FnSpec := ⟨as_slices_IndexFunc_impl_Clause, [false, false], (.int .i64), F⟩
noncomputable def slices_IndexFunc_impl_Clause_l2 {R : Type} (K : Nat) : Nat → (List ((Int × Int × Unit) × (List Int) × Unit)) → ((((Int × Int × Unit) × (List Int) × Unit) × Unit) → Option Bool) → Int → Int → (Option R) → (Int → Option R) → Option R
  | 0, _, _, _, _, _, _ => none
  | k + 1, v0, v1, v7, v8, kx0, kr =>
    (if (decide (v8 < v7)) = true then
    (if (bnds v8 (v0.length : Int)) = true then
    let x1 := (v0.getD v8.toNat (((0 : Int), (0 : Int), ()), ([] : List Int), ()))
    (v1 (x1, ())).bind fun y2 =>
    (if y2 = true then
    kr v8
    else
    slices_IndexFunc_impl_Clause_l2 K k v0 v1 v7 (IntKind.i64.wrap (v8 + (1 : Int))) kx0 kr)
    else
    none)
    else
    kx0)
noncomputable def slices_IndexFunc_impl_Clause (K : Nat) (x : ((List ((Int × Int × Unit) × (List Int) × Unit)) × ((((Int × Int × Unit) × (List Int) × Unit) × Unit) → Option Bool) × Unit)) : Option Int :=
    slices_IndexFunc_impl_Clause_l2 K K x.1 x.2.1 (x.1.length : Int) (0 : Int) (some (-1 : Int)) (fun z3 =>
    some z3)
noncomputable def lv_slices_IndexFunc_impl_Clause_L2 : Lv := [(0, (.v (.sl (.st (.pair (.st (.pair (.int .i64) (.pair (.int .i64) .unit))) (.pair (.sl (.int .i64)) .unit)))))), (1, (.v (.fn (.pair (.st (.pair (.st (.pair (.int .i64) (.pair (.int .i64) .unit))) (.pair (.sl (.int .i64)) .unit))) .unit) .bool))), (7, (.v (.int .i64))), (8, (.v (.int .i64)))]
noncomputable def lv_slices_IndexFunc_impl_Clause_X0 : Lv := []
noncomputable def rv_slices_IndexFunc_impl_Clause : Lv := [(4, (.v (.int .i64)))]
noncomputable def gslices_IndexFunc_impl_Clause_l2 {R : Type} (K : Nat) (k : Nat) (x : den lv_slices_IndexFunc_impl_Clause_L2.ty) (kx : Nat → St → Option R) (kr : St → Option R) : Option R := slices_IndexFunc_impl_Clause_l2 K k x.1 x.2.1 x.2.2.1 x.2.2.2.1 (kx 0 (mkSt lv_slices_IndexFunc_impl_Clause_X0 ())) (fun z0 => kr (mkSt rv_slices_IndexFunc_impl_Clause (z0, ())))
noncomputable def sg_slices_IndexFunc_impl_Clause {R : Type} (K : Nat) (k : Nat) : List (Nat × SegS R) := []
noncomputable def su_slices_IndexFunc_impl_Clause : List (Nat × Unit) := []
noncomputable def en_slices_IndexFunc_impl_Clause {R : Type} (K : Nat) (k : Nat) : Env R := { L := lk [(2, mkLoop lv_slices_IndexFunc_impl_Clause_L2 (gslices_IndexFunc_impl_Clause_l2 K k))], X := lk [(0, lv_slices_IndexFunc_impl_Clause_X0)], S := lk (sg_slices_IndexFunc_impl_Clause K k), rv := rv_slices_IndexFunc_impl_Clause }
noncomputable def cf_slices_IndexFunc_impl_Clause (K : Nat) : Cfg := { ty := lk tys, fn := lk [], fs := lk [], prot := 0, nt := Try.f172.ntmps }
noncomputable def c_slices_IndexFunc_impl_Clause_L2 : Code := nthC (partsOf (hasK su_slices_IndexFunc_impl_Clause) (bodyOf Try.f172)) 0
theorem eslices_IndexFunc_impl_Clause_l2 {R : Type} (K : Nat) (k : Nat) (x : den lv_slices_IndexFunc_impl_Clause_L2.ty) (kx : Nat → St → Option R) (kr : St → Option R) : gslices_IndexFunc_impl_Clause_l2 K (k + 1) x kx kr = evC (cf_slices_IndexFunc_impl_Clause K) (en_slices_IndexFunc_impl_Clause K k) c_slices_IndexFunc_impl_Clause_L2 (mkSt lv_slices_IndexFunc_impl_Clause_L2 x) (fun s => mkLoop lv_slices_IndexFunc_impl_Clause_L2 (gslices_IndexFunc_impl_Clause_l2 K k) s kx kr) kx kr := by kernel_rfl
theorem sslices_IndexFunc_impl_Clause_l2 {R : Type} (K : Nat) (C : Cx) (hP : C.P = Try.prog) (O : CfgOk C (cf_slices_IndexFunc_impl_Clause K)) (k : Nat) : LpS C (R := R) (mkLoop lv_slices_IndexFunc_impl_Clause_L2 (gslices_IndexFunc_impl_Clause_l2 K k)) c_slices_IndexFunc_impl_Clause_L2 :=
  loop_sound O (by rw [hP]; kernel_rfl) (fun x kx kr => rfl) (eslices_IndexFunc_impl_Clause_l2 K) (fun k => lpOk_of (en := en_slices_IndexFunc_impl_Clause K k) (S := hasK su_slices_IndexFunc_impl_Clause) (fun i => hasK_lk (sg_slices_IndexFunc_impl_Clause K k) i) _ (by rw [show partsOf (hasK su_slices_IndexFunc_impl_Clause) c_slices_IndexFunc_impl_Clause_L2 = [] from by kernel_rfl]; exact trivial)) k
theorem e_slices_IndexFunc_impl_Clause (K : Nat) (x : den as_slices_IndexFunc_impl_Clause) : slices_IndexFunc_impl_Clause K x = evFn (cf_slices_IndexFunc_impl_Clause K) as_slices_IndexFunc_impl_Clause [false, false] (.int .i64) (en_slices_IndexFunc_impl_Clause K K) Try.f172.results.toList (bodyOf Try.f172) x := by kernel_rfl
theorem ok_slices_IndexFunc_impl_Clause (K : Nat) : FnOk Try.prog 172 (sp_slices_IndexFunc_impl_Clause (slices_IndexFunc_impl_Clause K)) :=
  fn_ok (cf := cf_slices_IndexFunc_impl_Clause K) (en := en_slices_IndexFunc_impl_Clause K K) (c := bodyOf Try.f172) Try.func172 (by kernel_rfl) (by kernel_rfl) tysOk (fns_ok (l := []) trivial) (shs_ok (l := []) trivial) (by kernel_rfl) rfl (Nat.le_of_ble_eq_true (by kernel_rfl)) (by kernel_rfl) (of_decide_eq_true (by kernel_rfl)) (by decide) (fun C hP O => lpOk_of (en := en_slices_IndexFunc_impl_Clause K K) (S := hasK su_slices_IndexFunc_impl_Clause) (fun i => hasK_lk (sg_slices_IndexFunc_impl_Clause K K) i) _ (by rw [show partsOf (hasK su_slices_IndexFunc_impl_Clause) (bodyOf Try.f172) = [(true, c_slices_IndexFunc_impl_Clause_L2)] from by kernel_rfl]; exact (lpL_loop (f := mkLoop lv_slices_IndexFunc_impl_Clause_L2 (gslices_IndexFunc_impl_Clause_l2 K K)) (by kernel_rfl) (sslices_IndexFunc_impl_Clause_l2 K C hP O K) trivial))) (fun x y h => by rw [← e_slices_IndexFunc_impl_Clause]; exact h)
noncomputable def as_slices_ContainsFunc_impl_Clause : Ty := (.pair (.sl (.st (.pair (.st (.pair (.int .i64) (.pair (.int .i64) .unit))) (.pair (.sl (.int .i64)) .unit)))) (.pair (.fn (.pair (.st (.pair (.st (.pair (.int .i64) (.pair (.int .i64) .unit))) (.pair (.sl (.int .i64)) .unit))) .unit) .bool) .unit))
noncomputable def sp_slices_ContainsFunc_impl_Clause (F : ((List ((Int × Int × Unit) × (List Int) × Unit)) × ((((Int × Int × Unit) × (List Int) × Unit) × Unit) → Option Bool) × Unit) → Option Bool) : FnSpec := ⟨as_slices_ContainsFunc_impl_Clause, [false, false], .bool, F⟩
noncomputable def slices_ContainsFunc_impl_Clause (K : Nat) (x : ((List ((Int × Int × Unit) × (List Int) × Unit)) × ((((Int × Int × Unit) × (List Int) × Unit) × Unit) → Option Bool) × Unit)) : Option Bool :=
    (slices_IndexFunc_impl_Clause K (x.1, x.2.1, ())).bind fun y1 =>
    some (decide (y1 ≥ (0 : Int)))
noncomputable def rv_slices_ContainsFunc_impl_Clause : Lv := [(4, (.v .bool))]
noncomputable def sg_slices_ContainsFunc_impl_Clause {R : Type} (K : Nat) (k : Nat) : List (Nat × SegS R) := []
noncomputable def su_slices_ContainsFunc_impl_Clause : List (Nat × Unit) := []
noncomputable def en_slices_ContainsFunc_impl_Clause {R : Type} (K : Nat) (k : Nat) : Env R := { L := lk [], X := lk [], S := lk (sg_slices_ContainsFunc_impl_Clause K k), rv := rv_slices_ContainsFunc_impl_Clause }
noncomputable def cf_slices_ContainsFunc_impl_Clause (K : Nat) : Cfg := { ty := lk tys, fn := lk [(172, sp_slices_IndexFunc_impl_Clause (slices_IndexFunc_impl_Clause K))], fs := lk [], prot := 0, nt := Try.f135.ntmps }
theorem e_slices_ContainsFunc_impl_Clause (K : Nat) (x : den as_slices_ContainsFunc_impl_Clause) : slices_ContainsFunc_impl_Clause K x = evFn (cf_slices_ContainsFunc_impl_Clause K) as_slices_ContainsFunc_impl_Clause [false, false] .bool (en_slices_ContainsFunc_impl_Clause K K) Try.f135.results.toList (bodyOf Try.f135) x := by kernel_rfl
theorem ok_slices_ContainsFunc_impl_Clause (K : Nat) : FnOk Try.prog 135 (sp_slices_ContainsFunc_impl_Clause (slices_ContainsFunc_impl_Clause K)) :=
  fn_ok (cf := cf_slices_ContainsFunc_impl_Clause K) (en := en_slices_ContainsFunc_impl_Clause K K) (c := bodyOf Try.f135) Try.func135 (by kernel_rfl) (by kernel_rfl) tysOk (fns_ok (l := [(172, sp_slices_IndexFunc_impl_Clause (slices_IndexFunc_impl_Clause K))]) ⟨ok_slices_IndexFunc_impl_Clause K, trivial⟩) (shs_ok (l := []) trivial) (by kernel_rfl) rfl (Nat.le_of_ble_eq_true (by kernel_rfl)) (by kernel_rfl) (of_decide_eq_true (by kernel_rfl)) (by decide) (fun C hP O => lpOk_of (en := en_slices_ContainsFunc_impl_Clause K K) (S := hasK su_slices_ContainsFunc_impl_Clause) (fun i => hasK_lk (sg_slices_ContainsFunc_impl_Clause K K) i) _ (by rw [show partsOf (hasK su_slices_ContainsFunc_impl_Clause) (bodyOf Try.f135) = [] from by kernel_rfl]; exact trivial)) (fun x y h => by rw [← e_slices_ContainsFunc_impl_Clause]; exact h)
noncomputable def as_i_funcsOf : Ty := (.pair (.int .i64) .unit)
noncomputable def sp_i_funcsOf (F : (Int × Unit) → Option Int) : FnSpec := ⟨as_i_funcsOf, [false], (.int .i64), F⟩
noncomputable def i_funcsOf (K : Nat) (x : (Int × Unit)) : Option Int :=
    (i_rowsOf K (x.1, ())).bind fun y1 =>
    (if (decide ((0 : Int) ≤ y1)) = true then
    some (shlI .i64 (1 : Int) y1)
    else
    none)
noncomputable def rv_i_funcsOf : Lv := [(2, (.v (.int .i64)))]
noncomputable def sg_i_funcsOf {R : Type} (K : Nat) (k : Nat) : List (Nat × SegS R) := []
noncomputable def su_i_funcsOf : List (Nat × Unit) := []
noncomputable def en_i_funcsOf {R : Type} (K : Nat) (k : Nat) : Env R := { L := lk [], X := lk [], S := lk (sg_i_funcsOf K k), rv := rv_i_funcsOf }
noncomputable def cf_i_funcsOf (K : Nat) : Cfg := { ty := lk tys, fn := lk [(59, sp_i_rowsOf (i_rowsOf K))], fs := lk [], prot := 0, nt := Try.f117.ntmps }
theorem e_i_funcsOf (K : Nat) (x : den as_i_funcsOf) : i_funcsOf K x = evFn (cf_i_funcsOf K) as_i_funcsOf [false] (.int .i64) (en_i_funcsOf K K) Try.f117.results.toList (bodyOf Try.f117) x := by kernel_rfl
theorem ok_i_funcsOf (K : Nat) : FnOk Try.prog 117 (sp_i_funcsOf (i_funcsOf K)) :=
  fn_ok (cf := cf_i_funcsOf K) (en := en_i_funcsOf K K) (c := bodyOf Try.f117) Try.func117 (by kernel_rfl) (by kernel_rfl) tysOk (fns_ok (l := [(59, sp_i_rowsOf (i_rowsOf K))]) ⟨ok_i_rowsOf K, trivial⟩) (shs_ok (l := []) trivial) (by kernel_rfl) rfl (Nat.le_of_ble_eq_true (by kernel_rfl)) (by kernel_rfl) (of_decide_eq_true (by kernel_rfl)) (by decide) (fun C hP O => lpOk_of (en := en_i_funcsOf K K) (S := hasK su_i_funcsOf) (fun i => hasK_lk (sg_i_funcsOf K K) i) _ (by rw [show partsOf (hasK su_i_funcsOf) (bodyOf Try.f117) = [] from by kernel_rfl]; exact trivial)) (fun x y h => by rw [← e_i_funcsOf]; exact h)
noncomputable def as_i_IsRelation : Ty := (.pair (.st (.pair (.int .i64) (.pair (.int .i64) .unit))) .unit)
noncomputable def sp_i_IsRelation (F : ((Int × Int × Unit) × Unit) → Option Bool) : FnSpec := ⟨as_i_IsRelation, [false], .bool, F⟩
noncomputable def i_IsRelation (K : Nat) (x : ((Int × Int × Unit) × Unit)) : Option Bool :=
    (i_within K (x.1.1, (1 : Int), (4 : Int), ())).bind fun y1 =>
    (if y1 = true then
    (i_funcsOf K (x.1.1, ())).bind fun y2 =>
    (i_within K (x.1.2.1, (0 : Int), (IntKind.i64.wrap (y2 - (1 : Int))), ())).bind fun y3 =>
    some y3
    else
    some false)
noncomputable def rv_i_IsRelation : Lv := [(2, (.v .bool))]
noncomputable def sg_i_IsRelation {R : Type} (K : Nat) (k : Nat) : List (Nat × SegS R) := []
noncomputable def su_i_IsRelation : List (Nat × Unit) := []
noncomputable def en_i_IsRelation {R : Type} (K : Nat) (k : Nat) : Env R := { L := lk [], X := lk [], S := lk (sg_i_IsRelation K k), rv := rv_i_IsRelation }
noncomputable def cf_i_IsRelation (K : Nat) : Cfg := { ty := lk tys, fn := lk [(67, sp_i_within (i_within K)), (117, sp_i_funcsOf (i_funcsOf K))], fs := lk [], prot := 0, nt := Try.f58.ntmps }
theorem e_i_IsRelation (K : Nat) (x : den as_i_IsRelation) : i_IsRelation K x = evFn (cf_i_IsRelation K) as_i_IsRelation [false] .bool (en_i_IsRelation K K) Try.f58.results.toList (bodyOf Try.f58) x := by kernel_rfl
theorem ok_i_IsRelation (K : Nat) : FnOk Try.prog 58 (sp_i_IsRelation (i_IsRelation K)) :=
  fn_ok (cf := cf_i_IsRelation K) (en := en_i_IsRelation K K) (c := bodyOf Try.f58) Try.func58 (by kernel_rfl) (by kernel_rfl) tysOk (fns_ok (l := [(67, sp_i_within (i_within K)), (117, sp_i_funcsOf (i_funcsOf K))]) ⟨ok_i_within K, ⟨ok_i_funcsOf K, trivial⟩⟩) (shs_ok (l := []) trivial) (by kernel_rfl) rfl (Nat.le_of_ble_eq_true (by kernel_rfl)) (by kernel_rfl) (of_decide_eq_true (by kernel_rfl)) (by decide) (fun C hP O => lpOk_of (en := en_i_IsRelation K K) (S := hasK su_i_IsRelation) (fun i => hasK_lk (sg_i_IsRelation K K) i) _ (by rw [show partsOf (hasK su_i_IsRelation) (bodyOf Try.f58) = [] from by kernel_rfl]; exact trivial)) (fun x y h => by rw [← e_i_IsRelation]; exact h)
noncomputable def as_slices_IndexFunc_int64 : Ty := (.pair (.sl (.int .i64)) (.pair (.fn (.pair (.int .i64) .unit) .bool) .unit))
noncomputable def sp_slices_IndexFunc_int64 (F : ((List Int) × ((Int × Unit) → Option Bool) × Unit) → Option Int) : FnSpec := ⟨as_slices_IndexFunc_int64, [false, false], (.int .i64), F⟩
noncomputable def slices_IndexFunc_int64_l2 {R : Type} (K : Nat) : Nat → (List Int) → ((Int × Unit) → Option Bool) → Int → Int → (Option R) → (Int → Option R) → Option R
  | 0, _, _, _, _, _, _ => none
  | k + 1, v0, v1, v7, v8, kx0, kr =>
    (if (decide (v8 < v7)) = true then
    (if (bnds v8 (v0.length : Int)) = true then
    (v1 ((v0.getD v8.toNat (0 : Int)), ())).bind fun y1 =>
    (if y1 = true then
    kr v8
    else
    slices_IndexFunc_int64_l2 K k v0 v1 v7 (IntKind.i64.wrap (v8 + (1 : Int))) kx0 kr)
    else
    none)
    else
    kx0)
noncomputable def slices_IndexFunc_int64 (K : Nat) (x : ((List Int) × ((Int × Unit) → Option Bool) × Unit)) : Option Int :=
    slices_IndexFunc_int64_l2 K K x.1 x.2.1 (x.1.length : Int) (0 : Int) (some (-1 : Int)) (fun z2 =>
    some z2)
noncomputable def lv_slices_IndexFunc_int64_L2 : Lv := [(0, (.v (.sl (.int .i64)))), (1, (.v (.fn (.pair (.int .i64) .unit) .bool))), (7, (.v (.int .i64))), (8, (.v (.int .i64)))]
noncomputable def lv_slices_IndexFunc_int64_X0 : Lv := []
noncomputable def rv_slices_IndexFunc_int64 : Lv := [(4, (.v (.int .i64)))]
noncomputable def gslices_IndexFunc_int64_l2 {R : Type} (K : Nat) (k : Nat) (x : den lv_slices_IndexFunc_int64_L2.ty) (kx : Nat → St → Option R) (kr : St → Option R) : Option R := slices_IndexFunc_int64_l2 K k x.1 x.2.1 x.2.2.1 x.2.2.2.1 (kx 0 (mkSt lv_slices_IndexFunc_int64_X0 ())) (fun z0 => kr (mkSt rv_slices_IndexFunc_int64 (z0, ())))
noncomputable def sg_slices_IndexFunc_int64 {R : Type} (K : Nat) (k : Nat) : List (Nat × SegS R) := []
noncomputable def su_slices_IndexFunc_int64 : List (Nat × Unit) := []
noncomputable def en_slices_IndexFunc_int64 {R : Type} (K : Nat) (k : Nat) : Env R := { L := lk [(2, mkLoop lv_slices_IndexFunc_int64_L2 (gslices_IndexFunc_int64_l2 K k))], X := lk [(0, lv_slices_IndexFunc_int64_X0)], S := lk (sg_slices_IndexFunc_int64 K k), rv := rv_slices_IndexFunc_int64 }
noncomputable def cf_slices_IndexFunc_int64 (K : Nat) : Cfg := { ty := lk tys, fn := lk [], fs := lk [], prot := 0, nt := Try.f138.ntmps }
noncomputable def c_slices_IndexFunc_int64_L2 : Code := nthC (partsOf (hasK su_slices_IndexFunc_int64) (bodyOf Try.f138)) 0
theorem eslices_IndexFunc_int64_l2 {R : Type} (K : Nat) (k : Nat) (x : den lv_slices_IndexFunc_int64_L2.ty) (kx : Nat → St → Option R) (kr : St → Option R) : gslices_IndexFunc_int64_l2 K (k + 1) x kx kr = evC (cf_slices_IndexFunc_int64 K) (en_slices_IndexFunc_int64 K k) c_slices_IndexFunc_int64_L2 (mkSt lv_slices_IndexFunc_int64_L2 x) (fun s => mkLoop lv_slices_IndexFunc_int64_L2 (gslices_IndexFunc_int64_l2 K k) s kx kr) kx kr := by kernel_rfl
theorem sslices_IndexFunc_int64_l2 {R : Type} (K : Nat) (C : Cx) (hP : C.P = Try.prog) (O : CfgOk C (cf_slices_IndexFunc_int64 K)) (k : Nat) : LpS C (R := R) (mkLoop lv_slices_IndexFunc_int64_L2 (gslices_IndexFunc_int64_l2 K k)) c_slices_IndexFunc_int64_L2 :=
  loop_sound O (by rw [hP]; kernel_rfl) (fun x kx kr => rfl) (eslices_IndexFunc_int64_l2 K) (fun k => lpOk_of (en := en_slices_IndexFunc_int64 K k) (S := hasK su_slices_IndexFunc_int64) (fun i => hasK_lk (sg_slices_IndexFunc_int64 K k) i) _ (by rw [show partsOf (hasK su_slices_IndexFunc_int64) c_slices_IndexFunc_int64_L2 = [] from by kernel_rfl]; exact trivial)) k
theorem e_slices_IndexFunc_int64 (K : Nat) (x : den as_slices_IndexFunc_int64) : slices_IndexFunc_int64 K x = evFn (cf_slices_IndexFunc_int64 K) as_slices_IndexFunc_int64 [false, false] (.int .i64) (en_slices_IndexFunc_int64 K K) Try.f138.results.toList (bodyOf Try.f138) x := by kernel_rfl
theorem ok_slices_IndexFunc_int64 (K : Nat) : FnOk Try.prog 138 (sp_slices_IndexFunc_int64 (slices_IndexFunc_int64 K)) :=
  fn_ok (cf := cf_slices_IndexFunc_int64 K) (en := en_slices_IndexFunc_int64 K K) (c := bodyOf Try.f138) Try.func138 (by kernel_rfl) (by kernel_rfl) tysOk (fns_ok (l := []) trivial) (shs_ok (l := []) trivial) (by kernel_rfl) rfl (Nat.le_of_ble_eq_true (by kernel_rfl)) (by kernel_rfl) (of_decide_eq_true (by kernel_rfl)) (by decide) (fun C hP O => lpOk_of (en := en_slices_IndexFunc_int64 K K) (S := hasK su_slices_IndexFunc_int64) (fun i => hasK_lk (sg_slices_IndexFunc_int64 K K) i) _ (by rw [show partsOf (hasK su_slices_IndexFunc_int64) (bodyOf Try.f138) = [(true, c_slices_IndexFunc_int64_L2)] from by kernel_rfl]; exact (lpL_loop (f := mkLoop lv_slices_IndexFunc_int64_L2 (gslices_IndexFunc_int64_l2 K K)) (by kernel_rfl) (sslices_IndexFunc_int64_l2 K C hP O K) trivial))) (fun x y h => by rw [← e_slices_IndexFunc_int64]; exact h)
noncomputable def as_slices_ContainsFunc_int64 : Ty := (.pair (.sl (.int .i64)) (.pair (.fn (.pair (.int .i64) .unit) .bool) .unit))
noncomputable def sp_slices_ContainsFunc_int64 (F : ((List Int) × ((Int × Unit) → Option Bool) × Unit) → Option Bool) : FnSpec := ⟨as_slices_ContainsFunc_int64, [false, false], .bool, F⟩
noncomputable def slices_ContainsFunc_int64 (K : Nat) (x : ((List Int) × ((Int × Unit) → Option Bool) × Unit)) : Option Bool :=
    (slices_IndexFunc_int64 K (x.1, x.2.1, ())).bind fun y1 =>
    some (decide (y1 ≥ (0 : Int)))
noncomputable def rv_slices_ContainsFunc_int64 : Lv := [(4, (.v .bool))]
noncomputable def sg_slices_ContainsFunc_int64 {R : Type} (K : Nat) (k : Nat) : List (Nat × SegS R) := []
noncomputable def su_slices_ContainsFunc_int64 : List (Nat × Unit) := []
noncomputable def en_slices_ContainsFunc_int64 {R : Type} (K : Nat) (k : Nat) : Env R := { L := lk [], X := lk [], S := lk (sg_slices_ContainsFunc_int64 K k), rv := rv_slices_ContainsFunc_int64 }
noncomputable def cf_slices_ContainsFunc_int64 (K : Nat) : Cfg := { ty := lk tys, fn := lk [(138, sp_slices_IndexFunc_int64 (slices_IndexFunc_int64 K))], fs := lk [], prot := 0, nt := Try.f88.ntmps }
theorem e_slices_ContainsFunc_int64 (K : Nat) (x : den as_slices_ContainsFunc_int64) : slices_ContainsFunc_int64 K x = evFn (cf_slices_ContainsFunc_int64 K) as_slices_ContainsFunc_int64 [false, false] .bool (en_slices_ContainsFunc_int64 K K) Try.f88.results.toList (bodyOf Try.f88) x := by kernel_rfl
theorem ok_slices_ContainsFunc_int64 (K : Nat) : FnOk Try.prog 88 (sp_slices_ContainsFunc_int64 (slices_ContainsFunc_int64 K)) :=
  fn_ok (cf := cf_slices_ContainsFunc_int64 K) (en := en_slices_ContainsFunc_int64 K K) (c := bodyOf Try.f88) Try.func88 (by kernel_rfl) (by kernel_rfl) tysOk (fns_ok (l := [(138, sp_slices_IndexFunc_int64 (slices_IndexFunc_int64 K))]) ⟨ok_slices_IndexFunc_int64 K, trivial⟩) (shs_ok (l := []) trivial) (by kernel_rfl) rfl (Nat.le_of_ble_eq_true (by kernel_rfl)) (by kernel_rfl) (of_decide_eq_true (by kernel_rfl)) (by decide) (fun C hP O => lpOk_of (en := en_slices_ContainsFunc_int64 K K) (S := hasK su_slices_ContainsFunc_int64) (fun i => hasK_lk (sg_slices_ContainsFunc_int64 K K) i) _ (by rw [show partsOf (hasK su_slices_ContainsFunc_int64) (bodyOf Try.f88) = [] from by kernel_rfl]; exact trivial)) (fun x y h => by rw [← e_slices_ContainsFunc_int64]; exact h)
noncomputable def as_i_IsInstance_c1_c1 : Ty := (.pair (.int .i64) (.pair (.ptr (.st (.pair (.int .i64) (.pair (.sl (.st (.pair (.st (.pair (.int .i64) (.pair (.int .i64) .unit))) (.pair (.sl (.int .i64)) .unit)))) .unit)))) .unit))
noncomputable def sp_i_IsInstance_c1_c1 (F : (Int × (Int × (List ((Int × Int × Unit) × (List Int) × Unit)) × Unit) × Unit) → Option Bool) : FnSpec := ⟨as_i_IsInstance_c1_c1, [false, false], .bool, F⟩
noncomputable def i_IsInstance_c1_c1 (K : Nat) (x : (Int × (Int × (List ((Int × Int × Unit) × (List Int) × Unit)) × Unit) × Unit)) : Option Bool :=
    (i_within K (x.1, (0 : Int), (IntKind.i64.wrap (x.2.1.1 - (1 : Int))), ())).bind fun y1 =>
    some (!y1)
noncomputable def rv_i_IsInstance_c1_c1 : Lv := [(3, (.v .bool))]
noncomputable def sg_i_IsInstance_c1_c1 {R : Type} (K : Nat) (k : Nat) : List (Nat × SegS R) := []
noncomputable def su_i_IsInstance_c1_c1 : List (Nat × Unit) := []
noncomputable def en_i_IsInstance_c1_c1 {R : Type} (K : Nat) (k : Nat) : Env R := { L := lk [], X := lk [], S := lk (sg_i_IsInstance_c1_c1 K k), rv := rv_i_IsInstance_c1_c1 }
noncomputable def cf_i_IsInstance_c1_c1 (K : Nat) : Cfg := { ty := lk tys, fn := lk [(67, sp_i_within (i_within K))], fs := lk [], prot := 0, nt := Try.f137.ntmps }
theorem e_i_IsInstance_c1_c1 (K : Nat) (x : den as_i_IsInstance_c1_c1) : i_IsInstance_c1_c1 K x = evFn (cf_i_IsInstance_c1_c1 K) as_i_IsInstance_c1_c1 [false, false] .bool (en_i_IsInstance_c1_c1 K K) Try.f137.results.toList (bodyOf Try.f137) x := by kernel_rfl
theorem ok_i_IsInstance_c1_c1 (K : Nat) : FnOk Try.prog 137 (sp_i_IsInstance_c1_c1 (i_IsInstance_c1_c1 K)) :=
  fn_ok (cf := cf_i_IsInstance_c1_c1 K) (en := en_i_IsInstance_c1_c1 K K) (c := bodyOf Try.f137) Try.func137 (by kernel_rfl) (by kernel_rfl) tysOk (fns_ok (l := [(67, sp_i_within (i_within K))]) ⟨ok_i_within K, trivial⟩) (shs_ok (l := []) trivial) (by kernel_rfl) rfl (Nat.le_of_ble_eq_true (by kernel_rfl)) (by kernel_rfl) (of_decide_eq_true (by kernel_rfl)) (by decide) (fun C hP O => lpOk_of (en := en_i_IsInstance_c1_c1 K K) (S := hasK su_i_IsInstance_c1_c1) (fun i => hasK_lk (sg_i_IsInstance_c1_c1 K K) i) _ (by rw [show partsOf (hasK su_i_IsInstance_c1_c1) (bodyOf Try.f137) = [] from by kernel_rfl]; exact trivial)) (fun x y h => by rw [← e_i_IsInstance_c1_c1]; exact h)
noncomputable def as_i_IsInstance_c1 : Ty := (.pair (.st (.pair (.st (.pair (.int .i64) (.pair (.int .i64) .unit))) (.pair (.sl (.int .i64)) .unit))) (.pair (.ptr (.st (.pair (.int .i64) (.pair (.sl (.st (.pair (.st (.pair (.int .i64) (.pair (.int .i64) .unit))) (.pair (.sl (.int .i64)) .unit)))) .unit)))) .unit))
noncomputable def sp_i_IsInstance_c1 (F : (((Int × Int × Unit) × (List Int) × Unit) × (Int × (List ((Int × Int × Unit) × (List Int) × Unit)) × Unit) × Unit) → Option Bool) : FnSpec := ⟨as_i_IsInstance_c1, [false, false], .bool, F⟩
noncomputable def i_IsInstance_c1 (K : Nat) (x : (((Int × Int × Unit) × (List Int) × Unit) × (Int × (List ((Int × Int × Unit) × (List Int) × Unit)) × Unit) × Unit)) : Option Bool :=
    (i_IsRelation K (x.1.1, ())).bind fun y1 =>
    (if (!y1) = true then
    some true
    else
    (if (!decide ((x.1.2.1.length : Int) = x.1.1.1)) = true then
    some true
    else
    (slices_ContainsFunc_int64 K (x.1.2.1, (fun y3 => i_IsInstance_c1_c1 K (y3.1, x.2.1, ())), ())).bind fun y2 =>
    some y2))
noncomputable def rv_i_IsInstance_c1 : Lv := [(3, (.v .bool))]
noncomputable def sg_i_IsInstance_c1 {R : Type} (K : Nat) (k : Nat) : List (Nat × SegS R) := []
noncomputable def su_i_IsInstance_c1 : List (Nat × Unit) := []
noncomputable def en_i_IsInstance_c1 {R : Type} (K : Nat) (k : Nat) : Env R := { L := lk [], X := lk [], S := lk (sg_i_IsInstance_c1 K k), rv := rv_i_IsInstance_c1 }
noncomputable def cf_i_IsInstance_c1 (K : Nat) : Cfg := { ty := lk tys, fn := lk [(58, sp_i_IsRelation (i_IsRelation K)), (88, sp_slices_ContainsFunc_int64 (slices_ContainsFunc_int64 K)), (137, sp_i_IsInstance_c1_c1 (i_IsInstance_c1_c1 K))], fs := lk [], prot := 0, nt := Try.f136.ntmps }
theorem e_i_IsInstance_c1 (K : Nat) (x : den as_i_IsInstance_c1) : i_IsInstance_c1 K x = evFn (cf_i_IsInstance_c1 K) as_i_IsInstance_c1 [false, false] .bool (en_i_IsInstance_c1 K K) Try.f136.results.toList (bodyOf Try.f136) x := by kernel_rfl
theorem ok_i_IsInstance_c1 (K : Nat) : FnOk Try.prog 136 (sp_i_IsInstance_c1 (i_IsInstance_c1 K)) :=
  fn_ok (cf := cf_i_IsInstance_c1 K) (en := en_i_IsInstance_c1 K K) (c := bodyOf Try.f136) Try.func136 (by kernel_rfl) (by kernel_rfl) tysOk (fns_ok (l := [(58, sp_i_IsRelation (i_IsRelation K)), (88, sp_slices_ContainsFunc_int64 (slices_ContainsFunc_int64 K)), (137, sp_i_IsInstance_c1_c1 (i_IsInstance_c1_c1 K))]) ⟨ok_i_IsRelation K, ⟨ok_slices_ContainsFunc_int64 K, ⟨ok_i_IsInstance_c1_c1 K, trivial⟩⟩⟩) (shs_ok (l := []) trivial) (by kernel_rfl) rfl (Nat.le_of_ble_eq_true (by kernel_rfl)) (by kernel_rfl) (of_decide_eq_true (by kernel_rfl)) (by decide) (fun C hP O => lpOk_of (en := en_i_IsInstance_c1 K K) (S := hasK su_i_IsInstance_c1) (fun i => hasK_lk (sg_i_IsInstance_c1 K K) i) _ (by rw [show partsOf (hasK su_i_IsInstance_c1) (bodyOf Try.f136) = [] from by kernel_rfl]; exact trivial)) (fun x y h => by rw [← e_i_IsInstance_c1]; exact h)
noncomputable def as_i_IsInstance : Ty := (.pair (.st (.pair (.int .i64) (.pair (.sl (.st (.pair (.st (.pair (.int .i64) (.pair (.int .i64) .unit))) (.pair (.sl (.int .i64)) .unit)))) .unit))) .unit)
noncomputable def sp_i_IsInstance (F : ((Int × (List ((Int × Int × Unit) × (List Int) × Unit)) × Unit) × Unit) → Option Bool) : FnSpec := ⟨as_i_IsInstance, [false], .bool, F⟩
noncomputable def i_IsInstance (K : Nat) (x : ((Int × (List ((Int × Int × Unit) × (List Int) × Unit)) × Unit) × Unit)) : Option Bool :=
    (i_within K (x.1.1, (0 : Int), (8 : Int), ())).bind fun y1 =>
    (if y1 = true then
    (if (decide ((x.1.2.1.length : Int) ≤ (12 : Int))) = true then
    (slices_ContainsFunc_impl_Clause K (x.1.2.1, (fun y3 => i_IsInstance_c1 K (y3.1, x.1, ())), ())).bind fun y2 =>
    some (!y2)
    else
    some false)
    else
    some false)
noncomputable def rv_i_IsInstance : Lv := [(2, (.v .bool))]
noncomputable def sg_i_IsInstance {R : Type} (K : Nat) (k : Nat) : List (Nat × SegS R) := []
noncomputable def su_i_IsInstance : List (Nat × Unit) := []
noncomputable def en_i_IsInstance {R : Type} (K : Nat) (k : Nat) : Env R := { L := lk [], X := lk [], S := lk (sg_i_IsInstance K k), rv := rv_i_IsInstance }
noncomputable def cf_i_IsInstance (K : Nat) : Cfg := { ty := lk tys, fn := lk [(67, sp_i_within (i_within K)), (135, sp_slices_ContainsFunc_impl_Clause (slices_ContainsFunc_impl_Clause K)), (136, sp_i_IsInstance_c1 (i_IsInstance_c1 K))], fs := lk [], prot := 0, nt := Try.f87.ntmps }
theorem e_i_IsInstance (K : Nat) (x : den as_i_IsInstance) : i_IsInstance K x = evFn (cf_i_IsInstance K) as_i_IsInstance [false] .bool (en_i_IsInstance K K) Try.f87.results.toList (bodyOf Try.f87) x := by kernel_rfl
theorem ok_i_IsInstance (K : Nat) : FnOk Try.prog 87 (sp_i_IsInstance (i_IsInstance K)) :=
  fn_ok (cf := cf_i_IsInstance K) (en := en_i_IsInstance K K) (c := bodyOf Try.f87) Try.func87 (by kernel_rfl) (by kernel_rfl) tysOk (fns_ok (l := [(67, sp_i_within (i_within K)), (135, sp_slices_ContainsFunc_impl_Clause (slices_ContainsFunc_impl_Clause K)), (136, sp_i_IsInstance_c1 (i_IsInstance_c1 K))]) ⟨ok_i_within K, ⟨ok_slices_ContainsFunc_impl_Clause K, ⟨ok_i_IsInstance_c1 K, trivial⟩⟩⟩) (shs_ok (l := []) trivial) (by kernel_rfl) rfl (Nat.le_of_ble_eq_true (by kernel_rfl)) (by kernel_rfl) (of_decide_eq_true (by kernel_rfl)) (by decide) (fun C hP O => lpOk_of (en := en_i_IsInstance K K) (S := hasK su_i_IsInstance) (fun i => hasK_lk (sg_i_IsInstance K K) i) _ (by rw [show partsOf (hasK su_i_IsInstance) (bodyOf Try.f87) = [] from by kernel_rfl]; exact trivial)) (fun x y h => by rw [← e_i_IsInstance]; exact h)
noncomputable def as_i_Instance_solutions_c1 : Ty := (.pair (.st (.pair (.st (.pair (.int .i64) (.pair (.int .i64) .unit))) (.pair (.sl (.int .i64)) .unit))) (.pair (.ptr (.int .i64)) .unit))
noncomputable def sp_i_Instance_solutions_c1 (F : (((Int × Int × Unit) × (List Int) × Unit) × Int × Unit) → Option Bool) : FnSpec := ⟨as_i_Instance_solutions_c1, [false, false], .bool, F⟩
noncomputable def i_Instance_solutions_c1 (K : Nat) (x : (((Int × Int × Unit) × (List Int) × Unit) × Int × Unit)) : Option Bool :=
    (i_Clause_satisfied K (x.1, x.2.1, ())).bind fun y1 =>
    some (!y1)
noncomputable def rv_i_Instance_solutions_c1 : Lv := [(3, (.v .bool))]
noncomputable def sg_i_Instance_solutions_c1 {R : Type} (K : Nat) (k : Nat) : List (Nat × SegS R) := []
noncomputable def su_i_Instance_solutions_c1 : List (Nat × Unit) := []
noncomputable def en_i_Instance_solutions_c1 {R : Type} (K : Nat) (k : Nat) : Env R := { L := lk [], X := lk [], S := lk (sg_i_Instance_solutions_c1 K k), rv := rv_i_Instance_solutions_c1 }
noncomputable def cf_i_Instance_solutions_c1 (K : Nat) : Cfg := { ty := lk tys, fn := lk [(106, sp_i_Clause_satisfied (i_Clause_satisfied K))], fs := lk [], prot := 0, nt := Try.f140.ntmps }
theorem e_i_Instance_solutions_c1 (K : Nat) (x : den as_i_Instance_solutions_c1) : i_Instance_solutions_c1 K x = evFn (cf_i_Instance_solutions_c1 K) as_i_Instance_solutions_c1 [false, false] .bool (en_i_Instance_solutions_c1 K K) Try.f140.results.toList (bodyOf Try.f140) x := by kernel_rfl
theorem ok_i_Instance_solutions_c1 (K : Nat) : FnOk Try.prog 140 (sp_i_Instance_solutions_c1 (i_Instance_solutions_c1 K)) :=
  fn_ok (cf := cf_i_Instance_solutions_c1 K) (en := en_i_Instance_solutions_c1 K K) (c := bodyOf Try.f140) Try.func140 (by kernel_rfl) (by kernel_rfl) tysOk (fns_ok (l := [(106, sp_i_Clause_satisfied (i_Clause_satisfied K))]) ⟨ok_i_Clause_satisfied K, trivial⟩) (shs_ok (l := []) trivial) (by kernel_rfl) rfl (Nat.le_of_ble_eq_true (by kernel_rfl)) (by kernel_rfl) (of_decide_eq_true (by kernel_rfl)) (by decide) (fun C hP O => lpOk_of (en := en_i_Instance_solutions_c1 K K) (S := hasK su_i_Instance_solutions_c1) (fun i => hasK_lk (sg_i_Instance_solutions_c1 K K) i) _ (by rw [show partsOf (hasK su_i_Instance_solutions_c1) (bodyOf Try.f140) = [] from by kernel_rfl]; exact trivial)) (fun x y h => by rw [← e_i_Instance_solutions_c1]; exact h)
noncomputable def as_i_Instance_solutions : Ty := (.pair (.st (.pair (.int .i64) (.pair (.sl (.st (.pair (.st (.pair (.int .i64) (.pair (.int .i64) .unit))) (.pair (.sl (.int .i64)) .unit)))) .unit))) .unit)
noncomputable def sp_i_Instance_solutions (F : ((Int × (List ((Int × Int × Unit) × (List Int) × Unit)) × Unit) × Unit) → Option (List Int)) : FnSpec := ⟨as_i_Instance_solutions, [false], (.sl (.int .i64)), F⟩
noncomputable def i_Instance_solutions_l3 {R : Type} (K : Nat) : Nat → (Int × (List ((Int × Int × Unit) × (List Int) × Unit)) × Unit) → (List Int) → Int → Int → ((List Int) → Option R) → Option R
  | 0, _, _, _, _, _ => none
  | k + 1, v1, v3, v7, v8, kx0 =>
    (if (decide (v8 < v7)) = true then
    (slices_ContainsFunc_impl_Clause K (v1.2.1, (fun y2 => i_Instance_solutions_c1 K (y2.1, v8, ())), ())).bind fun y1 =>
    (if (!y1) = true then
    (if (decide (v3.length + ([v8]).length ≤ lim)) = true then
    let l3 := (v3 ++ [v8])
    i_Instance_solutions_l3 K k v1 l3 v7 (IntKind.i64.wrap (v8 + (1 : Int))) kx0
    else
    none)
    else
    i_Instance_solutions_l3 K k v1 v3 v7 (IntKind.i64.wrap (v8 + (1 : Int))) kx0)
    else
    kx0 v3)
noncomputable def i_Instance_solutions (K : Nat) (x : ((Int × (List ((Int × Int × Unit) × (List Int) × Unit)) × Unit) × Unit)) : Option (List Int) :=
    (if (decide ((0 : Int) ≤ x.1.1)) = true then
    i_Instance_solutions_l3 K K x.1 ([] : List Int) (shlI .i64 (1 : Int) x.1.1) (0 : Int) (fun z4 =>
    some z4)
    else
    none)
noncomputable def lv_i_Instance_solutions_L3 : Lv := [(1, (.bx (.v (.st (.pair (.int .i64) (.pair (.sl (.st (.pair (.st (.pair (.int .i64) (.pair (.int .i64) .unit))) (.pair (.sl (.int .i64)) .unit)))) .unit)))))), (3, (.r (.int .i64))), (7, (.v (.int .i64))), (8, (.v (.int .i64)))]
noncomputable def lv_i_Instance_solutions_X0 : Lv := [(3, (.r (.int .i64)))]
noncomputable def rv_i_Instance_solutions : Lv := [(2, (.r (.int .i64)))]
noncomputable def gi_Instance_solutions_l3 {R : Type} (K : Nat) (k : Nat) (x : den lv_i_Instance_solutions_L3.ty) (kx : Nat → St → Option R) (kr : St → Option R) : Option R := i_Instance_solutions_l3 K k x.1 x.2.1 x.2.2.1 x.2.2.2.1 (fun z0 => kx 0 (mkSt lv_i_Instance_solutions_X0 (z0, ())))
noncomputable def sg_i_Instance_solutions {R : Type} (K : Nat) (k : Nat) : List (Nat × SegS R) := []
noncomputable def su_i_Instance_solutions : List (Nat × Unit) := []
noncomputable def en_i_Instance_solutions {R : Type} (K : Nat) (k : Nat) : Env R := { L := lk [(3, mkLoop lv_i_Instance_solutions_L3 (gi_Instance_solutions_l3 K k))], X := lk [(0, lv_i_Instance_solutions_X0)], S := lk (sg_i_Instance_solutions K k), rv := rv_i_Instance_solutions }
noncomputable def cf_i_Instance_solutions (K : Nat) : Cfg := { ty := lk tys, fn := lk [(135, sp_slices_ContainsFunc_impl_Clause (slices_ContainsFunc_impl_Clause K)), (140, sp_i_Instance_solutions_c1 (i_Instance_solutions_c1 K))], fs := lk [], prot := 0, nt := Try.f96.ntmps }
noncomputable def c_i_Instance_solutions_L3 : Code := nthC (partsOf (hasK su_i_Instance_solutions) (bodyOf Try.f96)) 0
theorem ei_Instance_solutions_l3 {R : Type} (K : Nat) (k : Nat) (x : den lv_i_Instance_solutions_L3.ty) (kx : Nat → St → Option R) (kr : St → Option R) : gi_Instance_solutions_l3 K (k + 1) x kx kr = evC (cf_i_Instance_solutions K) (en_i_Instance_solutions K k) c_i_Instance_solutions_L3 (mkSt lv_i_Instance_solutions_L3 x) (fun s => mkLoop lv_i_Instance_solutions_L3 (gi_Instance_solutions_l3 K k) s kx kr) kx kr := by kernel_rfl
theorem si_Instance_solutions_l3 {R : Type} (K : Nat) (C : Cx) (hP : C.P = Try.prog) (O : CfgOk C (cf_i_Instance_solutions K)) (k : Nat) : LpS C (R := R) (mkLoop lv_i_Instance_solutions_L3 (gi_Instance_solutions_l3 K k)) c_i_Instance_solutions_L3 :=
  loop_sound O (by rw [hP]; kernel_rfl) (fun x kx kr => rfl) (ei_Instance_solutions_l3 K) (fun k => lpOk_of (en := en_i_Instance_solutions K k) (S := hasK su_i_Instance_solutions) (fun i => hasK_lk (sg_i_Instance_solutions K k) i) _ (by rw [show partsOf (hasK su_i_Instance_solutions) c_i_Instance_solutions_L3 = [] from by kernel_rfl]; exact trivial)) k
theorem e_i_Instance_solutions (K : Nat) (x : den as_i_Instance_solutions) : i_Instance_solutions K x = evFn (cf_i_Instance_solutions K) as_i_Instance_solutions [false] (.sl (.int .i64)) (en_i_Instance_solutions K K) Try.f96.results.toList (bodyOf Try.f96) x := by kernel_rfl
theorem ok_i_Instance_solutions (K : Nat) : FnOk Try.prog 96 (sp_i_Instance_solutions (i_Instance_solutions K)) :=
  fn_ok (cf := cf_i_Instance_solutions K) (en := en_i_Instance_solutions K K) (c := bodyOf Try.f96) Try.func96 (by kernel_rfl) (by kernel_rfl) tysOk (fns_ok (l := [(135, sp_slices_ContainsFunc_impl_Clause (slices_ContainsFunc_impl_Clause K)), (140, sp_i_Instance_solutions_c1 (i_Instance_solutions_c1 K))]) ⟨ok_slices_ContainsFunc_impl_Clause K, ⟨ok_i_Instance_solutions_c1 K, trivial⟩⟩) (shs_ok (l := []) trivial) (by kernel_rfl) rfl (Nat.le_of_ble_eq_true (by kernel_rfl)) (by kernel_rfl) (of_decide_eq_true (by kernel_rfl)) (by decide) (fun C hP O => lpOk_of (en := en_i_Instance_solutions K K) (S := hasK su_i_Instance_solutions) (fun i => hasK_lk (sg_i_Instance_solutions K K) i) _ (by rw [show partsOf (hasK su_i_Instance_solutions) (bodyOf Try.f96) = [(true, c_i_Instance_solutions_L3)] from by kernel_rfl]; exact (lpL_loop (f := mkLoop lv_i_Instance_solutions_L3 (gi_Instance_solutions_l3 K K)) (by kernel_rfl) (si_Instance_solutions_l3 K C hP O K) trivial))) (fun x y h => by rw [← e_i_Instance_solutions]; exact h)
noncomputable def as_i_SolutionsOf : Ty := (.pair (.st (.pair (.int .i64) (.pair (.sl (.st (.pair (.st (.pair (.int .i64) (.pair (.int .i64) .unit))) (.pair (.sl (.int .i64)) .unit)))) .unit))) .unit)
noncomputable def sp_i_SolutionsOf (F : ((Int × (List ((Int × Int × Unit) × (List Int) × Unit)) × Unit) × Unit) → Option ((List Int) × Int × Unit)) : FnSpec := ⟨as_i_SolutionsOf, [false], (.tup (.pair (.sl (.int .i64)) (.pair (.int .i64) .unit))), F⟩
noncomputable def i_SolutionsOf (K : Nat) (x : ((Int × (List ((Int × Int × Unit) × (List Int) × Unit)) × Unit) × Unit)) : Option ((List Int) × Int × Unit) :=
    (i_IsInstance K (x.1, ())).bind fun y1 =>
    (if (!y1) = true then
    some (([] : List Int), (1 : Int), ())
    else
    (i_Instance_solutions K (x.1, ())).bind fun y2 =>
    some (y2, (0 : Int), ()))
noncomputable def rv_i_SolutionsOf : Lv := [(2, (.r (.int .i64))), (3, (.v (.int .i64)))]
noncomputable def sg_i_SolutionsOf {R : Type} (K : Nat) (k : Nat) : List (Nat × SegS R) := []
noncomputable def su_i_SolutionsOf : List (Nat × Unit) := []
noncomputable def en_i_SolutionsOf {R : Type} (K : Nat) (k : Nat) : Env R := { L := lk [], X := lk [], S := lk (sg_i_SolutionsOf K k), rv := rv_i_SolutionsOf }
noncomputable def cf_i_SolutionsOf (K : Nat) : Cfg := { ty := lk tys, fn := lk [(87, sp_i_IsInstance (i_IsInstance K)), (96, sp_i_Instance_solutions (i_Instance_solutions K))], fs := lk [], prot := 0, nt := Try.f30.ntmps }
theorem e_i_SolutionsOf (K : Nat) (x : den as_i_SolutionsOf) : i_SolutionsOf K x = evFn (cf_i_SolutionsOf K) as_i_SolutionsOf [false] (.tup (.pair (.sl (.int .i64)) (.pair (.int .i64) .unit))) (en_i_SolutionsOf K K) Try.f30.results.toList (bodyOf Try.f30) x := by kernel_rfl
theorem ok_i_SolutionsOf (K : Nat) : FnOk Try.prog 30 (sp_i_SolutionsOf (i_SolutionsOf K)) :=
  fn_ok (cf := cf_i_SolutionsOf K) (en := en_i_SolutionsOf K K) (c := bodyOf Try.f30) Try.func30 (by kernel_rfl) (by kernel_rfl) tysOk (fns_ok (l := [(87, sp_i_IsInstance (i_IsInstance K)), (96, sp_i_Instance_solutions (i_Instance_solutions K))]) ⟨ok_i_IsInstance K, ⟨ok_i_Instance_solutions K, trivial⟩⟩) (shs_ok (l := []) trivial) (by kernel_rfl) rfl (Nat.le_of_ble_eq_true (by kernel_rfl)) (by kernel_rfl) (of_decide_eq_true (by kernel_rfl)) (by decide) (fun C hP O => lpOk_of (en := en_i_SolutionsOf K K) (S := hasK su_i_SolutionsOf) (fun i => hasK_lk (sg_i_SolutionsOf K K) i) _ (by rw [show partsOf (hasK su_i_SolutionsOf) (bodyOf Try.f30) = [] from by kernel_rfl]; exact trivial)) (fun x y h => by rw [← e_i_SolutionsOf]; exact h)
noncomputable def as_i_CountSolutions : Ty := (.pair (.st (.pair (.int .i64) (.pair (.sl (.st (.pair (.st (.pair (.int .i64) (.pair (.int .i64) .unit))) (.pair (.sl (.int .i64)) .unit)))) .unit))) .unit)
noncomputable def sp_i_CountSolutions (F : ((Int × (List ((Int × Int × Unit) × (List Int) × Unit)) × Unit) × Unit) → Option (Int × Int × Unit)) : FnSpec := ⟨as_i_CountSolutions, [false], (.tup (.pair (.int .i64) (.pair (.int .i64) .unit))), F⟩
noncomputable def i_CountSolutions (K : Nat) (x : ((Int × (List ((Int × Int × Unit) × (List Int) × Unit)) × Unit) × Unit)) : Option (Int × Int × Unit) :=
    (i_SolutionsOf K (x.1, ())).bind fun y1 =>
    some ((y1.1.length : Int), y1.2.1, ())
noncomputable def rv_i_CountSolutions : Lv := [(2, (.v (.int .i64))), (3, (.v (.int .i64)))]
noncomputable def sg_i_CountSolutions {R : Type} (K : Nat) (k : Nat) : List (Nat × SegS R) := []
noncomputable def su_i_CountSolutions : List (Nat × Unit) := []
noncomputable def en_i_CountSolutions {R : Type} (K : Nat) (k : Nat) : Env R := { L := lk [], X := lk [], S := lk (sg_i_CountSolutions K k), rv := rv_i_CountSolutions }
noncomputable def cf_i_CountSolutions (K : Nat) : Cfg := { ty := lk tys, fn := lk [(30, sp_i_SolutionsOf (i_SolutionsOf K))], fs := lk [], prot := 0, nt := Try.f35.ntmps }
theorem e_i_CountSolutions (K : Nat) (x : den as_i_CountSolutions) : i_CountSolutions K x = evFn (cf_i_CountSolutions K) as_i_CountSolutions [false] (.tup (.pair (.int .i64) (.pair (.int .i64) .unit))) (en_i_CountSolutions K K) Try.f35.results.toList (bodyOf Try.f35) x := by kernel_rfl
theorem ok_i_CountSolutions (K : Nat) : FnOk Try.prog 35 (sp_i_CountSolutions (i_CountSolutions K)) :=
  fn_ok (cf := cf_i_CountSolutions K) (en := en_i_CountSolutions K K) (c := bodyOf Try.f35) Try.func35 (by kernel_rfl) (by kernel_rfl) tysOk (fns_ok (l := [(30, sp_i_SolutionsOf (i_SolutionsOf K))]) ⟨ok_i_SolutionsOf K, trivial⟩) (shs_ok (l := []) trivial) (by kernel_rfl) rfl (Nat.le_of_ble_eq_true (by kernel_rfl)) (by kernel_rfl) (of_decide_eq_true (by kernel_rfl)) (by decide) (fun C hP O => lpOk_of (en := en_i_CountSolutions K K) (S := hasK su_i_CountSolutions) (fun i => hasK_lk (sg_i_CountSolutions K K) i) _ (by rw [show partsOf (hasK su_i_CountSolutions) (bodyOf Try.f35) = [] from by kernel_rfl]; exact trivial)) (fun x y h => by rw [← e_i_CountSolutions]; exact h)
noncomputable def as_slices_Clone_int64 : Ty := (.pair (.sl (.int .i64)) .unit)
noncomputable def sp_slices_Clone_int64 (F : ((List Int) × Unit) → Option (List Int)) : FnSpec := ⟨as_slices_Clone_int64, [false], (.sl (.int .i64)), F⟩
noncomputable def slices_Clone_int64 (K : Nat) (x : List Int × Unit) : Option (List Int) := if x.1.length ≤ lim then some x.1 else none
noncomputable def ren_slices_Clone_int64 : Go.Shelf.Ren := ⟨fun _ => 90, fun k => bif Nat.beq k 22 then 30 else bif Nat.beq k 23 then 2 else 4, fun k => k⟩
theorem lays_slices_Clone_int64 : SlLaysE0.n41 Try.prog ren_slices_Clone_int64 :=
  ⟨by kernel_rfl, ⟨Try.f90.name, by kernel_rfl, by kernel_rfl⟩, Try.underlying4, Try.isAgg4, Try.sizeOf4, Try.zeroValue4, Try.underlying30, Try.isAgg30, Try.sizeOf30, Try.zeroValue30⟩
theorem ok_slices_Clone_int64 (K : Nat) : FnOk Try.prog 90 (sp_slices_Clone_int64 (slices_Clone_int64 K)) := clone_ok (ty := lk tys) lays_slices_Clone_int64 (tysOk 2 _ rfl) rfl (z := .val (.int .i64) (0 : Int)) rfl rfl (by decide)
noncomputable def as_i_copied : Ty := (.pair (.sl (.st (.pair (.st (.pair (.int .i64) (.pair (.int .i64) .unit))) (.pair (.sl (.int .i64)) .unit)))) .unit)
noncomputable def sp_i_copied (F : ((List ((Int × Int × Unit) × (List Int) × Unit)) × Unit) → Option (List ((Int × Int × Unit) × (List Int) × Unit))) : FnSpec := ⟨as_i_copied, [false], (.sl (.st (.pair (.st (.pair (.int .i64) (.pair (.int .i64) .unit))) (.pair (.sl (.int .i64)) .unit)))), F⟩
noncomputable def i_copied_l3 {R : Type} (K : Nat) : Nat → (List ((Int × Int × Unit) × (List Int) × Unit)) → (List ((Int × Int × Unit) × (List Int) × Unit)) → Int → Int → ((List ((Int × Int × Unit) × (List Int) × Unit)) → Option R) → Option R
  | 0, _, _, _, _, _ => none
  | k + 1, v3, v6, v7, v8, kx0 =>
    (if (decide (v8 < v7)) = true then
    (if (bnds v8 (v6.length : Int)) = true then
    let x1 := (v6.getD v8.toNat (((0 : Int), (0 : Int), ()), ([] : List Int), ()))
    (slices_Clone_int64 K (x1.2.1, ())).bind fun y2 =>
    let l3 := [(x1.1, y2, ())]
    (if (decide (v3.length + l3.length ≤ lim)) = true then
    let l4 := (v3 ++ l3)
    i_copied_l3 K k l4 v6 v7 (IntKind.i64.wrap (v8 + (1 : Int))) kx0
    else
    none)
    else
    none)
    else
    kx0 v3)
noncomputable def i_copied (K : Nat) (x : ((List ((Int × Int × Unit) × (List Int) × Unit)) × Unit)) : Option (List ((Int × Int × Unit) × (List Int) × Unit)) :=
    i_copied_l3 K K ([] : List ((Int × Int × Unit) × (List Int) × Unit)) x.1 (x.1.length : Int) (0 : Int) (fun z5 =>
    some z5)
noncomputable def lv_i_copied_L3 : Lv := [(3, (.r (.st (.pair (.st (.pair (.int .i64) (.pair (.int .i64) .unit))) (.pair (.sl (.int .i64)) .unit))))), (6, (.v (.sl (.st (.pair (.st (.pair (.int .i64) (.pair (.int .i64) .unit))) (.pair (.sl (.int .i64)) .unit)))))), (7, (.v (.int .i64))), (8, (.v (.int .i64)))]
noncomputable def lv_i_copied_X0 : Lv := [(3, (.r (.st (.pair (.st (.pair (.int .i64) (.pair (.int .i64) .unit))) (.pair (.sl (.int .i64)) .unit)))))]
noncomputable def rv_i_copied : Lv := [(2, (.r (.st (.pair (.st (.pair (.int .i64) (.pair (.int .i64) .unit))) (.pair (.sl (.int .i64)) .unit)))))]
noncomputable def gi_copied_l3 {R : Type} (K : Nat) (k : Nat) (x : den lv_i_copied_L3.ty) (kx : Nat → St → Option R) (kr : St → Option R) : Option R := i_copied_l3 K k x.1 x.2.1 x.2.2.1 x.2.2.2.1 (fun z0 => kx 0 (mkSt lv_i_copied_X0 (z0, ())))
noncomputable def sg_i_copied {R : Type} (K : Nat) (k : Nat) : List (Nat × SegS R) := []
noncomputable def su_i_copied : List (Nat × Unit) := []
noncomputable def en_i_copied {R : Type} (K : Nat) (k : Nat) : Env R := { L := lk [(3, mkLoop lv_i_copied_L3 (gi_copied_l3 K k))], X := lk [(0, lv_i_copied_X0)], S := lk (sg_i_copied K k), rv := rv_i_copied }
noncomputable def cf_i_copied (K : Nat) : Cfg := { ty := lk tys, fn := lk [(90, sp_slices_Clone_int64 (slices_Clone_int64 K))], fs := lk [], prot := 0, nt := Try.f98.ntmps }
noncomputable def c_i_copied_L3 : Code := nthC (partsOf (hasK su_i_copied) (bodyOf Try.f98)) 0
theorem ei_copied_l3 {R : Type} (K : Nat) (k : Nat) (x : den lv_i_copied_L3.ty) (kx : Nat → St → Option R) (kr : St → Option R) : gi_copied_l3 K (k + 1) x kx kr = evC (cf_i_copied K) (en_i_copied K k) c_i_copied_L3 (mkSt lv_i_copied_L3 x) (fun s => mkLoop lv_i_copied_L3 (gi_copied_l3 K k) s kx kr) kx kr := by kernel_rfl
theorem si_copied_l3 {R : Type} (K : Nat) (C : Cx) (hP : C.P = Try.prog) (O : CfgOk C (cf_i_copied K)) (k : Nat) : LpS C (R := R) (mkLoop lv_i_copied_L3 (gi_copied_l3 K k)) c_i_copied_L3 :=
  loop_sound O (by rw [hP]; kernel_rfl) (fun x kx kr => rfl) (ei_copied_l3 K) (fun k => lpOk_of (en := en_i_copied K k) (S := hasK su_i_copied) (fun i => hasK_lk (sg_i_copied K k) i) _ (by rw [show partsOf (hasK su_i_copied) c_i_copied_L3 = [] from by kernel_rfl]; exact trivial)) k
theorem e_i_copied (K : Nat) (x : den as_i_copied) : i_copied K x = evFn (cf_i_copied K) as_i_copied [false] (.sl (.st (.pair (.st (.pair (.int .i64) (.pair (.int .i64) .unit))) (.pair (.sl (.int .i64)) .unit)))) (en_i_copied K K) Try.f98.results.toList (bodyOf Try.f98) x := by kernel_rfl
theorem ok_i_copied (K : Nat) : FnOk Try.prog 98 (sp_i_copied (i_copied K)) :=
  fn_ok (cf := cf_i_copied K) (en := en_i_copied K K) (c := bodyOf Try.f98) Try.func98 (by kernel_rfl) (by kernel_rfl) tysOk (fns_ok (l := [(90, sp_slices_Clone_int64 (slices_Clone_int64 K))]) ⟨ok_slices_Clone_int64 K, trivial⟩) (shs_ok (l := []) trivial) (by kernel_rfl) rfl (Nat.le_of_ble_eq_true (by kernel_rfl)) (by kernel_rfl) (of_decide_eq_true (by kernel_rfl)) (by decide) (fun C hP O => lpOk_of (en := en_i_copied K K) (S := hasK su_i_copied) (fun i => hasK_lk (sg_i_copied K K) i) _ (by rw [show partsOf (hasK su_i_copied) (bodyOf Try.f98) = [(true, c_i_copied_L3)] from by kernel_rfl]; exact (lpL_loop (f := mkLoop lv_i_copied_L3 (gi_copied_l3 K K)) (by kernel_rfl) (si_copied_l3 K C hP O K) trivial))) (fun x y h => by rw [← e_i_copied]; exact h)
noncomputable def as_i_FixVar : Ty := (.pair (.st (.pair (.int .i64) (.pair (.sl (.st (.pair (.st (.pair (.int .i64) (.pair (.int .i64) .unit))) (.pair (.sl (.int .i64)) .unit)))) .unit))) (.pair (.int .i64) (.pair (.int .i64) .unit)))
noncomputable def sp_i_FixVar (F : ((Int × (List ((Int × Int × Unit) × (List Int) × Unit)) × Unit) × Int × Int × Unit) → Option ((Int × (List ((Int × Int × Unit) × (List Int) × Unit)) × Unit) × Int × Unit)) : FnSpec := ⟨as_i_FixVar, [false, false, false], (.tup (.pair (.st (.pair (.int .i64) (.pair (.sl (.st (.pair (.st (.pair (.int .i64) (.pair (.int .i64) .unit))) (.pair (.sl (.int .i64)) .unit)))) .unit))) (.pair (.int .i64) .unit))), F⟩
noncomputable def i_FixVar_j7 {R : Type} (K : Nat) (k : Nat) (v1 : Int) (v2 : Int) (v3 : (Int × (List ((Int × Int × Unit) × (List Int) × Unit)) × Unit)) (v6_0 : Int) (v6_1 : (List ((Int × Int × Unit) × (List Int) × Unit))) (kn : Option R) (kr : (Int → (List ((Int × Int × Unit) × (List Int) × Unit)) → Int → Option R)) : Option R :=
    (i_copied K (v3.2.1, ())).bind fun y4 =>
    (if (decide ((0 : Int) ≤ v2)) = true then
    let x5 := (((1 : Int), ((0 : Int), (0 : Int), ()).2.1, ()).1, (shlI .i64 (1 : Int) v2), ())
    let l6 := [(x5, [v1], ())]
    (if (decide (y4.length + l6.length ≤ lim)) = true then
    let l7 := (y4 ++ l6)
    kr v3.1 l7 (0 : Int)
    else
    none)
    else
    none)
noncomputable def i_FixVar (K : Nat) (x : ((Int × (List ((Int × Int × Unit) × (List Int) × Unit)) × Unit) × Int × Int × Unit)) : Option ((Int × (List ((Int × Int × Unit) × (List Int) × Unit)) × Unit) × Int × Unit) :=
    (i_IsInstance K (x.1, ())).bind fun y1 =>
    (if (!y1) = true then
    some (((0 : Int), ([] : List ((Int × Int × Unit) × (List Int) × Unit)), ()), (1 : Int), ())
    else
    (i_within K (x.2.1, (0 : Int), (IntKind.i64.wrap (x.1.1 - (1 : Int))), ())).bind fun y2 =>
    (if (!y2) = true then
    some (((0 : Int), ([] : List ((Int × Int × Unit) × (List Int) × Unit)), ()), (2 : Int), ())
    else
    (i_within K (x.2.2.1, (0 : Int), (1 : Int), ())).bind fun y3 =>
    (if (!y3) = true then
    some (((0 : Int), ([] : List ((Int × Int × Unit) × (List Int) × Unit)), ()), (2 : Int), ())
    else
    (if (decide ((x.1.2.1.length : Int) = (12 : Int))) = true then
    some (((0 : Int), ([] : List ((Int × Int × Unit) × (List Int) × Unit)), ()), (3 : Int), ())
    else
    i_FixVar_j7 K K x.2.1 x.2.2.1 x.1 (0 : Int) ([] : List ((Int × Int × Unit) × (List Int) × Unit)) none (fun z8 z9 z10 =>
    some ((z8, z9, ()), z10, ()))))))
noncomputable def lv_i_FixVar_J7 : Lv := [(1, (.v (.int .i64))), (2, (.v (.int .i64))), (3, (.bx (.v (.st (.pair (.int .i64) (.pair (.sl (.st (.pair (.st (.pair (.int .i64) (.pair (.int .i64) .unit))) (.pair (.sl (.int .i64)) .unit)))) .unit)))))), (6, (.bx (.st (.pair (.v (.int .i64)) (.pair (.r (.st (.pair (.st (.pair (.int .i64) (.pair (.int .i64) .unit))) (.pair (.sl (.int .i64)) .unit)))) .unit)))))]
noncomputable def lv_i_FixVar_N7 : Lv := []
noncomputable def rv_i_FixVar : Lv := [(6, (.bx (.st (.pair (.v (.int .i64)) (.pair (.r (.st (.pair (.st (.pair (.int .i64) (.pair (.int .i64) .unit))) (.pair (.sl (.int .i64)) .unit)))) .unit))))), (7, (.v (.int .i64)))]
noncomputable def gi_FixVar_j7 {R : Type} (K : Nat) (k : Nat) (x : den lv_i_FixVar_J7.ty) (kn : den lv_i_FixVar_N7.ty → Option R) (kx : Nat → St → Option R) (kr : St → Option R) : Option R := i_FixVar_j7 K k x.1 x.2.1 x.2.2.1 x.2.2.2.1.1 x.2.2.2.1.2.1 (kn ()) (fun z0 z1 z2 => kr (mkSt rv_i_FixVar ((z0, z1, ()), z2, ())))
noncomputable def sg_i_FixVar {R : Type} (K : Nat) (k : Nat) : List (Nat × SegS R) := [(7, mkSeg lv_i_FixVar_J7 lv_i_FixVar_N7 (gi_FixVar_j7 K k))]
noncomputable def su_i_FixVar : List (Nat × Unit) := [(7, ())]
noncomputable def en_i_FixVar {R : Type} (K : Nat) (k : Nat) : Env R := { L := lk [], X := lk [], S := lk (sg_i_FixVar K k), rv := rv_i_FixVar }
noncomputable def cf_i_FixVar (K : Nat) : Cfg := { ty := lk tys, fn := lk [(67, sp_i_within (i_within K)), (87, sp_i_IsInstance (i_IsInstance K)), (98, sp_i_copied (i_copied K))], fs := lk [], prot := 0, nt := Try.f32.ntmps }
noncomputable def c_i_FixVar_J7 : Code := nthC (partsOf (hasK su_i_FixVar) (bodyOf Try.f32)) 0
theorem ei_FixVar_j7 {R : Type} (K : Nat) (k : Nat) (x : den lv_i_FixVar_J7.ty) (kn : den lv_i_FixVar_N7.ty → Option R) (kx : Nat → St → Option R) (kr : St → Option R) : gi_FixVar_j7 K k x kn kx kr = evC (cf_i_FixVar K) (en_i_FixVar K k) c_i_FixVar_J7 (mkSt lv_i_FixVar_J7 x) (cutK lv_i_FixVar_N7 kn) kx kr := by kernel_rfl
theorem si_FixVar_j7 {R : Type} (K : Nat) (C : Cx) (hP : C.P = Try.prog) (O : CfgOk C (cf_i_FixVar K)) (k : Nat) : SgS C (R := R) (mkSeg lv_i_FixVar_J7 lv_i_FixVar_N7 (gi_FixVar_j7 K k)) c_i_FixVar_J7 :=
  seg_sound O (by rw [hP]; kernel_rfl) (ei_FixVar_j7 K k) (lpOk_of (en := en_i_FixVar K k) (S := hasK su_i_FixVar) (fun i => hasK_lk (sg_i_FixVar K k) i) _ (by rw [show partsOf (hasK su_i_FixVar) c_i_FixVar_J7 = [] from by kernel_rfl]; exact trivial))
theorem e_i_FixVar (K : Nat) (x : den as_i_FixVar) : i_FixVar K x = evFn (cf_i_FixVar K) as_i_FixVar [false, false, false] (.tup (.pair (.st (.pair (.int .i64) (.pair (.sl (.st (.pair (.st (.pair (.int .i64) (.pair (.int .i64) .unit))) (.pair (.sl (.int .i64)) .unit)))) .unit))) (.pair (.int .i64) .unit))) (en_i_FixVar K K) Try.f32.results.toList (bodyOf Try.f32) x := by kernel_rfl
theorem ok_i_FixVar (K : Nat) : FnOk Try.prog 32 (sp_i_FixVar (i_FixVar K)) :=
  fn_ok (cf := cf_i_FixVar K) (en := en_i_FixVar K K) (c := bodyOf Try.f32) Try.func32 (by kernel_rfl) (by kernel_rfl) tysOk (fns_ok (l := [(67, sp_i_within (i_within K)), (87, sp_i_IsInstance (i_IsInstance K)), (98, sp_i_copied (i_copied K))]) ⟨ok_i_within K, ⟨ok_i_IsInstance K, ⟨ok_i_copied K, trivial⟩⟩⟩) (shs_ok (l := []) trivial) (by kernel_rfl) rfl (Nat.le_of_ble_eq_true (by kernel_rfl)) (by kernel_rfl) (of_decide_eq_true (by kernel_rfl)) (by decide) (fun C hP O => lpOk_of (en := en_i_FixVar K K) (S := hasK su_i_FixVar) (fun i => hasK_lk (sg_i_FixVar K K) i) _ (by rw [show partsOf (hasK su_i_FixVar) (bodyOf Try.f32) = [(false, c_i_FixVar_J7)] from by kernel_rfl]; exact (lpL_seg (f := mkSeg lv_i_FixVar_J7 lv_i_FixVar_N7 (gi_FixVar_j7 K K)) (by kernel_rfl) (si_FixVar_j7 K C hP O K) trivial))) (fun x y h => by rw [← e_i_FixVar]; exact h)
noncomputable def as_i_solved : Ty := (.pair (.st (.pair (.int .i64) (.pair (.sl (.st (.pair (.st (.pair (.int .i64) (.pair (.int .i64) .unit))) (.pair (.sl (.int .i64)) .unit)))) .unit))) .unit)
noncomputable def sp_i_solved (F : ((Int × (List ((Int × Int × Unit) × (List Int) × Unit)) × Unit) × Unit) → Option ((List Int) × Int × Unit)) : FnSpec := ⟨as_i_solved, [false], (.tup (.pair (.sl (.int .i64)) (.pair (.int .i64) .unit))), F⟩
noncomputable def i_solved_j4 {R : Type} (K : Nat) (k : Nat) (v4 : (List Int)) (v5 : Int) (kn : Option R) (kr : ((List Int) → Int → Option R)) : Option R :=
    kr v4 v5
noncomputable def i_solved (K : Nat) (x : ((Int × (List ((Int × Int × Unit) × (List Int) × Unit)) × Unit) × Unit)) : Option ((List Int) × Int × Unit) :=
    (i_SolutionsOf K (x.1, ())).bind fun y1 =>
    (if (decide (y1.2.1 = (0 : Int))) = true then
    (if (decide ((y1.1.length : Int) = (0 : Int))) = true then
    i_solved_j4 K K y1.1 (4 : Int) none (fun z2 z3 =>
    some (z2, z3, ()))
    else
    i_solved_j4 K K y1.1 y1.2.1 none (fun z4 z5 =>
    some (z4, z5, ())))
    else
    i_solved_j4 K K y1.1 y1.2.1 none (fun z6 z7 =>
    some (z6, z7, ())))
noncomputable def lv_i_solved_J4 : Lv := [(4, (.r (.int .i64))), (5, (.v (.int .i64)))]
noncomputable def lv_i_solved_N4 : Lv := []
noncomputable def rv_i_solved : Lv := [(2, (.r (.int .i64))), (3, (.v (.int .i64)))]
noncomputable def gi_solved_j4 {R : Type} (K : Nat) (k : Nat) (x : den lv_i_solved_J4.ty) (kn : den lv_i_solved_N4.ty → Option R) (kx : Nat → St → Option R) (kr : St → Option R) : Option R := i_solved_j4 K k x.1 x.2.1 (kn ()) (fun z0 z1 => kr (mkSt rv_i_solved (z0, z1, ())))
noncomputable def sg_i_solved {R : Type} (K : Nat) (k : Nat) : List (Nat × SegS R) := [(4, mkSeg lv_i_solved_J4 lv_i_solved_N4 (gi_solved_j4 K k))]
noncomputable def su_i_solved : List (Nat × Unit) := [(4, ())]
noncomputable def en_i_solved {R : Type} (K : Nat) (k : Nat) : Env R := { L := lk [], X := lk [], S := lk (sg_i_solved K k), rv := rv_i_solved }
noncomputable def cf_i_solved (K : Nat) : Cfg := { ty := lk tys, fn := lk [(30, sp_i_SolutionsOf (i_SolutionsOf K))], fs := lk [], prot := 0, nt := Try.f101.ntmps }
noncomputable def c_i_solved_J4 : Code := nthC (partsOf (hasK su_i_solved) (bodyOf Try.f101)) 0
theorem ei_solved_j4 {R : Type} (K : Nat) (k : Nat) (x : den lv_i_solved_J4.ty) (kn : den lv_i_solved_N4.ty → Option R) (kx : Nat → St → Option R) (kr : St → Option R) : gi_solved_j4 K k x kn kx kr = evC (cf_i_solved K) (en_i_solved K k) c_i_solved_J4 (mkSt lv_i_solved_J4 x) (cutK lv_i_solved_N4 kn) kx kr := by kernel_rfl
theorem si_solved_j4 {R : Type} (K : Nat) (C : Cx) (hP : C.P = Try.prog) (O : CfgOk C (cf_i_solved K)) (k : Nat) : SgS C (R := R) (mkSeg lv_i_solved_J4 lv_i_solved_N4 (gi_solved_j4 K k)) c_i_solved_J4 :=
  seg_sound O (by rw [hP]; kernel_rfl) (ei_solved_j4 K k) (lpOk_of (en := en_i_solved K k) (S := hasK su_i_solved) (fun i => hasK_lk (sg_i_solved K k) i) _ (by rw [show partsOf (hasK su_i_solved) c_i_solved_J4 = [] from by kernel_rfl]; exact trivial))
theorem e_i_solved (K : Nat) (x : den as_i_solved) : i_solved K x = evFn (cf_i_solved K) as_i_solved [false] (.tup (.pair (.sl (.int .i64)) (.pair (.int .i64) .unit))) (en_i_solved K K) Try.f101.results.toList (bodyOf Try.f101) x := by kernel_rfl
theorem ok_i_solved (K : Nat) : FnOk Try.prog 101 (sp_i_solved (i_solved K)) :=
  fn_ok (cf := cf_i_solved K) (en := en_i_solved K K) (c := bodyOf Try.f101) Try.func101 (by kernel_rfl) (by kernel_rfl) tysOk (fns_ok (l := [(30, sp_i_SolutionsOf (i_SolutionsOf K))]) ⟨ok_i_SolutionsOf K, trivial⟩) (shs_ok (l := []) trivial) (by kernel_rfl) rfl (Nat.le_of_ble_eq_true (by kernel_rfl)) (by kernel_rfl) (of_decide_eq_true (by kernel_rfl)) (by decide) (fun C hP O => lpOk_of (en := en_i_solved K K) (S := hasK su_i_solved) (fun i => hasK_lk (sg_i_solved K K) i) _ (by rw [show partsOf (hasK su_i_solved) (bodyOf Try.f101) = [(false, c_i_solved_J4)] from by kernel_rfl]; exact (lpL_seg (f := mkSeg lv_i_solved_J4 lv_i_solved_N4 (gi_solved_j4 K K)) (by kernel_rfl) (si_solved_j4 K C hP O K) trivial))) (fun x y h => by rw [← e_i_solved]; exact h)
noncomputable def as_i_ForcedOf_c1 : Ty := (.pair (.int .i64) (.pair (.ptr (.int .i64)) (.pair (.ptr (.int .i64)) .unit)))
noncomputable def sp_i_ForcedOf_c1 (F : (Int × Int × Int × Unit) → Option Bool) : FnSpec := ⟨as_i_ForcedOf_c1, [false, false, false], .bool, F⟩
noncomputable def i_ForcedOf_c1 (K : Nat) (x : (Int × Int × Int × Unit)) : Option Bool :=
    (i_bit K (x.1, x.2.1, ())).bind fun y1 =>
    some (!decide (y1 = x.2.2.1))
noncomputable def rv_i_ForcedOf_c1 : Lv := [(4, (.v .bool))]
noncomputable def sg_i_ForcedOf_c1 {R : Type} (K : Nat) (k : Nat) : List (Nat × SegS R) := []
noncomputable def su_i_ForcedOf_c1 : List (Nat × Unit) := []
noncomputable def en_i_ForcedOf_c1 {R : Type} (K : Nat) (k : Nat) : Env R := { L := lk [], X := lk [], S := lk (sg_i_ForcedOf_c1 K k), rv := rv_i_ForcedOf_c1 }
noncomputable def cf_i_ForcedOf_c1 (K : Nat) : Cfg := { ty := lk tys, fn := lk [(70, sp_i_bit (i_bit K))], fs := lk [], prot := 0, nt := Try.f102.ntmps }
theorem e_i_ForcedOf_c1 (K : Nat) (x : den as_i_ForcedOf_c1) : i_ForcedOf_c1 K x = evFn (cf_i_ForcedOf_c1 K) as_i_ForcedOf_c1 [false, false, false] .bool (en_i_ForcedOf_c1 K K) Try.f102.results.toList (bodyOf Try.f102) x := by kernel_rfl
theorem ok_i_ForcedOf_c1 (K : Nat) : FnOk Try.prog 102 (sp_i_ForcedOf_c1 (i_ForcedOf_c1 K)) :=
  fn_ok (cf := cf_i_ForcedOf_c1 K) (en := en_i_ForcedOf_c1 K K) (c := bodyOf Try.f102) Try.func102 (by kernel_rfl) (by kernel_rfl) tysOk (fns_ok (l := [(70, sp_i_bit (i_bit K))]) ⟨ok_i_bit K, trivial⟩) (shs_ok (l := []) trivial) (by kernel_rfl) rfl (Nat.le_of_ble_eq_true (by kernel_rfl)) (by kernel_rfl) (of_decide_eq_true (by kernel_rfl)) (by decide) (fun C hP O => lpOk_of (en := en_i_ForcedOf_c1 K K) (S := hasK su_i_ForcedOf_c1) (fun i => hasK_lk (sg_i_ForcedOf_c1 K K) i) _ (by rw [show partsOf (hasK su_i_ForcedOf_c1) (bodyOf Try.f102) = [] from by kernel_rfl]; exact trivial)) (fun x y h => by rw [← e_i_ForcedOf_c1]; exact h)
noncomputable def as_i_ForcedOf : Ty := (.pair (.st (.pair (.int .i64) (.pair (.sl (.st (.pair (.st (.pair (.int .i64) (.pair (.int .i64) .unit))) (.pair (.sl (.int .i64)) .unit)))) .unit))) .unit)
noncomputable def sp_i_ForcedOf (F : ((Int × (List ((Int × Int × Unit) × (List Int) × Unit)) × Unit) × Unit) → Option ((List Int) × Int × Unit)) : FnSpec := ⟨as_i_ForcedOf, [false], (.tup (.pair (.sl (.int .i64)) (.pair (.int .i64) .unit))), F⟩
noncomputable def i_ForcedOf_l6 {R : Type} (K : Nat) : Nat → (List Int) → (List Int) → Int → Int → ((List Int) → Option R) → Option R
  | 0, _, _, _, _, _ => none
  | k + 1, v4, v6, v18, v19, kx0 =>
    (if (decide (v19 < v18)) = true then
    (if (bnds (0 : Int) (v4.length : Int)) = true then
    (i_bit K ((v4.getD (0 : Int).toNat (0 : Int)), v19, ())).bind fun y2 =>
    (slices_ContainsFunc_int64 K (v4, (fun y4 => i_ForcedOf_c1 K (y4.1, v19, y2, ())), ())).bind fun y3 =>
    (if y3 = true then
    let l5 := [(2 : Int)]
    (if (decide (v6.length + l5.length ≤ lim)) = true then
    let l6 := (v6 ++ l5)
    i_ForcedOf_l6 K k v4 l6 v18 (IntKind.i64.wrap (v19 + (1 : Int))) kx0
    else
    none)
    else
    (if (decide (v6.length + ([y2]).length ≤ lim)) = true then
    let l7 := (v6 ++ [y2])
    i_ForcedOf_l6 K k v4 l7 v18 (IntKind.i64.wrap (v19 + (1 : Int))) kx0
    else
    none))
    else
    none)
    else
    kx0 v6)
noncomputable def i_ForcedOf (K : Nat) (x : ((Int × (List ((Int × Int × Unit) × (List Int) × Unit)) × Unit) × Unit)) : Option ((List Int) × Int × Unit) :=
    (i_solved K (x.1, ())).bind fun y1 =>
    (if (!decide (y1.2.1 = (0 : Int))) = true then
    some (([] : List Int), y1.2.1, ())
    else
    i_ForcedOf_l6 K K y1.1 ([] : List Int) x.1.1 (0 : Int) (fun z8 =>
    some (z8, (0 : Int), ())))
noncomputable def lv_i_ForcedOf_L6 : Lv := [(4, (.r (.int .i64))), (6, (.r (.int .i64))), (18, (.v (.int .i64))), (19, (.v (.int .i64)))]
noncomputable def lv_i_ForcedOf_X0 : Lv := [(6, (.r (.int .i64)))]
noncomputable def rv_i_ForcedOf : Lv := [(2, (.r (.int .i64))), (3, (.v (.int .i64)))]
noncomputable def gi_ForcedOf_l6 {R : Type} (K : Nat) (k : Nat) (x : den lv_i_ForcedOf_L6.ty) (kx : Nat → St → Option R) (kr : St → Option R) : Option R := i_ForcedOf_l6 K k x.1 x.2.1 x.2.2.1 x.2.2.2.1 (fun z0 => kx 0 (mkSt lv_i_ForcedOf_X0 (z0, ())))
noncomputable def sg_i_ForcedOf {R : Type} (K : Nat) (k : Nat) : List (Nat × SegS R) := []
noncomputable def su_i_ForcedOf : List (Nat × Unit) := []
noncomputable def en_i_ForcedOf {R : Type} (K : Nat) (k : Nat) : Env R := { L := lk [(6, mkLoop lv_i_ForcedOf_L6 (gi_ForcedOf_l6 K k))], X := lk [(0, lv_i_ForcedOf_X0)], S := lk (sg_i_ForcedOf K k), rv := rv_i_ForcedOf }
noncomputable def cf_i_ForcedOf (K : Nat) : Cfg := { ty := lk tys, fn := lk [(70, sp_i_bit (i_bit K)), (88, sp_slices_ContainsFunc_int64 (slices_ContainsFunc_int64 K)), (101, sp_i_solved (i_solved K)), (102, sp_i_ForcedOf_c1 (i_ForcedOf_c1 K))], fs := lk [], prot := 0, nt := Try.f37.ntmps }
noncomputable def c_i_ForcedOf_L6 : Code := nthC (partsOf (hasK su_i_ForcedOf) (bodyOf Try.f37)) 0
theorem ei_ForcedOf_l6 {R : Type} (K : Nat) (k : Nat) (x : den lv_i_ForcedOf_L6.ty) (kx : Nat → St → Option R) (kr : St → Option R) : gi_ForcedOf_l6 K (k + 1) x kx kr = evC (cf_i_ForcedOf K) (en_i_ForcedOf K k) c_i_ForcedOf_L6 (mkSt lv_i_ForcedOf_L6 x) (fun s => mkLoop lv_i_ForcedOf_L6 (gi_ForcedOf_l6 K k) s kx kr) kx kr := by kernel_rfl
theorem si_ForcedOf_l6 {R : Type} (K : Nat) (C : Cx) (hP : C.P = Try.prog) (O : CfgOk C (cf_i_ForcedOf K)) (k : Nat) : LpS C (R := R) (mkLoop lv_i_ForcedOf_L6 (gi_ForcedOf_l6 K k)) c_i_ForcedOf_L6 :=
  loop_sound O (by rw [hP]; kernel_rfl) (fun x kx kr => rfl) (ei_ForcedOf_l6 K) (fun k => lpOk_of (en := en_i_ForcedOf K k) (S := hasK su_i_ForcedOf) (fun i => hasK_lk (sg_i_ForcedOf K k) i) _ (by rw [show partsOf (hasK su_i_ForcedOf) c_i_ForcedOf_L6 = [] from by kernel_rfl]; exact trivial)) k
theorem e_i_ForcedOf (K : Nat) (x : den as_i_ForcedOf) : i_ForcedOf K x = evFn (cf_i_ForcedOf K) as_i_ForcedOf [false] (.tup (.pair (.sl (.int .i64)) (.pair (.int .i64) .unit))) (en_i_ForcedOf K K) Try.f37.results.toList (bodyOf Try.f37) x := by kernel_rfl
theorem ok_i_ForcedOf (K : Nat) : FnOk Try.prog 37 (sp_i_ForcedOf (i_ForcedOf K)) :=
  fn_ok (cf := cf_i_ForcedOf K) (en := en_i_ForcedOf K K) (c := bodyOf Try.f37) Try.func37 (by kernel_rfl) (by kernel_rfl) tysOk (fns_ok (l := [(70, sp_i_bit (i_bit K)), (88, sp_slices_ContainsFunc_int64 (slices_ContainsFunc_int64 K)), (101, sp_i_solved (i_solved K)), (102, sp_i_ForcedOf_c1 (i_ForcedOf_c1 K))]) ⟨ok_i_bit K, ⟨ok_slices_ContainsFunc_int64 K, ⟨ok_i_solved K, ⟨ok_i_ForcedOf_c1 K, trivial⟩⟩⟩⟩) (shs_ok (l := []) trivial) (by kernel_rfl) rfl (Nat.le_of_ble_eq_true (by kernel_rfl)) (by kernel_rfl) (of_decide_eq_true (by kernel_rfl)) (by decide) (fun C hP O => lpOk_of (en := en_i_ForcedOf K K) (S := hasK su_i_ForcedOf) (fun i => hasK_lk (sg_i_ForcedOf K K) i) _ (by rw [show partsOf (hasK su_i_ForcedOf) (bodyOf Try.f37) = [(true, c_i_ForcedOf_L6)] from by kernel_rfl]; exact (lpL_loop (f := mkLoop lv_i_ForcedOf_L6 (gi_ForcedOf_l6 K K)) (by kernel_rfl) (si_ForcedOf_l6 K C hP O K) trivial))) (fun x y h => by rw [← e_i_ForcedOf]; exact h)
noncomputable def as_i_NarrowDomains_c1 : Ty := (.pair (.int .i64) .unit)
noncomputable def sp_i_NarrowDomains_c1 (F : (Int × Unit) → Option Bool) : FnSpec := ⟨as_i_NarrowDomains_c1, [false], .bool, F⟩
noncomputable def i_NarrowDomains_c1 (K : Nat) (x : (Int × Unit)) : Option Bool :=
    (i_within K (x.1, (0 : Int), (2 : Int), ())).bind fun y1 =>
    some (!y1)
noncomputable def rv_i_NarrowDomains_c1 : Lv := [(2, (.v .bool))]
noncomputable def sg_i_NarrowDomains_c1 {R : Type} (K : Nat) (k : Nat) : List (Nat × SegS R) := []
noncomputable def su_i_NarrowDomains_c1 : List (Nat × Unit) := []
noncomputable def en_i_NarrowDomains_c1 {R : Type} (K : Nat) (k : Nat) : Env R := { L := lk [], X := lk [], S := lk (sg_i_NarrowDomains_c1 K k), rv := rv_i_NarrowDomains_c1 }
noncomputable def cf_i_NarrowDomains_c1 (K : Nat) : Cfg := { ty := lk tys, fn := lk [(67, sp_i_within (i_within K))], fs := lk [], prot := 0, nt := Try.f89.ntmps }
theorem e_i_NarrowDomains_c1 (K : Nat) (x : den as_i_NarrowDomains_c1) : i_NarrowDomains_c1 K x = evFn (cf_i_NarrowDomains_c1 K) as_i_NarrowDomains_c1 [false] .bool (en_i_NarrowDomains_c1 K K) Try.f89.results.toList (bodyOf Try.f89) x := by kernel_rfl
theorem ok_i_NarrowDomains_c1 (K : Nat) : FnOk Try.prog 89 (sp_i_NarrowDomains_c1 (i_NarrowDomains_c1 K)) :=
  fn_ok (cf := cf_i_NarrowDomains_c1 K) (en := en_i_NarrowDomains_c1 K K) (c := bodyOf Try.f89) Try.func89 (by kernel_rfl) (by kernel_rfl) tysOk (fns_ok (l := [(67, sp_i_within (i_within K))]) ⟨ok_i_within K, trivial⟩) (shs_ok (l := []) trivial) (by kernel_rfl) rfl (Nat.le_of_ble_eq_true (by kernel_rfl)) (by kernel_rfl) (of_decide_eq_true (by kernel_rfl)) (by decide) (fun C hP O => lpOk_of (en := en_i_NarrowDomains_c1 K K) (S := hasK su_i_NarrowDomains_c1) (fun i => hasK_lk (sg_i_NarrowDomains_c1 K K) i) _ (by rw [show partsOf (hasK su_i_NarrowDomains_c1) (bodyOf Try.f89) = [] from by kernel_rfl]; exact trivial)) (fun x y h => by rw [← e_i_NarrowDomains_c1]; exact h)
noncomputable def as_slices_Equal_int64 : Ty := (.pair (.sl (.int .i64)) (.pair (.sl (.int .i64)) .unit))
noncomputable def sp_slices_Equal_int64 (F : ((List Int) × (List Int) × Unit) → Option Bool) : FnSpec := ⟨as_slices_Equal_int64, [false, false], .bool, F⟩
noncomputable def slices_Equal_int64_l4 {R : Type} (K : Nat) : Nat → (List Int) → (List Int) → Int → Int → (Option R) → (Bool → Option R) → Option R
  | 0, _, _, _, _, _, _ => none
  | k + 1, v0, v1, v12, v13, kx0, kr =>
    (if (decide (v13 < v12)) = true then
    (if (bnds v13 (v0.length : Int)) = true then
    (if (bnds v13 (v1.length : Int)) = true then
    let x1 := (!decide ((v0.getD v13.toNat (0 : Int)) = (v1.getD v13.toNat (0 : Int))))
    (if x1 = true then
    kr false
    else
    slices_Equal_int64_l4 K k v0 v1 v12 (IntKind.i64.wrap (v13 + (1 : Int))) kx0 kr)
    else
    none)
    else
    none)
    else
    kx0)
noncomputable def slices_Equal_int64 (K : Nat) (x : ((List Int) × (List Int) × Unit)) : Option Bool :=
    (if (!decide ((x.1.length : Int) = (x.2.1.length : Int))) = true then
    some false
    else
    slices_Equal_int64_l4 K K x.1 x.2.1 (x.1.length : Int) (0 : Int) (some true) (fun z2 =>
    some z2))
noncomputable def lv_slices_Equal_int64_L4 : Lv := [(0, (.v (.sl (.int .i64)))), (1, (.v (.sl (.int .i64)))), (12, (.v (.int .i64))), (13, (.v (.int .i64)))]
noncomputable def lv_slices_Equal_int64_X0 : Lv := []
noncomputable def rv_slices_Equal_int64 : Lv := [(4, (.v .bool))]
noncomputable def gslices_Equal_int64_l4 {R : Type} (K : Nat) (k : Nat) (x : den lv_slices_Equal_int64_L4.ty) (kx : Nat → St → Option R) (kr : St → Option R) : Option R := slices_Equal_int64_l4 K k x.1 x.2.1 x.2.2.1 x.2.2.2.1 (kx 0 (mkSt lv_slices_Equal_int64_X0 ())) (fun z0 => kr (mkSt rv_slices_Equal_int64 (z0, ())))
noncomputable def sg_slices_Equal_int64 {R : Type} (K : Nat) (k : Nat) : List (Nat × SegS R) := []
noncomputable def su_slices_Equal_int64 : List (Nat × Unit) := []
noncomputable def en_slices_Equal_int64 {R : Type} (K : Nat) (k : Nat) : Env R := { L := lk [(4, mkLoop lv_slices_Equal_int64_L4 (gslices_Equal_int64_l4 K k))], X := lk [(0, lv_slices_Equal_int64_X0)], S := lk (sg_slices_Equal_int64 K k), rv := rv_slices_Equal_int64 }
noncomputable def cf_slices_Equal_int64 (K : Nat) : Cfg := { ty := lk tys, fn := lk [], fs := lk [], prot := 0, nt := Try.f92.ntmps }
noncomputable def c_slices_Equal_int64_L4 : Code := nthC (partsOf (hasK su_slices_Equal_int64) (bodyOf Try.f92)) 0
theorem eslices_Equal_int64_l4 {R : Type} (K : Nat) (k : Nat) (x : den lv_slices_Equal_int64_L4.ty) (kx : Nat → St → Option R) (kr : St → Option R) : gslices_Equal_int64_l4 K (k + 1) x kx kr = evC (cf_slices_Equal_int64 K) (en_slices_Equal_int64 K k) c_slices_Equal_int64_L4 (mkSt lv_slices_Equal_int64_L4 x) (fun s => mkLoop lv_slices_Equal_int64_L4 (gslices_Equal_int64_l4 K k) s kx kr) kx kr := by kernel_rfl
theorem sslices_Equal_int64_l4 {R : Type} (K : Nat) (C : Cx) (hP : C.P = Try.prog) (O : CfgOk C (cf_slices_Equal_int64 K)) (k : Nat) : LpS C (R := R) (mkLoop lv_slices_Equal_int64_L4 (gslices_Equal_int64_l4 K k)) c_slices_Equal_int64_L4 :=
  loop_sound O (by rw [hP]; kernel_rfl) (fun x kx kr => rfl) (eslices_Equal_int64_l4 K) (fun k => lpOk_of (en := en_slices_Equal_int64 K k) (S := hasK su_slices_Equal_int64) (fun i => hasK_lk (sg_slices_Equal_int64 K k) i) _ (by rw [show partsOf (hasK su_slices_Equal_int64) c_slices_Equal_int64_L4 = [] from by kernel_rfl]; exact trivial)) k
theorem e_slices_Equal_int64 (K : Nat) (x : den as_slices_Equal_int64) : slices_Equal_int64 K x = evFn (cf_slices_Equal_int64 K) as_slices_Equal_int64 [false, false] .bool (en_slices_Equal_int64 K K) Try.f92.results.toList (bodyOf Try.f92) x := by kernel_rfl
theorem ok_slices_Equal_int64 (K : Nat) : FnOk Try.prog 92 (sp_slices_Equal_int64 (slices_Equal_int64 K)) :=
  fn_ok (cf := cf_slices_Equal_int64 K) (en := en_slices_Equal_int64 K K) (c := bodyOf Try.f92) Try.func92 (by kernel_rfl) (by kernel_rfl) tysOk (fns_ok (l := []) trivial) (shs_ok (l := []) trivial) (by kernel_rfl) rfl (Nat.le_of_ble_eq_true (by kernel_rfl)) (by kernel_rfl) (of_decide_eq_true (by kernel_rfl)) (by decide) (fun C hP O => lpOk_of (en := en_slices_Equal_int64 K K) (S := hasK su_slices_Equal_int64) (fun i => hasK_lk (sg_slices_Equal_int64 K K) i) _ (by rw [show partsOf (hasK su_slices_Equal_int64) (bodyOf Try.f92) = [(true, c_slices_Equal_int64_L4)] from by kernel_rfl]; exact (lpL_loop (f := mkLoop lv_slices_Equal_int64_L4 (gslices_Equal_int64_l4 K K)) (by kernel_rfl) (sslices_Equal_int64_l4 K C hP O K) trivial))) (fun x y h => by rw [← e_slices_Equal_int64]; exact h)
noncomputable def as_i_NarrowDomains : Ty := (.pair (.st (.pair (.int .i64) (.pair (.sl (.st (.pair (.st (.pair (.int .i64) (.pair (.int .i64) .unit))) (.pair (.sl (.int .i64)) .unit)))) .unit))) (.pair (.sl (.int .i64)) .unit))
noncomputable def sp_i_NarrowDomains (F : ((Int × (List ((Int × Int × Unit) × (List Int) × Unit)) × Unit) × (List Int) × Unit) → Option ((List Int) × Int × Unit)) : FnSpec := ⟨as_i_NarrowDomains, [false, false], (.tup (.pair (.sl (.int .i64)) (.pair (.int .i64) .unit))), F⟩
noncomputable def i_NarrowDomains_l8 {R : Type} (K : Nat) : Nat → (Int × (List ((Int × Int × Unit) × (List Int) × Unit)) × Unit) → (List Int) → (List Int) → (List ((Int × Int × Unit) × (List Int) × Unit)) → Int → Int → ((Int × (List ((Int × Int × Unit) × (List Int) × Unit)) × Unit) → (List Int) → (List Int) → Option R) → ((List Int) → Int → Option R) → Option R
  | 0, _, _, _, _, _, _, _, _ => none
  | k + 1, v2, v6, v7, v27, v28, v29, kx2, kr =>
    (if (decide (v29 < v28)) = true then
    (if (bnds v29 (v27.length : Int)) = true then
    let x6 := (v27.getD v29.toNat (((0 : Int), (0 : Int), ()), ([] : List Int), ()))
    (i_Clause_narrow K (x6, v6, ())).bind fun y7 =>
    (if (!y7.1) = true then
    kr ([] : List Int) (4 : Int)
    else
    i_NarrowDomains_l8 K k v2 y7.2.1 v7 v27 v28 (IntKind.i64.wrap (v29 + (1 : Int))) kx2 kr)
    else
    none)
    else
    kx2 v2 v6 v7)
noncomputable def i_NarrowDomains_l6 {R : Type} (K : Nat) : Nat → (Int × (List ((Int × Int × Unit) × (List Int) × Unit)) × Unit) → (List Int) → ((List Int) → Int → Option R) → Option R
  | 0, _, _, _ => none
  | k + 1, v2, v6, kr =>
    (slices_Clone_int64 K (v6, ())).bind fun y5 =>
    i_NarrowDomains_l8 K k v2 v6 y5 v2.2.1 (v2.2.1.length : Int) (0 : Int) (fun z8 z9 z10 =>
    (slices_Equal_int64 K (z9, z10, ())).bind fun y11 =>
    (if y11 = true then
    kr z9 (0 : Int)
    else
    i_NarrowDomains_l6 K k z8 z9 kr)) (fun z12 z13 =>
    kr z12 z13)
noncomputable def i_NarrowDomains_j5 {R : Type} (K : Nat) (k : Nat) (v1 : (List Int)) (v2 : (Int × (List ((Int × Int × Unit) × (List Int) × Unit)) × Unit)) (kn : Option R) (kr : ((List Int) → Int → Option R)) : Option R :=
    (slices_Clone_int64 K (v1, ())).bind fun y4 =>
    i_NarrowDomains_l6 K k v2 y4 (fun z14 z15 =>
    kr z14 z15)
noncomputable def i_NarrowDomains (K : Nat) (x : ((Int × (List ((Int × Int × Unit) × (List Int) × Unit)) × Unit) × (List Int) × Unit)) : Option ((List Int) × Int × Unit) :=
    (i_IsInstance K (x.1, ())).bind fun y1 =>
    (if (!y1) = true then
    some (([] : List Int), (1 : Int), ())
    else
    (if (!decide ((x.2.1.length : Int) = x.1.1)) = true then
    some (([] : List Int), (2 : Int), ())
    else
    (slices_ContainsFunc_int64 K (x.2.1, (fun y3 => i_NarrowDomains_c1 K (y3.1, ())), ())).bind fun y2 =>
    (if y2 = true then
    some (([] : List Int), (2 : Int), ())
    else
    i_NarrowDomains_j5 K K x.2.1 x.1 none (fun z16 z17 =>
    some (z16, z17, ())))))
noncomputable def lv_i_NarrowDomains_J5 : Lv := [(1, (.v (.sl (.int .i64)))), (2, (.bx (.v (.st (.pair (.int .i64) (.pair (.sl (.st (.pair (.st (.pair (.int .i64) (.pair (.int .i64) .unit))) (.pair (.sl (.int .i64)) .unit)))) .unit))))))]
noncomputable def lv_i_NarrowDomains_L6 : Lv := [(2, (.bx (.v (.st (.pair (.int .i64) (.pair (.sl (.st (.pair (.st (.pair (.int .i64) (.pair (.int .i64) .unit))) (.pair (.sl (.int .i64)) .unit)))) .unit)))))), (6, (.r (.int .i64)))]
noncomputable def lv_i_NarrowDomains_L8 : Lv := [(2, (.bx (.v (.st (.pair (.int .i64) (.pair (.sl (.st (.pair (.st (.pair (.int .i64) (.pair (.int .i64) .unit))) (.pair (.sl (.int .i64)) .unit)))) .unit)))))), (6, (.r (.int .i64))), (7, (.r (.int .i64))), (27, (.v (.sl (.st (.pair (.st (.pair (.int .i64) (.pair (.int .i64) .unit))) (.pair (.sl (.int .i64)) .unit)))))), (28, (.v (.int .i64))), (29, (.v (.int .i64)))]
noncomputable def lv_i_NarrowDomains_N5 : Lv := []
noncomputable def lv_i_NarrowDomains_X2 : Lv := [(2, (.bx (.v (.st (.pair (.int .i64) (.pair (.sl (.st (.pair (.st (.pair (.int .i64) (.pair (.int .i64) .unit))) (.pair (.sl (.int .i64)) .unit)))) .unit)))))), (6, (.r (.int .i64))), (7, (.r (.int .i64)))]
noncomputable def rv_i_NarrowDomains : Lv := [(4, (.r (.int .i64))), (5, (.v (.int .i64)))]
noncomputable def gi_NarrowDomains_l8 {R : Type} (K : Nat) (k : Nat) (x : den lv_i_NarrowDomains_L8.ty) (kx : Nat → St → Option R) (kr : St → Option R) : Option R := i_NarrowDomains_l8 K k x.1 x.2.1 x.2.2.1 x.2.2.2.1 x.2.2.2.2.1 x.2.2.2.2.2.1 (fun z0 z1 z2 => kx 2 (mkSt lv_i_NarrowDomains_X2 (z0, z1, z2, ()))) (fun z0 z1 => kr (mkSt rv_i_NarrowDomains (z0, z1, ())))
noncomputable def gi_NarrowDomains_l6 {R : Type} (K : Nat) (k : Nat) (x : den lv_i_NarrowDomains_L6.ty) (kx : Nat → St → Option R) (kr : St → Option R) : Option R := i_NarrowDomains_l6 K k x.1 x.2.1 (fun z0 z1 => kr (mkSt rv_i_NarrowDomains (z0, z1, ())))
noncomputable def gi_NarrowDomains_j5 {R : Type} (K : Nat) (k : Nat) (x : den lv_i_NarrowDomains_J5.ty) (kn : den lv_i_NarrowDomains_N5.ty → Option R) (kx : Nat → St → Option R) (kr : St → Option R) : Option R := i_NarrowDomains_j5 K k x.1 x.2.1 (kn ()) (fun z0 z1 => kr (mkSt rv_i_NarrowDomains (z0, z1, ())))
noncomputable def sg_i_NarrowDomains {R : Type} (K : Nat) (k : Nat) : List (Nat × SegS R) := [(5, mkSeg lv_i_NarrowDomains_J5 lv_i_NarrowDomains_N5 (gi_NarrowDomains_j5 K k))]
noncomputable def su_i_NarrowDomains : List (Nat × Unit) := [(5, ())]
noncomputable def en_i_NarrowDomains {R : Type} (K : Nat) (k : Nat) : Env R := { L := lk [(8, mkLoop lv_i_NarrowDomains_L8 (gi_NarrowDomains_l8 K k)), (6, mkLoop lv_i_NarrowDomains_L6 (gi_NarrowDomains_l6 K k))], X := lk [(2, lv_i_NarrowDomains_X2)], S := lk (sg_i_NarrowDomains K k), rv := rv_i_NarrowDomains }
noncomputable def cf_i_NarrowDomains (K : Nat) : Cfg := { ty := lk tys, fn := lk [(87, sp_i_IsInstance (i_IsInstance K)), (88, sp_slices_ContainsFunc_int64 (slices_ContainsFunc_int64 K)), (89, sp_i_NarrowDomains_c1 (i_NarrowDomains_c1 K)), (90, sp_slices_Clone_int64 (slices_Clone_int64 K)), (91, sp_i_Clause_narrow (i_Clause_narrow K)), (92, sp_slices_Equal_int64 (slices_Equal_int64 K))], fs := lk [], prot := 0, nt := Try.f27.ntmps }
noncomputable def c_i_NarrowDomains_J5 : Code := nthC (partsOf (hasK su_i_NarrowDomains) (bodyOf Try.f27)) 0
noncomputable def c_i_NarrowDomains_L6 : Code := nthC (partsOf (hasK su_i_NarrowDomains) c_i_NarrowDomains_J5) 0
noncomputable def c_i_NarrowDomains_L8 : Code := nthC (partsOf (hasK su_i_NarrowDomains) c_i_NarrowDomains_L6) 0
theorem ei_NarrowDomains_l8 {R : Type} (K : Nat) (k : Nat) (x : den lv_i_NarrowDomains_L8.ty) (kx : Nat → St → Option R) (kr : St → Option R) : gi_NarrowDomains_l8 K (k + 1) x kx kr = evC (cf_i_NarrowDomains K) (en_i_NarrowDomains K k) c_i_NarrowDomains_L8 (mkSt lv_i_NarrowDomains_L8 x) (fun s => mkLoop lv_i_NarrowDomains_L8 (gi_NarrowDomains_l8 K k) s kx kr) kx kr := by kernel_rfl
theorem si_NarrowDomains_l8 {R : Type} (K : Nat) (C : Cx) (hP : C.P = Try.prog) (O : CfgOk C (cf_i_NarrowDomains K)) (k : Nat) : LpS C (R := R) (mkLoop lv_i_NarrowDomains_L8 (gi_NarrowDomains_l8 K k)) c_i_NarrowDomains_L8 :=
  loop_sound O (by rw [hP]; kernel_rfl) (fun x kx kr => rfl) (ei_NarrowDomains_l8 K) (fun k => lpOk_of (en := en_i_NarrowDomains K k) (S := hasK su_i_NarrowDomains) (fun i => hasK_lk (sg_i_NarrowDomains K k) i) _ (by rw [show partsOf (hasK su_i_NarrowDomains) c_i_NarrowDomains_L8 = [] from by kernel_rfl]; exact trivial)) k
theorem ei_NarrowDomains_l6 {R : Type} (K : Nat) (k : Nat) (x : den lv_i_NarrowDomains_L6.ty) (kx : Nat → St → Option R) (kr : St → Option R) : gi_NarrowDomains_l6 K (k + 1) x kx kr = evC (cf_i_NarrowDomains K) (en_i_NarrowDomains K k) c_i_NarrowDomains_L6 (mkSt lv_i_NarrowDomains_L6 x) (fun s => mkLoop lv_i_NarrowDomains_L6 (gi_NarrowDomains_l6 K k) s kx kr) kx kr := by kernel_rfl
theorem si_NarrowDomains_l6 {R : Type} (K : Nat) (C : Cx) (hP : C.P = Try.prog) (O : CfgOk C (cf_i_NarrowDomains K)) (k : Nat) : LpS C (R := R) (mkLoop lv_i_NarrowDomains_L6 (gi_NarrowDomains_l6 K k)) c_i_NarrowDomains_L6 :=
  loop_sound O (by rw [hP]; kernel_rfl) (fun x kx kr => rfl) (ei_NarrowDomains_l6 K) (fun k => lpOk_of (en := en_i_NarrowDomains K k) (S := hasK su_i_NarrowDomains) (fun i => hasK_lk (sg_i_NarrowDomains K k) i) _ (by rw [show partsOf (hasK su_i_NarrowDomains) c_i_NarrowDomains_L6 = [(true, c_i_NarrowDomains_L8)] from by kernel_rfl]; exact (lpL_loop (f := mkLoop lv_i_NarrowDomains_L8 (gi_NarrowDomains_l8 K k)) (by kernel_rfl) (si_NarrowDomains_l8 K C hP O k) trivial))) k
theorem ei_NarrowDomains_j5 {R : Type} (K : Nat) (k : Nat) (x : den lv_i_NarrowDomains_J5.ty) (kn : den lv_i_NarrowDomains_N5.ty → Option R) (kx : Nat → St → Option R) (kr : St → Option R) : gi_NarrowDomains_j5 K k x kn kx kr = evC (cf_i_NarrowDomains K) (en_i_NarrowDomains K k) c_i_NarrowDomains_J5 (mkSt lv_i_NarrowDomains_J5 x) (cutK lv_i_NarrowDomains_N5 kn) kx kr := by kernel_rfl
theorem si_NarrowDomains_j5 {R : Type} (K : Nat) (C : Cx) (hP : C.P = Try.prog) (O : CfgOk C (cf_i_NarrowDomains K)) (k : Nat) : SgS C (R := R) (mkSeg lv_i_NarrowDomains_J5 lv_i_NarrowDomains_N5 (gi_NarrowDomains_j5 K k)) c_i_NarrowDomains_J5 :=
  seg_sound O (by rw [hP]; kernel_rfl) (ei_NarrowDomains_j5 K k) (lpOk_of (en := en_i_NarrowDomains K k) (S := hasK su_i_NarrowDomains) (fun i => hasK_lk (sg_i_NarrowDomains K k) i) _ (by rw [show partsOf (hasK su_i_NarrowDomains) c_i_NarrowDomains_J5 = [(true, c_i_NarrowDomains_L6)] from by kernel_rfl]; exact (lpL_loop (f := mkLoop lv_i_NarrowDomains_L6 (gi_NarrowDomains_l6 K k)) (by kernel_rfl) (si_NarrowDomains_l6 K C hP O k) trivial)))
theorem e_i_NarrowDomains (K : Nat) (x : den as_i_NarrowDomains) : i_NarrowDomains K x = evFn (cf_i_NarrowDomains K) as_i_NarrowDomains [false, false] (.tup (.pair (.sl (.int .i64)) (.pair (.int .i64) .unit))) (en_i_NarrowDomains K K) Try.f27.results.toList (bodyOf Try.f27) x := by kernel_rfl
theorem ok_i_NarrowDomains (K : Nat) : FnOk Try.prog 27 (sp_i_NarrowDomains (i_NarrowDomains K)) :=
  fn_ok (cf := cf_i_NarrowDomains K) (en := en_i_NarrowDomains K K) (c := bodyOf Try.f27) Try.func27 (by kernel_rfl) (by kernel_rfl) tysOk (fns_ok (l := [(87, sp_i_IsInstance (i_IsInstance K)), (88, sp_slices_ContainsFunc_int64 (slices_ContainsFunc_int64 K)), (89, sp_i_NarrowDomains_c1 (i_NarrowDomains_c1 K)), (90, sp_slices_Clone_int64 (slices_Clone_int64 K)), (91, sp_i_Clause_narrow (i_Clause_narrow K)), (92, sp_slices_Equal_int64 (slices_Equal_int64 K))]) ⟨ok_i_IsInstance K, ⟨ok_slices_ContainsFunc_int64 K, ⟨ok_i_NarrowDomains_c1 K, ⟨ok_slices_Clone_int64 K, ⟨ok_i_Clause_narrow K, ⟨ok_slices_Equal_int64 K, trivial⟩⟩⟩⟩⟩⟩) (shs_ok (l := []) trivial) (by kernel_rfl) rfl (Nat.le_of_ble_eq_true (by kernel_rfl)) (by kernel_rfl) (of_decide_eq_true (by kernel_rfl)) (by decide) (fun C hP O => lpOk_of (en := en_i_NarrowDomains K K) (S := hasK su_i_NarrowDomains) (fun i => hasK_lk (sg_i_NarrowDomains K K) i) _ (by rw [show partsOf (hasK su_i_NarrowDomains) (bodyOf Try.f27) = [(false, c_i_NarrowDomains_J5)] from by kernel_rfl]; exact (lpL_seg (f := mkSeg lv_i_NarrowDomains_J5 lv_i_NarrowDomains_N5 (gi_NarrowDomains_j5 K K)) (by kernel_rfl) (si_NarrowDomains_j5 K C hP O K) trivial))) (fun x y h => by rw [← e_i_NarrowDomains]; exact h)
noncomputable def as_i_one : Ty := (.pair .bool .unit)
noncomputable def sp_i_one (F : (Bool × Unit) → Option Int) : FnSpec := ⟨as_i_one, [false], (.int .i64), F⟩
noncomputable def i_one (K : Nat) (x : (Bool × Unit)) : Option Int :=
    (if x.1 = true then
    some (1 : Int)
    else
    some (0 : Int))
noncomputable def rv_i_one : Lv := [(2, (.v (.int .i64)))]
noncomputable def sg_i_one {R : Type} (K : Nat) (k : Nat) : List (Nat × SegS R) := []
noncomputable def su_i_one : List (Nat × Unit) := []
noncomputable def en_i_one {R : Type} (K : Nat) (k : Nat) : Env R := { L := lk [], X := lk [], S := lk (sg_i_one K k), rv := rv_i_one }
noncomputable def cf_i_one (K : Nat) : Cfg := { ty := lk tys, fn := lk [], fs := lk [], prot := 0, nt := Try.f105.ntmps }
theorem e_i_one (K : Nat) (x : den as_i_one) : i_one K x = evFn (cf_i_one K) as_i_one [false] (.int .i64) (en_i_one K K) Try.f105.results.toList (bodyOf Try.f105) x := by kernel_rfl
theorem ok_i_one (K : Nat) : FnOk Try.prog 105 (sp_i_one (i_one K)) :=
  fn_ok (cf := cf_i_one K) (en := en_i_one K K) (c := bodyOf Try.f105) Try.func105 (by kernel_rfl) (by kernel_rfl) tysOk (fns_ok (l := []) trivial) (shs_ok (l := []) trivial) (by kernel_rfl) rfl (Nat.le_of_ble_eq_true (by kernel_rfl)) (by kernel_rfl) (of_decide_eq_true (by kernel_rfl)) (by decide) (fun C hP O => lpOk_of (en := en_i_one K K) (S := hasK su_i_one) (fun i => hasK_lk (sg_i_one K K) i) _ (by rw [show partsOf (hasK su_i_one) (bodyOf Try.f105) = [] from by kernel_rfl]; exact trivial)) (fun x y h => by rw [← e_i_one]; exact h)
noncomputable def as_i_SatisfiedBy : Ty := (.pair (.st (.pair (.int .i64) (.pair (.sl (.st (.pair (.st (.pair (.int .i64) (.pair (.int .i64) .unit))) (.pair (.sl (.int .i64)) .unit)))) .unit))) (.pair (.int .i64) .unit))
noncomputable def sp_i_SatisfiedBy (F : ((Int × (List ((Int × Int × Unit) × (List Int) × Unit)) × Unit) × Int × Unit) → Option ((List Int) × Int × Unit)) : FnSpec := ⟨as_i_SatisfiedBy, [false, false], (.tup (.pair (.sl (.int .i64)) (.pair (.int .i64) .unit))), F⟩
noncomputable def i_SatisfiedBy_l7 {R : Type} (K : Nat) : Nat → Int → (List Int) → (List ((Int × Int × Unit) × (List Int) × Unit)) → Int → Int → ((List Int) → Option R) → Option R
  | 0, _, _, _, _, _, _ => none
  | k + 1, v1, v6, v20, v21, v22, kx0 =>
    (if (decide (v22 < v21)) = true then
    (if (bnds v22 (v20.length : Int)) = true then
    let x3 := (v20.getD v22.toNat (((0 : Int), (0 : Int), ()), ([] : List Int), ()))
    (i_Clause_satisfied K (x3, v1, ())).bind fun y4 =>
    (i_one K (y4, ())).bind fun y5 =>
    (if (decide (v6.length + ([y5]).length ≤ lim)) = true then
    let l6 := (v6 ++ [y5])
    i_SatisfiedBy_l7 K k v1 l6 v20 v21 (IntKind.i64.wrap (v22 + (1 : Int))) kx0
    else
    none)
    else
    none)
    else
    kx0 v6)
noncomputable def i_SatisfiedBy (K : Nat) (x : ((Int × (List ((Int × Int × Unit) × (List Int) × Unit)) × Unit) × Int × Unit)) : Option ((List Int) × Int × Unit) :=
    (i_IsInstance K (x.1, ())).bind fun y1 =>
    (if (!y1) = true then
    some (([] : List Int), (1 : Int), ())
    else
    (if (decide ((0 : Int) ≤ x.1.1)) = true then
    (i_within K (x.2.1, (0 : Int), (IntKind.i64.wrap ((shlI .i64 (1 : Int) x.1.1) - (1 : Int))), ())).bind fun y2 =>
    (if (!y2) = true then
    some (([] : List Int), (2 : Int), ())
    else
    i_SatisfiedBy_l7 K K x.2.1 ([] : List Int) x.1.2.1 (x.1.2.1.length : Int) (0 : Int) (fun z7 =>
    some (z7, (0 : Int), ())))
    else
    none))
noncomputable def lv_i_SatisfiedBy_L7 : Lv := [(1, (.v (.int .i64))), (6, (.r (.int .i64))), (20, (.v (.sl (.st (.pair (.st (.pair (.int .i64) (.pair (.int .i64) .unit))) (.pair (.sl (.int .i64)) .unit)))))), (21, (.v (.int .i64))), (22, (.v (.int .i64)))]
noncomputable def lv_i_SatisfiedBy_X0 : Lv := [(6, (.r (.int .i64)))]
noncomputable def rv_i_SatisfiedBy : Lv := [(4, (.r (.int .i64))), (5, (.v (.int .i64)))]
noncomputable def gi_SatisfiedBy_l7 {R : Type} (K : Nat) (k : Nat) (x : den lv_i_SatisfiedBy_L7.ty) (kx : Nat → St → Option R) (kr : St → Option R) : Option R := i_SatisfiedBy_l7 K k x.1 x.2.1 x.2.2.1 x.2.2.2.1 x.2.2.2.2.1 (fun z0 => kx 0 (mkSt lv_i_SatisfiedBy_X0 (z0, ())))
noncomputable def sg_i_SatisfiedBy {R : Type} (K : Nat) (k : Nat) : List (Nat × SegS R) := []
noncomputable def su_i_SatisfiedBy : List (Nat × Unit) := []
noncomputable def en_i_SatisfiedBy {R : Type} (K : Nat) (k : Nat) : Env R := { L := lk [(7, mkLoop lv_i_SatisfiedBy_L7 (gi_SatisfiedBy_l7 K k))], X := lk [(0, lv_i_SatisfiedBy_X0)], S := lk (sg_i_SatisfiedBy K k), rv := rv_i_SatisfiedBy }
noncomputable def cf_i_SatisfiedBy (K : Nat) : Cfg := { ty := lk tys, fn := lk [(67, sp_i_within (i_within K)), (87, sp_i_IsInstance (i_IsInstance K)), (105, sp_i_one (i_one K)), (106, sp_i_Clause_satisfied (i_Clause_satisfied K))], fs := lk [], prot := 0, nt := Try.f40.ntmps }
noncomputable def c_i_SatisfiedBy_L7 : Code := nthC (partsOf (hasK su_i_SatisfiedBy) (bodyOf Try.f40)) 0
theorem ei_SatisfiedBy_l7 {R : Type} (K : Nat) (k : Nat) (x : den lv_i_SatisfiedBy_L7.ty) (kx : Nat → St → Option R) (kr : St → Option R) : gi_SatisfiedBy_l7 K (k + 1) x kx kr = evC (cf_i_SatisfiedBy K) (en_i_SatisfiedBy K k) c_i_SatisfiedBy_L7 (mkSt lv_i_SatisfiedBy_L7 x) (fun s => mkLoop lv_i_SatisfiedBy_L7 (gi_SatisfiedBy_l7 K k) s kx kr) kx kr := by kernel_rfl
theorem si_SatisfiedBy_l7 {R : Type} (K : Nat) (C : Cx) (hP : C.P = Try.prog) (O : CfgOk C (cf_i_SatisfiedBy K)) (k : Nat) : LpS C (R := R) (mkLoop lv_i_SatisfiedBy_L7 (gi_SatisfiedBy_l7 K k)) c_i_SatisfiedBy_L7 :=
  loop_sound O (by rw [hP]; kernel_rfl) (fun x kx kr => rfl) (ei_SatisfiedBy_l7 K) (fun k => lpOk_of (en := en_i_SatisfiedBy K k) (S := hasK su_i_SatisfiedBy) (fun i => hasK_lk (sg_i_SatisfiedBy K k) i) _ (by rw [show partsOf (hasK su_i_SatisfiedBy) c_i_SatisfiedBy_L7 = [] from by kernel_rfl]; exact trivial)) k
theorem e_i_SatisfiedBy (K : Nat) (x : den as_i_SatisfiedBy) : i_SatisfiedBy K x = evFn (cf_i_SatisfiedBy K) as_i_SatisfiedBy [false, false] (.tup (.pair (.sl (.int .i64)) (.pair (.int .i64) .unit))) (en_i_SatisfiedBy K K) Try.f40.results.toList (bodyOf Try.f40) x := by kernel_rfl
theorem ok_i_SatisfiedBy (K : Nat) : FnOk Try.prog 40 (sp_i_SatisfiedBy (i_SatisfiedBy K)) :=
  fn_ok (cf := cf_i_SatisfiedBy K) (en := en_i_SatisfiedBy K K) (c := bodyOf Try.f40) Try.func40 (by kernel_rfl) (by kernel_rfl) tysOk (fns_ok (l := [(67, sp_i_within (i_within K)), (87, sp_i_IsInstance (i_IsInstance K)), (105, sp_i_one (i_one K)), (106, sp_i_Clause_satisfied (i_Clause_satisfied K))]) ⟨ok_i_within K, ⟨ok_i_IsInstance K, ⟨ok_i_one K, ⟨ok_i_Clause_satisfied K, trivial⟩⟩⟩⟩) (shs_ok (l := []) trivial) (by kernel_rfl) rfl (Nat.le_of_ble_eq_true (by kernel_rfl)) (by kernel_rfl) (of_decide_eq_true (by kernel_rfl)) (by decide) (fun C hP O => lpOk_of (en := en_i_SatisfiedBy K K) (S := hasK su_i_SatisfiedBy) (fun i => hasK_lk (sg_i_SatisfiedBy K K) i) _ (by rw [show partsOf (hasK su_i_SatisfiedBy) (bodyOf Try.f40) = [(true, c_i_SatisfiedBy_L7)] from by kernel_rfl]; exact (lpL_loop (f := mkLoop lv_i_SatisfiedBy_L7 (gi_SatisfiedBy_l7 K K)) (by kernel_rfl) (si_SatisfiedBy_l7 K C hP O K) trivial))) (fun x y h => by rw [← e_i_SatisfiedBy]; exact h)
noncomputable def ps_s_l01From : Lv := [(0, (.v (.sl (.int .u8))))]
noncomputable def rl_s_l01From : Lv := [(0, (.bx (.v (.st (.pair (.sl (.int .u8)) (.pair (.int .i64) (.pair (.int .u64) .unit)))))))]
noncomputable def sp_s_l01From (F : ((List Int) × Unit) → Option ((((List Int) × Int × Int × Unit) × Unit) × Unit)) : ShSpec := ⟨ps_s_l01From, rl_s_l01From, F⟩
noncomputable def s_l01From_j5 {R : Type} (K : Nat) (k : Nat) (v0 : (List Int)) (v3 : ((List Int) × Int × Int × Unit)) (v4 : Int) (kn : (List Int) → ((List Int) × Int × Int × Unit) → Int → Option R)  : Option R :=
    (if (bnds v4 (v0.length : Int)) = true then
    let x3 := (IntKind.u64.wrap ((IntKind.u64.wrap (v3.2.2.1 * (1099511628211 : Int))) + (IntKind.u64.wrap (v0.getD v4.toNat (0 : Int)))))
    kn v0 (v3.1, v3.2.1, (IntKind.u64.wrap (x3 + (149 : Int))), ()) (IntKind.i64.wrap (v4 + (1 : Int)))
    else
    none)
noncomputable def s_l01From_l3 {R : Type} (K : Nat) : Nat → (List Int) → ((List Int) × Int × Int × Unit) → Int → (((List Int) × Int × Int × Unit) → Option R) → Option R
  | 0, _, _, _, _ => none
  | k + 1, v0, v3, v4, kx0 =>
    (if (decide (v4 < (v0.length : Int))) = true then
    (if (decide (v4 < (4096 : Int))) = true then
    s_l01From_j5 K k v0 v3 v4 (fun z4 z5 z6 =>
    s_l01From_l3 K k z4 z5 z6 kx0)
    else
    kx0 v3)
    else
    kx0 v3)
noncomputable def s_l01From (K : Nat) (x : ((List Int) × Unit)) : Option ((((List Int) × Int × Int × Unit) × Unit) × Unit) :=
    let x1 := (IntKind.u64.wrap ((13231 : Int) + (IntKind.u64.wrap (x.1.length : Int))))
    let x2 := ((x.1, (0 : Int), (0 : Int), ()).1, (x.1, (0 : Int), (0 : Int), ()).2.1, x1, ())
    s_l01From_l3 K K x.1 x2 (0 : Int) (fun z7 =>
    some ((z7, ()), ()))
noncomputable def lv_s_l01From_J5 : Lv := [(0, (.v (.sl (.int .u8)))), (3, (.bx (.v (.st (.pair (.sl (.int .u8)) (.pair (.int .i64) (.pair (.int .u64) .unit))))))), (4, (.v (.int .i64)))]
noncomputable def lv_s_l01From_L3 : Lv := [(0, (.v (.sl (.int .u8)))), (3, (.bx (.v (.st (.pair (.sl (.int .u8)) (.pair (.int .i64) (.pair (.int .u64) .unit))))))), (4, (.v (.int .i64)))]
noncomputable def lv_s_l01From_N5 : Lv := [(0, (.v (.sl (.int .u8)))), (3, (.bx (.v (.st (.pair (.sl (.int .u8)) (.pair (.int .i64) (.pair (.int .u64) .unit))))))), (4, (.v (.int .i64)))]
noncomputable def lv_s_l01From_X0 : Lv := [(3, (.bx (.v (.st (.pair (.sl (.int .u8)) (.pair (.int .i64) (.pair (.int .u64) .unit)))))))]
noncomputable def rv_s_l01From : Lv := [(2, (.bx (.v (.st (.pair (.sl (.int .u8)) (.pair (.int .i64) (.pair (.int .u64) .unit)))))))]
noncomputable def gs_l01From_j5 {R : Type} (K : Nat) (k : Nat) (x : den lv_s_l01From_J5.ty) (kn : den lv_s_l01From_N5.ty → Option R) (kx : Nat → St → Option R) (kr : St → Option R) : Option R := s_l01From_j5 K k x.1 x.2.1 x.2.2.1 (fun z0 z1 z2 => kn (z0, z1, z2, ()))
noncomputable def gs_l01From_l3 {R : Type} (K : Nat) (k : Nat) (x : den lv_s_l01From_L3.ty) (kx : Nat → St → Option R) (kr : St → Option R) : Option R := s_l01From_l3 K k x.1 x.2.1 x.2.2.1 (fun z0 => kx 0 (mkSt lv_s_l01From_X0 (z0, ())))
noncomputable def sg_s_l01From {R : Type} (K : Nat) (k : Nat) : List (Nat × SegS R) := [(5, mkSeg lv_s_l01From_J5 lv_s_l01From_N5 (gs_l01From_j5 K k))]
noncomputable def su_s_l01From : List (Nat × Unit) := [(5, ())]
noncomputable def en_s_l01From {R : Type} (K : Nat) (k : Nat) : Env R := { L := lk [(3, mkLoop lv_s_l01From_L3 (gs_l01From_l3 K k))], X := lk [(0, lv_s_l01From_X0)], S := lk (sg_s_l01From K k), rv := rv_s_l01From }
noncomputable def cf_s_l01From (K : Nat) : Cfg := { ty := lk tys, fn := lk [], fs := lk [], prot := 0, nt := Try.f54.ntmps }
noncomputable def c_s_l01From_L3 : Code := nthC (partsOf (hasK su_s_l01From) (bodyOf Try.f54)) 0
noncomputable def c_s_l01From_J5 : Code := nthC (partsOf (hasK su_s_l01From) c_s_l01From_L3) 0
theorem es_l01From_j5 {R : Type} (K : Nat) (k : Nat) (x : den lv_s_l01From_J5.ty) (kn : den lv_s_l01From_N5.ty → Option R) (kx : Nat → St → Option R) (kr : St → Option R) : gs_l01From_j5 K k x kn kx kr = evC (cf_s_l01From K) (en_s_l01From K k) c_s_l01From_J5 (mkSt lv_s_l01From_J5 x) (cutK lv_s_l01From_N5 kn) kx kr := by kernel_rfl
theorem ss_l01From_j5 {R : Type} (K : Nat) (C : Cx) (hP : C.P = Try.prog) (O : CfgOk C (cf_s_l01From K)) (k : Nat) : SgS C (R := R) (mkSeg lv_s_l01From_J5 lv_s_l01From_N5 (gs_l01From_j5 K k)) c_s_l01From_J5 :=
  seg_sound O (by rw [hP]; kernel_rfl) (es_l01From_j5 K k) (lpOk_of (en := en_s_l01From K k) (S := hasK su_s_l01From) (fun i => hasK_lk (sg_s_l01From K k) i) _ (by rw [show partsOf (hasK su_s_l01From) c_s_l01From_J5 = [] from by kernel_rfl]; exact trivial))
theorem es_l01From_l3 {R : Type} (K : Nat) (k : Nat) (x : den lv_s_l01From_L3.ty) (kx : Nat → St → Option R) (kr : St → Option R) : gs_l01From_l3 K (k + 1) x kx kr = evC (cf_s_l01From K) (en_s_l01From K k) c_s_l01From_L3 (mkSt lv_s_l01From_L3 x) (fun s => mkLoop lv_s_l01From_L3 (gs_l01From_l3 K k) s kx kr) kx kr := by kernel_rfl
theorem ss_l01From_l3 {R : Type} (K : Nat) (C : Cx) (hP : C.P = Try.prog) (O : CfgOk C (cf_s_l01From K)) (k : Nat) : LpS C (R := R) (mkLoop lv_s_l01From_L3 (gs_l01From_l3 K k)) c_s_l01From_L3 :=
  loop_sound O (by rw [hP]; kernel_rfl) (fun x kx kr => rfl) (es_l01From_l3 K) (fun k => lpOk_of (en := en_s_l01From K k) (S := hasK su_s_l01From) (fun i => hasK_lk (sg_s_l01From K k) i) _ (by rw [show partsOf (hasK su_s_l01From) c_s_l01From_L3 = [(false, c_s_l01From_J5)] from by kernel_rfl]; exact (lpL_seg (f := mkSeg lv_s_l01From_J5 lv_s_l01From_N5 (gs_l01From_j5 K k)) (by kernel_rfl) (ss_l01From_j5 K C hP O k) trivial))) k
theorem e_s_l01From (K : Nat) (x : den ps_s_l01From.ty) : s_l01From K x = evFnS (cf_s_l01From K) ps_s_l01From rl_s_l01From (en_s_l01From K K) Try.f54.results.toList (bodyOf Try.f54) x := by kernel_rfl
theorem ok_s_l01From (K : Nat) : ShOk Try.prog 54 (sp_s_l01From (s_l01From K)) :=
  sh_ok (cf := cf_s_l01From K) (en := en_s_l01From K K) (c := bodyOf Try.f54) Try.func54 (by kernel_rfl) (by kernel_rfl) tysOk (fns_ok (l := []) trivial) (shs_ok (l := []) trivial) (by kernel_rfl) rfl (Nat.le_of_ble_eq_true (by kernel_rfl)) (by kernel_rfl) (Nat.le_of_ble_eq_true (by kernel_rfl)) (by kernel_rfl) (fun C hP O => lpOk_of (en := en_s_l01From K K) (S := hasK su_s_l01From) (fun i => hasK_lk (sg_s_l01From K K) i) _ (by rw [show partsOf (hasK su_s_l01From) (bodyOf Try.f54) = [(true, c_s_l01From_L3)] from by kernel_rfl]; exact (lpL_loop (f := mkLoop lv_s_l01From_L3 (gs_l01From_l3 K K)) (by kernel_rfl) (ss_l01From_l3 K C hP O K) trivial))) (fun x y h => by rw [← e_s_l01From]; exact h)
noncomputable def ps_s_l01Next : Lv := [(0, (.bx (.v (.st (.pair (.sl (.int .u8)) (.pair (.int .i64) (.pair (.int .u64) .unit))))))), (1, (.v (.int .i64)))]
noncomputable def rl_s_l01Next : Lv := [(0, (.v (.int .i64)))]
noncomputable def sp_s_l01Next (F : (((List Int) × Int × Int × Unit) × Int × Unit) → Option ((Int × Unit) × (((List Int) × Int × Int × Unit) × Unit))) : ShSpec := ⟨ps_s_l01Next, rl_s_l01Next, F⟩
noncomputable def s_l01Next (K : Nat) (x : (((List Int) × Int × Int × Unit) × Int × Unit)) : Option ((Int × Unit) × (((List Int) × Int × Int × Unit) × Unit)) :=
    (if (decide (x.2.1 < (1 : Int))) = true then
    some (((0 : Int), ()), (x.1, ()))
    else
    let x1 := (IntKind.u64.wrap ((IntKind.u64.wrap (x.1.2.2.1 * (6364136223846793005 : Int))) + (1442695040888963407 : Int)))
    let x2 := (bitI .and .u64 (shrI .u64 ((x.1.1, x.1.2.1, x1, ()).2.2.1) (33 : Int)) (16777215 : Int))
    let x3 := (decide ((x.1.1, x.1.2.1, x1, ()).2.1 < (((x.1.1, x.1.2.1, x1, ()).1).length : Int)))
    (if x3 = true then
    (if (bnds ((x.1.1, x.1.2.1, x1, ()).2.1) (((x.1.1, x.1.2.1, x1, ()).1).length : Int)) = true then
    let x4 := (((x.1.1, x.1.2.1, x1, ()).1).getD ((x.1.1, x.1.2.1, x1, ()).2.1).toNat (0 : Int))
    let x5 := (IntKind.i64.wrap ((IntKind.i64.wrap x2) + (IntKind.i64.wrap x4)))
    let x6 := (IntKind.i64.wrap ((x.1.1, x.1.2.1, x1, ()).2.1 + (1 : Int)))
    (if (!decide (x.2.1 = 0)) = true then
    some (((Int.tmod x5 x.2.1), ()), (((x.1.1, x.1.2.1, x1, ()).1, x6, (x.1.1, x.1.2.1, x1, ()).2.2.1, ()), ()))
    else
    none)
    else
    none)
    else
    (if (!decide (x.2.1 = 0)) = true then
    some (((Int.tmod (IntKind.i64.wrap x2) x.2.1), ()), ((x.1.1, x.1.2.1, x1, ()), ()))
    else
    none)))
noncomputable def rv_s_l01Next : Lv := [(0, (.bx (.v (.st (.pair (.sl (.int .u8)) (.pair (.int .i64) (.pair (.int .u64) .unit))))))), (4, (.v (.int .i64)))]
noncomputable def sg_s_l01Next {R : Type} (K : Nat) (k : Nat) : List (Nat × SegS R) := []
noncomputable def su_s_l01Next : List (Nat × Unit) := []
noncomputable def en_s_l01Next {R : Type} (K : Nat) (k : Nat) : Env R := { L := lk [], X := lk [], S := lk (sg_s_l01Next K k), rv := rv_s_l01Next }
noncomputable def cf_s_l01Next (K : Nat) : Cfg := { ty := lk tys, fn := lk [], fs := lk [], prot := 1, nt := Try.f65.ntmps }
theorem e_s_l01Next (K : Nat) (x : den ps_s_l01Next.ty) : s_l01Next K x = evFnS (cf_s_l01Next K) ps_s_l01Next rl_s_l01Next (en_s_l01Next K K) Try.f65.results.toList (bodyOf Try.f65) x := by kernel_rfl
theorem ok_s_l01Next (K : Nat) : ShOk Try.prog 65 (sp_s_l01Next (s_l01Next K)) :=
  sh_ok (cf := cf_s_l01Next K) (en := en_s_l01Next K K) (c := bodyOf Try.f65) Try.func65 (by kernel_rfl) (by kernel_rfl) tysOk (fns_ok (l := []) trivial) (shs_ok (l := []) trivial) (by kernel_rfl) rfl (Nat.le_of_ble_eq_true (by kernel_rfl)) (by kernel_rfl) (Nat.le_of_ble_eq_true (by kernel_rfl)) (by kernel_rfl) (fun C hP O => lpOk_of (en := en_s_l01Next K K) (S := hasK su_s_l01Next) (fun i => hasK_lk (sg_s_l01Next K K) i) _ (by rw [show partsOf (hasK su_s_l01Next) (bodyOf Try.f65) = [] from by kernel_rfl]; exact trivial)) (fun x y h => by rw [← e_s_l01Next]; exact h)
noncomputable def ps_s_l01Pick : Lv := [(0, (.bx (.v (.st (.pair (.sl (.int .u8)) (.pair (.int .i64) (.pair (.int .u64) .unit))))))), (1, (.v (.sl (.int .i64))))]
noncomputable def rl_s_l01Pick : Lv := [(0, (.v (.int .i64)))]
noncomputable def sp_s_l01Pick (F : (((List Int) × Int × Int × Unit) × (List Int) × Unit) → Option ((Int × Unit) × (((List Int) × Int × Int × Unit) × Unit))) : ShSpec := ⟨ps_s_l01Pick, rl_s_l01Pick, F⟩
noncomputable def s_l01Pick (K : Nat) (x : (((List Int) × Int × Int × Unit) × (List Int) × Unit)) : Option ((Int × Unit) × (((List Int) × Int × Int × Unit) × Unit)) :=
    (s_l01Next K (x.1, (x.2.1.length : Int), ())).bind fun y1 =>
    (if (bnds y1.1.1 (x.2.1.length : Int)) = true then
    some (((x.2.1.getD y1.1.1.toNat (0 : Int)), ()), (y1.2.1, ()))
    else
    none)
noncomputable def rv_s_l01Pick : Lv := [(0, (.bx (.v (.st (.pair (.sl (.int .u8)) (.pair (.int .i64) (.pair (.int .u64) .unit))))))), (4, (.v (.int .i64)))]
noncomputable def sg_s_l01Pick {R : Type} (K : Nat) (k : Nat) : List (Nat × SegS R) := []
noncomputable def su_s_l01Pick : List (Nat × Unit) := []
noncomputable def en_s_l01Pick {R : Type} (K : Nat) (k : Nat) : Env R := { L := lk [], X := lk [], S := lk (sg_s_l01Pick K k), rv := rv_s_l01Pick }
noncomputable def cf_s_l01Pick (K : Nat) : Cfg := { ty := lk tys, fn := lk [], fs := lk [(65, sp_s_l01Next (s_l01Next K))], prot := 1, nt := Try.f57.ntmps }
theorem e_s_l01Pick (K : Nat) (x : den ps_s_l01Pick.ty) : s_l01Pick K x = evFnS (cf_s_l01Pick K) ps_s_l01Pick rl_s_l01Pick (en_s_l01Pick K K) Try.f57.results.toList (bodyOf Try.f57) x := by kernel_rfl
theorem ok_s_l01Pick (K : Nat) : ShOk Try.prog 57 (sp_s_l01Pick (s_l01Pick K)) :=
  sh_ok (cf := cf_s_l01Pick K) (en := en_s_l01Pick K K) (c := bodyOf Try.f57) Try.func57 (by kernel_rfl) (by kernel_rfl) tysOk (fns_ok (l := []) trivial) (shs_ok (l := [(65, sp_s_l01Next (s_l01Next K))]) ⟨ok_s_l01Next K, trivial⟩) (by kernel_rfl) rfl (Nat.le_of_ble_eq_true (by kernel_rfl)) (by kernel_rfl) (Nat.le_of_ble_eq_true (by kernel_rfl)) (by kernel_rfl) (fun C hP O => lpOk_of (en := en_s_l01Pick K K) (S := hasK su_s_l01Pick) (fun i => hasK_lk (sg_s_l01Pick K K) i) _ (by rw [show partsOf (hasK su_s_l01Pick) (bodyOf Try.f57) = [] from by kernel_rfl]; exact trivial)) (fun x y h => by rw [← e_s_l01Pick]; exact h)
noncomputable def as_s_l01Rows : Ty := (.pair (.int .i64) .unit)
noncomputable def sp_s_l01Rows (F : (Int × Unit) → Option Int) : FnSpec := ⟨as_s_l01Rows, [false], (.int .i64), F⟩
noncomputable def s_l01Rows (K : Nat) (x : (Int × Unit)) : Option Int :=
    (if (decide ((0 : Int) ≤ (IntKind.u64.wrap x.1))) = true then
    some (shlI .i64 (1 : Int) (IntKind.u64.wrap x.1))
    else
    none)
noncomputable def rv_s_l01Rows : Lv := [(2, (.v (.int .i64)))]
noncomputable def sg_s_l01Rows {R : Type} (K : Nat) (k : Nat) : List (Nat × SegS R) := []
noncomputable def su_s_l01Rows : List (Nat × Unit) := []
noncomputable def en_s_l01Rows {R : Type} (K : Nat) (k : Nat) : Env R := { L := lk [], X := lk [], S := lk (sg_s_l01Rows K k), rv := rv_s_l01Rows }
noncomputable def cf_s_l01Rows (K : Nat) : Cfg := { ty := lk tys, fn := lk [], fs := lk [], prot := 0, nt := Try.f78.ntmps }
theorem e_s_l01Rows (K : Nat) (x : den as_s_l01Rows) : s_l01Rows K x = evFn (cf_s_l01Rows K) as_s_l01Rows [false] (.int .i64) (en_s_l01Rows K K) Try.f78.results.toList (bodyOf Try.f78) x := by kernel_rfl
theorem ok_s_l01Rows (K : Nat) : FnOk Try.prog 78 (sp_s_l01Rows (s_l01Rows K)) :=
  fn_ok (cf := cf_s_l01Rows K) (en := en_s_l01Rows K K) (c := bodyOf Try.f78) Try.func78 (by kernel_rfl) (by kernel_rfl) tysOk (fns_ok (l := []) trivial) (shs_ok (l := []) trivial) (by kernel_rfl) rfl (Nat.le_of_ble_eq_true (by kernel_rfl)) (by kernel_rfl) (of_decide_eq_true (by kernel_rfl)) (by decide) (fun C hP O => lpOk_of (en := en_s_l01Rows K K) (S := hasK su_s_l01Rows) (fun i => hasK_lk (sg_s_l01Rows K K) i) _ (by rw [show partsOf (hasK su_s_l01Rows) (bodyOf Try.f78) = [] from by kernel_rfl]; exact trivial)) (fun x y h => by rw [← e_s_l01Rows]; exact h)
noncomputable def as_s_l09Has : Ty := (.pair (.st (.pair (.int .i64) (.pair (.int .i64) .unit))) (.pair (.int .i64) .unit))
noncomputable def sp_s_l09Has (F : ((Int × Int × Unit) × Int × Unit) → Option Bool) : FnSpec := ⟨as_s_l09Has, [false, false], .bool, F⟩
noncomputable def s_l09Has (K : Nat) (x : ((Int × Int × Unit) × Int × Unit)) : Option Bool :=
    (if (decide ((0 : Int) ≤ (IntKind.u64.wrap x.2.1))) = true then
    let x1 := (bitI .and .i64 (shrI .i64 x.1.2.1 (IntKind.u64.wrap x.2.1)) (1 : Int))
    some (decide (x1 = (1 : Int)))
    else
    none)
noncomputable def rv_s_l09Has : Lv := [(4, (.v .bool))]
noncomputable def sg_s_l09Has {R : Type} (K : Nat) (k : Nat) : List (Nat × SegS R) := []
noncomputable def su_s_l09Has : List (Nat × Unit) := []
noncomputable def en_s_l09Has {R : Type} (K : Nat) (k : Nat) : Env R := { L := lk [], X := lk [], S := lk (sg_s_l09Has K k), rv := rv_s_l09Has }
noncomputable def cf_s_l09Has (K : Nat) : Cfg := { ty := lk tys, fn := lk [], fs := lk [], prot := 0, nt := Try.f107.ntmps }
theorem e_s_l09Has (K : Nat) (x : den as_s_l09Has) : s_l09Has K x = evFn (cf_s_l09Has K) as_s_l09Has [false, false] .bool (en_s_l09Has K K) Try.f107.results.toList (bodyOf Try.f107) x := by kernel_rfl
theorem ok_s_l09Has (K : Nat) : FnOk Try.prog 107 (sp_s_l09Has (s_l09Has K)) :=
  fn_ok (cf := cf_s_l09Has K) (en := en_s_l09Has K K) (c := bodyOf Try.f107) Try.func107 (by kernel_rfl) (by kernel_rfl) tysOk (fns_ok (l := []) trivial) (shs_ok (l := []) trivial) (by kernel_rfl) rfl (Nat.le_of_ble_eq_true (by kernel_rfl)) (by kernel_rfl) (of_decide_eq_true (by kernel_rfl)) (by decide) (fun C hP O => lpOk_of (en := en_s_l09Has K K) (S := hasK su_s_l09Has) (fun i => hasK_lk (sg_s_l09Has K K) i) _ (by rw [show partsOf (hasK su_s_l09Has) (bodyOf Try.f107) = [] from by kernel_rfl]; exact trivial)) (fun x y h => by rw [← e_s_l09Has]; exact h)
noncomputable def as_s_l01Known : Ty := .unit
noncomputable def sp_s_l01Known (F : Unit → Option (List ByteArray)) : FnSpec := ⟨as_s_l01Known, [], (.sl .str), F⟩
noncomputable def s_l01Known (K : Nat) (x : Unit) : Option (List ByteArray) :=
    let l1 := [(⟨#[48, 58, 48]⟩ : ByteArray), (⟨#[48, 58, 49]⟩ : ByteArray), (⟨#[49, 58, 48, 49]⟩ : ByteArray), (⟨#[49, 58, 49, 48]⟩ : ByteArray), (⟨#[50, 58, 48, 48, 48, 49]⟩ : ByteArray), (⟨#[50, 58, 48, 49, 49, 49]⟩ : ByteArray), (⟨#[50, 58, 48, 49, 49, 48]⟩ : ByteArray), (⟨#[50, 58, 49, 49, 49, 48]⟩ : ByteArray), (⟨#[50, 58, 49, 48, 48, 48]⟩ : ByteArray), (⟨#[50, 58, 49, 48, 48, 49]⟩ : ByteArray), (⟨#[50, 58, 49, 48, 49, 49]⟩ : ByteArray), (⟨#[51, 58, 48, 48, 48, 49, 48, 49, 49, 49]⟩ : ByteArray), (⟨#[51, 58, 48, 49, 49, 48, 49, 48, 48, 49]⟩ : ByteArray), (⟨#[51, 58, 48, 48, 48, 49, 49, 48, 49, 49]⟩ : ByteArray)]
    some l1
noncomputable def rv_s_l01Known : Lv := [(0, (.r .str))]
noncomputable def sg_s_l01Known {R : Type} (K : Nat) (k : Nat) : List (Nat × SegS R) := []
noncomputable def su_s_l01Known : List (Nat × Unit) := []
noncomputable def en_s_l01Known {R : Type} (K : Nat) (k : Nat) : Env R := { L := lk [], X := lk [], S := lk (sg_s_l01Known K k), rv := rv_s_l01Known }
noncomputable def cf_s_l01Known (K : Nat) : Cfg := { ty := lk tys, fn := lk [], fs := lk [], prot := 0, nt := Try.f146.ntmps }
theorem e_s_l01Known (K : Nat) (x : den as_s_l01Known) : s_l01Known K x = evFn (cf_s_l01Known K) as_s_l01Known [] (.sl .str) (en_s_l01Known K K) Try.f146.results.toList (bodyOf Try.f146) x := by kernel_rfl
theorem ok_s_l01Known (K : Nat) : FnOk Try.prog 146 (sp_s_l01Known (s_l01Known K)) :=
  fn_ok (cf := cf_s_l01Known K) (en := en_s_l01Known K K) (c := bodyOf Try.f146) Try.func146 (by kernel_rfl) (by kernel_rfl) tysOk (fns_ok (l := []) trivial) (shs_ok (l := []) trivial) (by kernel_rfl) rfl (Nat.le_of_ble_eq_true (by kernel_rfl)) (by kernel_rfl) (of_decide_eq_true (by kernel_rfl)) (by decide) (fun C hP O => lpOk_of (en := en_s_l01Known K K) (S := hasK su_s_l01Known) (fun i => hasK_lk (sg_s_l01Known K K) i) _ (by rw [show partsOf (hasK su_s_l01Known) (bodyOf Try.f146) = [] from by kernel_rfl]; exact trivial)) (fun x y h => by rw [← e_s_l01Known]; exact h)
noncomputable def as_s_l01In : Ty := (.pair (.int .i64) (.pair (.int .i64) (.pair (.int .i64) .unit)))
noncomputable def sp_s_l01In (F : (Int × Int × Int × Unit) → Option Bool) : FnSpec := ⟨as_s_l01In, [false, false, false], .bool, F⟩
noncomputable def s_l01In (K : Nat) (x : (Int × Int × Int × Unit)) : Option Bool :=
    (if (decide (x.1 ≥ x.2.1)) = true then
    some (decide (x.1 ≤ x.2.2.1))
    else
    some false)
noncomputable def rv_s_l01In : Lv := [(6, (.v .bool))]
noncomputable def sg_s_l01In {R : Type} (K : Nat) (k : Nat) : List (Nat × SegS R) := []
noncomputable def su_s_l01In : List (Nat × Unit) := []
noncomputable def en_s_l01In {R : Type} (K : Nat) (k : Nat) : Env R := { L := lk [], X := lk [], S := lk (sg_s_l01In K k), rv := rv_s_l01In }
noncomputable def cf_s_l01In (K : Nat) : Cfg := { ty := lk tys, fn := lk [], fs := lk [], prot := 0, nt := Try.f71.ntmps }
theorem e_s_l01In (K : Nat) (x : den as_s_l01In) : s_l01In K x = evFn (cf_s_l01In K) as_s_l01In [false, false, false] .bool (en_s_l01In K K) Try.f71.results.toList (bodyOf Try.f71) x := by kernel_rfl
theorem ok_s_l01In (K : Nat) : FnOk Try.prog 71 (sp_s_l01In (s_l01In K)) :=
  fn_ok (cf := cf_s_l01In K) (en := en_s_l01In K K) (c := bodyOf Try.f71) Try.func71 (by kernel_rfl) (by kernel_rfl) tysOk (fns_ok (l := []) trivial) (shs_ok (l := []) trivial) (by kernel_rfl) rfl (Nat.le_of_ble_eq_true (by kernel_rfl)) (by kernel_rfl) (of_decide_eq_true (by kernel_rfl)) (by decide) (fun C hP O => lpOk_of (en := en_s_l01In K K) (S := hasK su_s_l01In) (fun i => hasK_lk (sg_s_l01In K K) i) _ (by rw [show partsOf (hasK su_s_l01In) (bodyOf Try.f71) = [] from by kernel_rfl]; exact trivial)) (fun x y h => by rw [← e_s_l01In]; exact h)
noncomputable def as_s_l01Of : Ty := (.pair (.int .i64) (.pair (.sl (.int .i64)) .unit))
noncomputable def sp_s_l01Of (F : (Int × (List Int) × Unit) → Option (Int × Int × Unit)) : FnSpec := ⟨as_s_l01Of, [false, false], (.st (.pair (.int .i64) (.pair (.int .i64) .unit))), F⟩
noncomputable def s_l01Of_l3 {R : Type} (K : Nat) : Nat → Int → (List Int) → (Int × Int × Unit) → (Int × Int × Unit) → Int → ((Int × Int × Unit) → (Int × Int × Unit) → Option R) → Option R
  | 0, _, _, _, _, _, _ => none
  | k + 1, v0, v1, v4, v5, v6, kx0 =>
    (s_l01Rows K (v0, ())).bind fun y1 =>
    (if (decide (v6 < y1)) = true then
    (if (bnds v6 (v1.length : Int)) = true then
    (if (decide ((0 : Int) ≤ (IntKind.u64.wrap v6))) = true then
    let x2 := (shlI .i64 (v1.getD v6.toNat (0 : Int)) (IntKind.u64.wrap v6))
    s_l01Of_l3 K k v0 v1 v4 (v5.1, (IntKind.i64.wrap (v5.2.1 + x2)), ()) (IntKind.i64.wrap (v6 + (1 : Int))) kx0
    else
    none)
    else
    none)
    else
    kx0 v4 v5)
noncomputable def s_l01Of (K : Nat) (x : (Int × (List Int) × Unit)) : Option (Int × Int × Unit) :=
    s_l01Of_l3 K K x.1 x.2.1 ((0 : Int), (0 : Int), ()) (x.1, ((0 : Int), (0 : Int), ()).2.1, ()) (0 : Int) (fun z3 z4 =>
    some z4)
noncomputable def lv_s_l01Of_L3 : Lv := [(0, (.v (.int .i64))), (1, (.v (.sl (.int .i64)))), (4, (.bx (.v (.st (.pair (.int .i64) (.pair (.int .i64) .unit)))))), (5, (.bx (.v (.st (.pair (.int .i64) (.pair (.int .i64) .unit)))))), (6, (.v (.int .i64)))]
noncomputable def lv_s_l01Of_X0 : Lv := [(4, (.bx (.v (.st (.pair (.int .i64) (.pair (.int .i64) .unit)))))), (5, (.bx (.v (.st (.pair (.int .i64) (.pair (.int .i64) .unit))))))]
noncomputable def rv_s_l01Of : Lv := [(4, (.bx (.v (.st (.pair (.int .i64) (.pair (.int .i64) .unit))))))]
noncomputable def gs_l01Of_l3 {R : Type} (K : Nat) (k : Nat) (x : den lv_s_l01Of_L3.ty) (kx : Nat → St → Option R) (kr : St → Option R) : Option R := s_l01Of_l3 K k x.1 x.2.1 x.2.2.1 x.2.2.2.1 x.2.2.2.2.1 (fun z0 z1 => kx 0 (mkSt lv_s_l01Of_X0 (z0, z1, ())))
noncomputable def sg_s_l01Of {R : Type} (K : Nat) (k : Nat) : List (Nat × SegS R) := []
noncomputable def su_s_l01Of : List (Nat × Unit) := []
noncomputable def en_s_l01Of {R : Type} (K : Nat) (k : Nat) : Env R := { L := lk [(3, mkLoop lv_s_l01Of_L3 (gs_l01Of_l3 K k))], X := lk [(0, lv_s_l01Of_X0)], S := lk (sg_s_l01Of K k), rv := rv_s_l01Of }
noncomputable def cf_s_l01Of (K : Nat) : Cfg := { ty := lk tys, fn := lk [(78, sp_s_l01Rows (s_l01Rows K))], fs := lk [], prot := 0, nt := Try.f145.ntmps }
noncomputable def c_s_l01Of_L3 : Code := nthC (partsOf (hasK su_s_l01Of) (bodyOf Try.f145)) 0
theorem es_l01Of_l3 {R : Type} (K : Nat) (k : Nat) (x : den lv_s_l01Of_L3.ty) (kx : Nat → St → Option R) (kr : St → Option R) : gs_l01Of_l3 K (k + 1) x kx kr = evC (cf_s_l01Of K) (en_s_l01Of K k) c_s_l01Of_L3 (mkSt lv_s_l01Of_L3 x) (fun s => mkLoop lv_s_l01Of_L3 (gs_l01Of_l3 K k) s kx kr) kx kr := by kernel_rfl
theorem ss_l01Of_l3 {R : Type} (K : Nat) (C : Cx) (hP : C.P = Try.prog) (O : CfgOk C (cf_s_l01Of K)) (k : Nat) : LpS C (R := R) (mkLoop lv_s_l01Of_L3 (gs_l01Of_l3 K k)) c_s_l01Of_L3 :=
  loop_sound O (by rw [hP]; kernel_rfl) (fun x kx kr => rfl) (es_l01Of_l3 K) (fun k => lpOk_of (en := en_s_l01Of K k) (S := hasK su_s_l01Of) (fun i => hasK_lk (sg_s_l01Of K k) i) _ (by rw [show partsOf (hasK su_s_l01Of) c_s_l01Of_L3 = [] from by kernel_rfl]; exact trivial)) k
theorem e_s_l01Of (K : Nat) (x : den as_s_l01Of) : s_l01Of K x = evFn (cf_s_l01Of K) as_s_l01Of [false, false] (.st (.pair (.int .i64) (.pair (.int .i64) .unit))) (en_s_l01Of K K) Try.f145.results.toList (bodyOf Try.f145) x := by kernel_rfl
theorem ok_s_l01Of (K : Nat) : FnOk Try.prog 145 (sp_s_l01Of (s_l01Of K)) :=
  fn_ok (cf := cf_s_l01Of K) (en := en_s_l01Of K K) (c := bodyOf Try.f145) Try.func145 (by kernel_rfl) (by kernel_rfl) tysOk (fns_ok (l := [(78, sp_s_l01Rows (s_l01Rows K))]) ⟨ok_s_l01Rows K, trivial⟩) (shs_ok (l := []) trivial) (by kernel_rfl) rfl (Nat.le_of_ble_eq_true (by kernel_rfl)) (by kernel_rfl) (of_decide_eq_true (by kernel_rfl)) (by decide) (fun C hP O => lpOk_of (en := en_s_l01Of K K) (S := hasK su_s_l01Of) (fun i => hasK_lk (sg_s_l01Of K K) i) _ (by rw [show partsOf (hasK su_s_l01Of) (bodyOf Try.f145) = [(true, c_s_l01Of_L3)] from by kernel_rfl]; exact (lpL_loop (f := mkLoop lv_s_l01Of_L3 (gs_l01Of_l3 K K)) (by kernel_rfl) (ss_l01Of_l3 K C hP O K) trivial))) (fun x y h => by rw [← e_s_l01Of]; exact h)
noncomputable def as_s_l01Bits : Ty := (.pair (.sl (.int .i64)) .unit)
noncomputable def sp_s_l01Bits (F : ((List Int) × Unit) → Option Bool) : FnSpec := ⟨as_s_l01Bits, [false], .bool, F⟩
noncomputable def s_l01Bits_l2 {R : Type} (K : Nat) : Nat → (List Int) → Int → (Option R) → (Bool → Option R) → Option R
  | 0, _, _, _, _ => none
  | k + 1, v0, v3, kx0, kr =>
    (if (decide (v3 < (v0.length : Int))) = true then
    (if (bnds v3 (v0.length : Int)) = true then
    (s_l01In K ((v0.getD v3.toNat (0 : Int)), (0 : Int), (1 : Int), ())).bind fun y1 =>
    (if (!y1) = true then
    kr false
    else
    s_l01Bits_l2 K k v0 (IntKind.i64.wrap (v3 + (1 : Int))) kx0 kr)
    else
    none)
    else
    kx0)
noncomputable def s_l01Bits (K : Nat) (x : ((List Int) × Unit)) : Option Bool :=
    s_l01Bits_l2 K K x.1 (0 : Int) (some true) (fun z2 =>
    some z2)
noncomputable def lv_s_l01Bits_L2 : Lv := [(0, (.v (.sl (.int .i64)))), (3, (.v (.int .i64)))]
noncomputable def lv_s_l01Bits_X0 : Lv := []
noncomputable def rv_s_l01Bits : Lv := [(2, (.v .bool))]
noncomputable def gs_l01Bits_l2 {R : Type} (K : Nat) (k : Nat) (x : den lv_s_l01Bits_L2.ty) (kx : Nat → St → Option R) (kr : St → Option R) : Option R := s_l01Bits_l2 K k x.1 x.2.1 (kx 0 (mkSt lv_s_l01Bits_X0 ())) (fun z0 => kr (mkSt rv_s_l01Bits (z0, ())))
noncomputable def sg_s_l01Bits {R : Type} (K : Nat) (k : Nat) : List (Nat × SegS R) := []
noncomputable def su_s_l01Bits : List (Nat × Unit) := []
noncomputable def en_s_l01Bits {R : Type} (K : Nat) (k : Nat) : Env R := { L := lk [(2, mkLoop lv_s_l01Bits_L2 (gs_l01Bits_l2 K k))], X := lk [(0, lv_s_l01Bits_X0)], S := lk (sg_s_l01Bits K k), rv := rv_s_l01Bits }
noncomputable def cf_s_l01Bits (K : Nat) : Cfg := { ty := lk tys, fn := lk [(71, sp_s_l01In (s_l01In K))], fs := lk [], prot := 0, nt := Try.f173.ntmps }
noncomputable def c_s_l01Bits_L2 : Code := nthC (partsOf (hasK su_s_l01Bits) (bodyOf Try.f173)) 0
theorem es_l01Bits_l2 {R : Type} (K : Nat) (k : Nat) (x : den lv_s_l01Bits_L2.ty) (kx : Nat → St → Option R) (kr : St → Option R) : gs_l01Bits_l2 K (k + 1) x kx kr = evC (cf_s_l01Bits K) (en_s_l01Bits K k) c_s_l01Bits_L2 (mkSt lv_s_l01Bits_L2 x) (fun s => mkLoop lv_s_l01Bits_L2 (gs_l01Bits_l2 K k) s kx kr) kx kr := by kernel_rfl
theorem ss_l01Bits_l2 {R : Type} (K : Nat) (C : Cx) (hP : C.P = Try.prog) (O : CfgOk C (cf_s_l01Bits K)) (k : Nat) : LpS C (R := R) (mkLoop lv_s_l01Bits_L2 (gs_l01Bits_l2 K k)) c_s_l01Bits_L2 :=
  loop_sound O (by rw [hP]; kernel_rfl) (fun x kx kr => rfl) (es_l01Bits_l2 K) (fun k => lpOk_of (en := en_s_l01Bits K k) (S := hasK su_s_l01Bits) (fun i => hasK_lk (sg_s_l01Bits K k) i) _ (by rw [show partsOf (hasK su_s_l01Bits) c_s_l01Bits_L2 = [] from by kernel_rfl]; exact trivial)) k
theorem e_s_l01Bits (K : Nat) (x : den as_s_l01Bits) : s_l01Bits K x = evFn (cf_s_l01Bits K) as_s_l01Bits [false] .bool (en_s_l01Bits K K) Try.f173.results.toList (bodyOf Try.f173) x := by kernel_rfl
theorem ok_s_l01Bits (K : Nat) : FnOk Try.prog 173 (sp_s_l01Bits (s_l01Bits K)) :=
  fn_ok (cf := cf_s_l01Bits K) (en := en_s_l01Bits K K) (c := bodyOf Try.f173) Try.func173 (by kernel_rfl) (by kernel_rfl) tysOk (fns_ok (l := [(71, sp_s_l01In (s_l01In K))]) ⟨ok_s_l01In K, trivial⟩) (shs_ok (l := []) trivial) (by kernel_rfl) rfl (Nat.le_of_ble_eq_true (by kernel_rfl)) (by kernel_rfl) (of_decide_eq_true (by kernel_rfl)) (by decide) (fun C hP O => lpOk_of (en := en_s_l01Bits K K) (S := hasK su_s_l01Bits) (fun i => hasK_lk (sg_s_l01Bits K K) i) _ (by rw [show partsOf (hasK su_s_l01Bits) (bodyOf Try.f173) = [(true, c_s_l01Bits_L2)] from by kernel_rfl]; exact (lpL_loop (f := mkLoop lv_s_l01Bits_L2 (gs_l01Bits_l2 K K)) (by kernel_rfl) (ss_l01Bits_l2 K C hP O K) trivial))) (fun x y h => by rw [← e_s_l01Bits]; exact h)
noncomputable def as_s_l01Read : Ty := (.pair .str .unit)
noncomputable def sp_s_l01Read (F : (ByteArray × Unit) → Option ((Int × Int × Unit) × Bool × Unit)) : FnSpec := ⟨as_s_l01Read, [false], (.tup (.pair (.st (.pair (.int .i64) (.pair (.int .i64) .unit))) (.pair .bool .unit))), F⟩
noncomputable def s_l01Read_l7 {R : Type} (K : Nat) : Nat → ByteArray → (Int × Int × Unit) → Int → (List Int) → Int → ((Int × Int × Unit) → Int → (List Int) → Option R) → Option R
  | 0, _, _, _, _, _, _ => none
  | k + 1, v0, v2, v4, v5, v6, kx0 =>
    (if (decide (v6 < (v0.size : Int))) = true then
    (if (bnds v6 (v0.size : Int)) = true then
    let x6 := (IntKind.i64.wrap ((IntKind.i64.wrap (byteAt v0 v6)) - (48 : Int)))
    (if (decide (v5.length + ([x6]).length ≤ lim)) = true then
    let l7 := (v5 ++ [x6])
    s_l01Read_l7 K k v0 v2 v4 l7 (IntKind.i64.wrap (v6 + (1 : Int))) kx0
    else
    none)
    else
    none)
    else
    kx0 v2 v4 v5)
noncomputable def s_l01Read_j6 {R : Type} (K : Nat) (k : Nat) (v0 : ByteArray) (v2 : (Int × Int × Unit)) (v4 : Int) (v5 : (List Int)) (kn : Option R) (kr : ((Int × Int × Unit) → Bool → Option R)) : Option R :=
    s_l01Read_l7 K k v0 v2 v4 v5 (2 : Int) (fun z8 z9 z10 =>
    (s_l01Bits K (z10, ())).bind fun y11 =>
    (if (!y11) = true then
    kr ((0 : Int), (0 : Int), ()) false
    else
    (s_l01Of K (z9, z10, ())).bind fun y12 =>
    kr y12 true))
noncomputable def s_l01Read_j3 {R : Type} (K : Nat) (k : Nat) (v0 : ByteArray) (v2 : (Int × Int × Unit)) (kn : Option R) (kr : ((Int × Int × Unit) → Bool → Option R)) : Option R :=
    (if (bnds (0 : Int) (v0.size : Int)) = true then
    let x1 := (IntKind.i64.wrap ((IntKind.i64.wrap (byteAt v0 (0 : Int))) - (48 : Int)))
    let l2 := ([] : List Int)
    (s_l01In K (x1, (0 : Int), (4 : Int), ())).bind fun y3 =>
    (if (!y3) = true then
    kr ((0 : Int), (0 : Int), ()) false
    else
    (s_l01Rows K (x1, ())).bind fun y4 =>
    let x5 := (!decide ((v0.size : Int) = (IntKind.i64.wrap ((2 : Int) + y4))))
    (if x5 = true then
    kr ((0 : Int), (0 : Int), ()) false
    else
    s_l01Read_j6 K k v0 v2 x1 l2 none (fun z13 z14 =>
    kr z13 z14)))
    else
    none)
noncomputable def s_l01Read (K : Nat) (x : (ByteArray × Unit)) : Option ((Int × Int × Unit) × Bool × Unit) :=
    (if (decide ((x.1.size : Int) < (3 : Int))) = true then
    some (((0 : Int), (0 : Int), ()), false, ())
    else
    (if (bnds (1 : Int) (x.1.size : Int)) = true then
    (if (!decide ((byteAt x.1 (1 : Int)) = (58 : Int))) = true then
    some (((0 : Int), (0 : Int), ()), false, ())
    else
    s_l01Read_j3 K K x.1 ((0 : Int), (0 : Int), ()) none (fun z15 z16 =>
    some (z15, z16, ())))
    else
    none))
noncomputable def lv_s_l01Read_J3 : Lv := [(0, (.v .str)), (2, (.bx (.v (.st (.pair (.int .i64) (.pair (.int .i64) .unit))))))]
noncomputable def lv_s_l01Read_J6 : Lv := [(0, (.v .str)), (2, (.bx (.v (.st (.pair (.int .i64) (.pair (.int .i64) .unit)))))), (4, (.v (.int .i64))), (5, (.r (.int .i64)))]
noncomputable def lv_s_l01Read_L7 : Lv := [(0, (.v .str)), (2, (.bx (.v (.st (.pair (.int .i64) (.pair (.int .i64) .unit)))))), (4, (.v (.int .i64))), (5, (.r (.int .i64))), (6, (.v (.int .i64)))]
noncomputable def lv_s_l01Read_N3 : Lv := []
noncomputable def lv_s_l01Read_N6 : Lv := []
noncomputable def lv_s_l01Read_X0 : Lv := [(2, (.bx (.v (.st (.pair (.int .i64) (.pair (.int .i64) .unit)))))), (4, (.v (.int .i64))), (5, (.r (.int .i64)))]
noncomputable def rv_s_l01Read : Lv := [(2, (.bx (.v (.st (.pair (.int .i64) (.pair (.int .i64) .unit)))))), (3, (.v .bool))]
noncomputable def gs_l01Read_l7 {R : Type} (K : Nat) (k : Nat) (x : den lv_s_l01Read_L7.ty) (kx : Nat → St → Option R) (kr : St → Option R) : Option R := s_l01Read_l7 K k x.1 x.2.1 x.2.2.1 x.2.2.2.1 x.2.2.2.2.1 (fun z0 z1 z2 => kx 0 (mkSt lv_s_l01Read_X0 (z0, z1, z2, ())))
noncomputable def gs_l01Read_j6 {R : Type} (K : Nat) (k : Nat) (x : den lv_s_l01Read_J6.ty) (kn : den lv_s_l01Read_N6.ty → Option R) (kx : Nat → St → Option R) (kr : St → Option R) : Option R := s_l01Read_j6 K k x.1 x.2.1 x.2.2.1 x.2.2.2.1 (kn ()) (fun z0 z1 => kr (mkSt rv_s_l01Read (z0, z1, ())))
noncomputable def gs_l01Read_j3 {R : Type} (K : Nat) (k : Nat) (x : den lv_s_l01Read_J3.ty) (kn : den lv_s_l01Read_N3.ty → Option R) (kx : Nat → St → Option R) (kr : St → Option R) : Option R := s_l01Read_j3 K k x.1 x.2.1 (kn ()) (fun z0 z1 => kr (mkSt rv_s_l01Read (z0, z1, ())))
noncomputable def sg_s_l01Read {R : Type} (K : Nat) (k : Nat) : List (Nat × SegS R) := [(6, mkSeg lv_s_l01Read_J6 lv_s_l01Read_N6 (gs_l01Read_j6 K k)), (3, mkSeg lv_s_l01Read_J3 lv_s_l01Read_N3 (gs_l01Read_j3 K k))]
noncomputable def su_s_l01Read : List (Nat × Unit) := [(6, ()), (3, ())]
noncomputable def en_s_l01Read {R : Type} (K : Nat) (k : Nat) : Env R := { L := lk [(7, mkLoop lv_s_l01Read_L7 (gs_l01Read_l7 K k))], X := lk [(0, lv_s_l01Read_X0)], S := lk (sg_s_l01Read K k), rv := rv_s_l01Read }
noncomputable def cf_s_l01Read (K : Nat) : Cfg := { ty := lk tys, fn := lk [(71, sp_s_l01In (s_l01In K)), (78, sp_s_l01Rows (s_l01Rows K)), (145, sp_s_l01Of (s_l01Of K)), (173, sp_s_l01Bits (s_l01Bits K))], fs := lk [], prot := 0, nt := Try.f147.ntmps }
noncomputable def c_s_l01Read_J3 : Code := nthC (partsOf (hasK su_s_l01Read) (bodyOf Try.f147)) 0
noncomputable def c_s_l01Read_J6 : Code := nthC (partsOf (hasK su_s_l01Read) c_s_l01Read_J3) 0
noncomputable def c_s_l01Read_L7 : Code := nthC (partsOf (hasK su_s_l01Read) c_s_l01Read_J6) 0
theorem es_l01Read_l7 {R : Type} (K : Nat) (k : Nat) (x : den lv_s_l01Read_L7.ty) (kx : Nat → St → Option R) (kr : St → Option R) : gs_l01Read_l7 K (k + 1) x kx kr = evC (cf_s_l01Read K) (en_s_l01Read K k) c_s_l01Read_L7 (mkSt lv_s_l01Read_L7 x) (fun s => mkLoop lv_s_l01Read_L7 (gs_l01Read_l7 K k) s kx kr) kx kr := by kernel_rfl
theorem ss_l01Read_l7 {R : Type} (K : Nat) (C : Cx) (hP : C.P = Try.prog) (O : CfgOk C (cf_s_l01Read K)) (k : Nat) : LpS C (R := R) (mkLoop lv_s_l01Read_L7 (gs_l01Read_l7 K k)) c_s_l01Read_L7 :=
  loop_sound O (by rw [hP]; kernel_rfl) (fun x kx kr => rfl) (es_l01Read_l7 K) (fun k => lpOk_of (en := en_s_l01Read K k) (S := hasK su_s_l01Read) (fun i => hasK_lk (sg_s_l01Read K k) i) _ (by rw [show partsOf (hasK su_s_l01Read) c_s_l01Read_L7 = [] from by kernel_rfl]; exact trivial)) k
theorem es_l01Read_j6 {R : Type} (K : Nat) (k : Nat) (x : den lv_s_l01Read_J6.ty) (kn : den lv_s_l01Read_N6.ty → Option R) (kx : Nat → St → Option R) (kr : St → Option R) : gs_l01Read_j6 K k x kn kx kr = evC (cf_s_l01Read K) (en_s_l01Read K k) c_s_l01Read_J6 (mkSt lv_s_l01Read_J6 x) (cutK lv_s_l01Read_N6 kn) kx kr := by kernel_rfl
theorem ss_l01Read_j6 {R : Type} (K : Nat) (C : Cx) (hP : C.P = Try.prog) (O : CfgOk C (cf_s_l01Read K)) (k : Nat) : SgS C (R := R) (mkSeg lv_s_l01Read_J6 lv_s_l01Read_N6 (gs_l01Read_j6 K k)) c_s_l01Read_J6 :=
  seg_sound O (by rw [hP]; kernel_rfl) (es_l01Read_j6 K k) (lpOk_of (en := en_s_l01Read K k) (S := hasK su_s_l01Read) (fun i => hasK_lk (sg_s_l01Read K k) i) _ (by rw [show partsOf (hasK su_s_l01Read) c_s_l01Read_J6 = [(true, c_s_l01Read_L7)] from by kernel_rfl]; exact (lpL_loop (f := mkLoop lv_s_l01Read_L7 (gs_l01Read_l7 K k)) (by kernel_rfl) (ss_l01Read_l7 K C hP O k) trivial)))
theorem es_l01Read_j3 {R : Type} (K : Nat) (k : Nat) (x : den lv_s_l01Read_J3.ty) (kn : den lv_s_l01Read_N3.ty → Option R) (kx : Nat → St → Option R) (kr : St → Option R) : gs_l01Read_j3 K k x kn kx kr = evC (cf_s_l01Read K) (en_s_l01Read K k) c_s_l01Read_J3 (mkSt lv_s_l01Read_J3 x) (cutK lv_s_l01Read_N3 kn) kx kr := by kernel_rfl
theorem ss_l01Read_j3 {R : Type} (K : Nat) (C : Cx) (hP : C.P = Try.prog) (O : CfgOk C (cf_s_l01Read K)) (k : Nat) : SgS C (R := R) (mkSeg lv_s_l01Read_J3 lv_s_l01Read_N3 (gs_l01Read_j3 K k)) c_s_l01Read_J3 :=
  seg_sound O (by rw [hP]; kernel_rfl) (es_l01Read_j3 K k) (lpOk_of (en := en_s_l01Read K k) (S := hasK su_s_l01Read) (fun i => hasK_lk (sg_s_l01Read K k) i) _ (by rw [show partsOf (hasK su_s_l01Read) c_s_l01Read_J3 = [(false, c_s_l01Read_J6)] from by kernel_rfl]; exact (lpL_seg (f := mkSeg lv_s_l01Read_J6 lv_s_l01Read_N6 (gs_l01Read_j6 K k)) (by kernel_rfl) (ss_l01Read_j6 K C hP O k) trivial)))
theorem e_s_l01Read (K : Nat) (x : den as_s_l01Read) : s_l01Read K x = evFn (cf_s_l01Read K) as_s_l01Read [false] (.tup (.pair (.st (.pair (.int .i64) (.pair (.int .i64) .unit))) (.pair .bool .unit))) (en_s_l01Read K K) Try.f147.results.toList (bodyOf Try.f147) x := by kernel_rfl
theorem ok_s_l01Read (K : Nat) : FnOk Try.prog 147 (sp_s_l01Read (s_l01Read K)) :=
  fn_ok (cf := cf_s_l01Read K) (en := en_s_l01Read K K) (c := bodyOf Try.f147) Try.func147 (by kernel_rfl) (by kernel_rfl) tysOk (fns_ok (l := [(71, sp_s_l01In (s_l01In K)), (78, sp_s_l01Rows (s_l01Rows K)), (145, sp_s_l01Of (s_l01Of K)), (173, sp_s_l01Bits (s_l01Bits K))]) ⟨ok_s_l01In K, ⟨ok_s_l01Rows K, ⟨ok_s_l01Of K, ⟨ok_s_l01Bits K, trivial⟩⟩⟩⟩) (shs_ok (l := []) trivial) (by kernel_rfl) rfl (Nat.le_of_ble_eq_true (by kernel_rfl)) (by kernel_rfl) (of_decide_eq_true (by kernel_rfl)) (by decide) (fun C hP O => lpOk_of (en := en_s_l01Read K K) (S := hasK su_s_l01Read) (fun i => hasK_lk (sg_s_l01Read K K) i) _ (by rw [show partsOf (hasK su_s_l01Read) (bodyOf Try.f147) = [(false, c_s_l01Read_J3)] from by kernel_rfl]; exact (lpL_seg (f := mkSeg lv_s_l01Read_J3 lv_s_l01Read_N3 (gs_l01Read_j3 K K)) (by kernel_rfl) (ss_l01Read_j3 K C hP O K) trivial))) (fun x y h => by rw [← e_s_l01Read]; exact h)
noncomputable def as_s_l01Names : Ty := .unit
noncomputable def sp_s_l01Names (F : Unit → Option (List ByteArray)) : FnSpec := ⟨as_s_l01Names, [], (.sl .str), F⟩
noncomputable def s_l01Names (K : Nat) (x : Unit) : Option (List ByteArray) :=
    let l1 := [(⟨#[122, 101, 114, 111]⟩ : ByteArray), (⟨#[111, 110, 101]⟩ : ByteArray), (⟨#[105, 100]⟩ : ByteArray), (⟨#[110, 111, 116]⟩ : ByteArray), (⟨#[97, 110, 100]⟩ : ByteArray), (⟨#[111, 114]⟩ : ByteArray), (⟨#[120, 111, 114]⟩ : ByteArray), (⟨#[110, 97, 110, 100]⟩ : ByteArray), (⟨#[110, 111, 114]⟩ : ByteArray), (⟨#[101, 113, 117, 97, 108]⟩ : ByteArray), (⟨#[105, 109, 112, 108, 121]⟩ : ByteArray), (⟨#[109, 97, 106, 111, 114, 105, 116, 121]⟩ : ByteArray), (⟨#[109, 105, 110, 111, 114, 105, 116, 121]⟩ : ByteArray), (⟨#[105, 102]⟩ : ByteArray)]
    some l1
noncomputable def rv_s_l01Names : Lv := [(0, (.r .str))]
noncomputable def sg_s_l01Names {R : Type} (K : Nat) (k : Nat) : List (Nat × SegS R) := []
noncomputable def su_s_l01Names : List (Nat × Unit) := []
noncomputable def en_s_l01Names {R : Type} (K : Nat) (k : Nat) : Env R := { L := lk [], X := lk [], S := lk (sg_s_l01Names K k), rv := rv_s_l01Names }
noncomputable def cf_s_l01Names (K : Nat) : Cfg := { ty := lk tys, fn := lk [], fs := lk [], prot := 0, nt := Try.f189.ntmps }
theorem e_s_l01Names (K : Nat) (x : den as_s_l01Names) : s_l01Names K x = evFn (cf_s_l01Names K) as_s_l01Names [] (.sl .str) (en_s_l01Names K K) Try.f189.results.toList (bodyOf Try.f189) x := by kernel_rfl
theorem ok_s_l01Names (K : Nat) : FnOk Try.prog 189 (sp_s_l01Names (s_l01Names K)) :=
  fn_ok (cf := cf_s_l01Names K) (en := en_s_l01Names K K) (c := bodyOf Try.f189) Try.func189 (by kernel_rfl) (by kernel_rfl) tysOk (fns_ok (l := []) trivial) (shs_ok (l := []) trivial) (by kernel_rfl) rfl (Nat.le_of_ble_eq_true (by kernel_rfl)) (by kernel_rfl) (of_decide_eq_true (by kernel_rfl)) (by decide) (fun C hP O => lpOk_of (en := en_s_l01Names K K) (S := hasK su_s_l01Names) (fun i => hasK_lk (sg_s_l01Names K K) i) _ (by rw [show partsOf (hasK su_s_l01Names) (bodyOf Try.f189) = [] from by kernel_rfl]; exact trivial)) (fun x y h => by rw [← e_s_l01Names]; exact h)
noncomputable def as_s_NamedFunc : Ty := (.pair .str .unit)
noncomputable def sp_s_NamedFunc (F : (ByteArray × Unit) → Option ((Int × Int × Unit) × Int × Unit)) : FnSpec := ⟨as_s_NamedFunc, [false], (.tup (.pair (.st (.pair (.int .i64) (.pair (.int .i64) .unit))) (.pair (.int .i64) .unit))), F⟩
noncomputable def s_NamedFunc_l3 {R : Type} (K : Nat) : Nat → ByteArray → (Int × Int × Unit) → (List ByteArray) → (List ByteArray) → Int → ((Int × Int × Unit) → Option R) → ((Int × Int × Unit) → Int → Option R) → Option R
  | 0, _, _, _, _, _, _, _ => none
  | k + 1, v0, v2, v4, v5, v6, kx0, kr =>
    (if (decide (v6 < (v4.length : Int))) = true then
    (if (bnds v6 (v4.length : Int)) = true then
    (if (cmpS .eql (v4.getD v6.toNat ByteArray.empty) v0) = true then
    (if (bnds v6 (v5.length : Int)) = true then
    (s_l01Read K ((v5.getD v6.toNat ByteArray.empty), ())).bind fun y3 =>
    kr y3.1 (0 : Int)
    else
    none)
    else
    s_NamedFunc_l3 K k v0 v2 v4 v5 (IntKind.i64.wrap (v6 + (1 : Int))) kx0 kr)
    else
    none)
    else
    kx0 v2)
noncomputable def s_NamedFunc (K : Nat) (x : (ByteArray × Unit)) : Option ((Int × Int × Unit) × Int × Unit) :=
    (s_l01Names K ()).bind fun y1 =>
    (s_l01Known K ()).bind fun y2 =>
    s_NamedFunc_l3 K K x.1 ((0 : Int), (0 : Int), ()) y1 y2 (0 : Int) (fun z4 =>
    some (((0 : Int), (0 : Int), ()), (4 : Int), ())) (fun z5 z6 =>
    some (z5, z6, ()))
noncomputable def lv_s_NamedFunc_L3 : Lv := [(0, (.v .str)), (2, (.bx (.v (.st (.pair (.int .i64) (.pair (.int .i64) .unit)))))), (4, (.r .str)), (5, (.r .str)), (6, (.v (.int .i64)))]
noncomputable def lv_s_NamedFunc_X0 : Lv := [(2, (.bx (.v (.st (.pair (.int .i64) (.pair (.int .i64) .unit))))))]
noncomputable def rv_s_NamedFunc : Lv := [(2, (.bx (.v (.st (.pair (.int .i64) (.pair (.int .i64) .unit)))))), (3, (.v (.int .i64)))]
noncomputable def gs_NamedFunc_l3 {R : Type} (K : Nat) (k : Nat) (x : den lv_s_NamedFunc_L3.ty) (kx : Nat → St → Option R) (kr : St → Option R) : Option R := s_NamedFunc_l3 K k x.1 x.2.1 x.2.2.1 x.2.2.2.1 x.2.2.2.2.1 (fun z0 => kx 0 (mkSt lv_s_NamedFunc_X0 (z0, ()))) (fun z0 z1 => kr (mkSt rv_s_NamedFunc (z0, z1, ())))
noncomputable def sg_s_NamedFunc {R : Type} (K : Nat) (k : Nat) : List (Nat × SegS R) := []
noncomputable def su_s_NamedFunc : List (Nat × Unit) := []
noncomputable def en_s_NamedFunc {R : Type} (K : Nat) (k : Nat) : Env R := { L := lk [(3, mkLoop lv_s_NamedFunc_L3 (gs_NamedFunc_l3 K k))], X := lk [(0, lv_s_NamedFunc_X0)], S := lk (sg_s_NamedFunc K k), rv := rv_s_NamedFunc }
noncomputable def cf_s_NamedFunc (K : Nat) : Cfg := { ty := lk tys, fn := lk [(146, sp_s_l01Known (s_l01Known K)), (147, sp_s_l01Read (s_l01Read K)), (189, sp_s_l01Names (s_l01Names K))], fs := lk [], prot := 0, nt := Try.f182.ntmps }
noncomputable def c_s_NamedFunc_L3 : Code := nthC (partsOf (hasK su_s_NamedFunc) (bodyOf Try.f182)) 0
theorem es_NamedFunc_l3 {R : Type} (K : Nat) (k : Nat) (x : den lv_s_NamedFunc_L3.ty) (kx : Nat → St → Option R) (kr : St → Option R) : gs_NamedFunc_l3 K (k + 1) x kx kr = evC (cf_s_NamedFunc K) (en_s_NamedFunc K k) c_s_NamedFunc_L3 (mkSt lv_s_NamedFunc_L3 x) (fun s => mkLoop lv_s_NamedFunc_L3 (gs_NamedFunc_l3 K k) s kx kr) kx kr := by kernel_rfl
theorem ss_NamedFunc_l3 {R : Type} (K : Nat) (C : Cx) (hP : C.P = Try.prog) (O : CfgOk C (cf_s_NamedFunc K)) (k : Nat) : LpS C (R := R) (mkLoop lv_s_NamedFunc_L3 (gs_NamedFunc_l3 K k)) c_s_NamedFunc_L3 :=
  loop_sound O (by rw [hP]; kernel_rfl) (fun x kx kr => rfl) (es_NamedFunc_l3 K) (fun k => lpOk_of (en := en_s_NamedFunc K k) (S := hasK su_s_NamedFunc) (fun i => hasK_lk (sg_s_NamedFunc K k) i) _ (by rw [show partsOf (hasK su_s_NamedFunc) c_s_NamedFunc_L3 = [] from by kernel_rfl]; exact trivial)) k
theorem e_s_NamedFunc (K : Nat) (x : den as_s_NamedFunc) : s_NamedFunc K x = evFn (cf_s_NamedFunc K) as_s_NamedFunc [false] (.tup (.pair (.st (.pair (.int .i64) (.pair (.int .i64) .unit))) (.pair (.int .i64) .unit))) (en_s_NamedFunc K K) Try.f182.results.toList (bodyOf Try.f182) x := by kernel_rfl
theorem ok_s_NamedFunc (K : Nat) : FnOk Try.prog 182 (sp_s_NamedFunc (s_NamedFunc K)) :=
  fn_ok (cf := cf_s_NamedFunc K) (en := en_s_NamedFunc K K) (c := bodyOf Try.f182) Try.func182 (by kernel_rfl) (by kernel_rfl) tysOk (fns_ok (l := [(146, sp_s_l01Known (s_l01Known K)), (147, sp_s_l01Read (s_l01Read K)), (189, sp_s_l01Names (s_l01Names K))]) ⟨ok_s_l01Known K, ⟨ok_s_l01Read K, ⟨ok_s_l01Names K, trivial⟩⟩⟩) (shs_ok (l := []) trivial) (by kernel_rfl) rfl (Nat.le_of_ble_eq_true (by kernel_rfl)) (by kernel_rfl) (of_decide_eq_true (by kernel_rfl)) (by decide) (fun C hP O => lpOk_of (en := en_s_NamedFunc K K) (S := hasK su_s_NamedFunc) (fun i => hasK_lk (sg_s_NamedFunc K K) i) _ (by rw [show partsOf (hasK su_s_NamedFunc) (bodyOf Try.f182) = [(true, c_s_NamedFunc_L3)] from by kernel_rfl]; exact (lpL_loop (f := mkLoop lv_s_NamedFunc_L3 (gs_NamedFunc_l3 K K)) (by kernel_rfl) (ss_NamedFunc_l3 K C hP O K) trivial))) (fun x y h => by rw [← e_s_NamedFunc]; exact h)
noncomputable def as_s_l06List : Ty := (.pair (.st (.pair (.int .i64) (.pair (.int .i64) .unit))) .unit)
noncomputable def sp_s_l06List (F : ((Int × Int × Unit) × Unit) → Option (List Int)) : FnSpec := ⟨as_s_l06List, [false], (.sl (.int .i64)), F⟩
noncomputable def s_l06List_l3 {R : Type} (K : Nat) : Nat → (Int × Int × Unit) → (List Int) → Int → ((List Int) → Option R) → Option R
  | 0, _, _, _, _ => none
  | k + 1, v1, v3, v4, kx0 =>
    (s_l01Rows K (v1.1, ())).bind fun y2 =>
    (if (decide (v4 < y2)) = true then
    (if (decide ((0 : Int) ≤ (IntKind.u64.wrap v4))) = true then
    let x3 := (bitI .and .i64 (shrI .i64 v1.2.1 (IntKind.u64.wrap v4)) (1 : Int))
    (if (decide (x3 = (1 : Int))) = true then
    (if (decide (v3.length + ([v4]).length ≤ lim)) = true then
    let l4 := (v3 ++ [v4])
    s_l06List_l3 K k v1 l4 (IntKind.i64.wrap (v4 + (1 : Int))) kx0
    else
    none)
    else
    s_l06List_l3 K k v1 v3 (IntKind.i64.wrap (v4 + (1 : Int))) kx0)
    else
    none)
    else
    kx0 v3)
noncomputable def s_l06List (K : Nat) (x : ((Int × Int × Unit) × Unit)) : Option (List Int) :=
    let l1 := ([] : List Int)
    s_l06List_l3 K K x.1 l1 (0 : Int) (fun z5 =>
    some z5)
noncomputable def lv_s_l06List_L3 : Lv := [(1, (.bx (.v (.st (.pair (.int .i64) (.pair (.int .i64) .unit)))))), (3, (.r (.int .i64))), (4, (.v (.int .i64)))]
noncomputable def lv_s_l06List_X0 : Lv := [(3, (.r (.int .i64)))]
noncomputable def rv_s_l06List : Lv := [(2, (.r (.int .i64)))]
noncomputable def gs_l06List_l3 {R : Type} (K : Nat) (k : Nat) (x : den lv_s_l06List_L3.ty) (kx : Nat → St → Option R) (kr : St → Option R) : Option R := s_l06List_l3 K k x.1 x.2.1 x.2.2.1 (fun z0 => kx 0 (mkSt lv_s_l06List_X0 (z0, ())))
noncomputable def sg_s_l06List {R : Type} (K : Nat) (k : Nat) : List (Nat × SegS R) := []
noncomputable def su_s_l06List : List (Nat × Unit) := []
noncomputable def en_s_l06List {R : Type} (K : Nat) (k : Nat) : Env R := { L := lk [(3, mkLoop lv_s_l06List_L3 (gs_l06List_l3 K k))], X := lk [(0, lv_s_l06List_X0)], S := lk (sg_s_l06List K k), rv := rv_s_l06List }
noncomputable def cf_s_l06List (K : Nat) : Cfg := { ty := lk tys, fn := lk [(78, sp_s_l01Rows (s_l01Rows K))], fs := lk [], prot := 0, nt := Try.f64.ntmps }
noncomputable def c_s_l06List_L3 : Code := nthC (partsOf (hasK su_s_l06List) (bodyOf Try.f64)) 0
theorem es_l06List_l3 {R : Type} (K : Nat) (k : Nat) (x : den lv_s_l06List_L3.ty) (kx : Nat → St → Option R) (kr : St → Option R) : gs_l06List_l3 K (k + 1) x kx kr = evC (cf_s_l06List K) (en_s_l06List K k) c_s_l06List_L3 (mkSt lv_s_l06List_L3 x) (fun s => mkLoop lv_s_l06List_L3 (gs_l06List_l3 K k) s kx kr) kx kr := by kernel_rfl
theorem ss_l06List_l3 {R : Type} (K : Nat) (C : Cx) (hP : C.P = Try.prog) (O : CfgOk C (cf_s_l06List K)) (k : Nat) : LpS C (R := R) (mkLoop lv_s_l06List_L3 (gs_l06List_l3 K k)) c_s_l06List_L3 :=
  loop_sound O (by rw [hP]; kernel_rfl) (fun x kx kr => rfl) (es_l06List_l3 K) (fun k => lpOk_of (en := en_s_l06List K k) (S := hasK su_s_l06List) (fun i => hasK_lk (sg_s_l06List K k) i) _ (by rw [show partsOf (hasK su_s_l06List) c_s_l06List_L3 = [] from by kernel_rfl]; exact trivial)) k
theorem e_s_l06List (K : Nat) (x : den as_s_l06List) : s_l06List K x = evFn (cf_s_l06List K) as_s_l06List [false] (.sl (.int .i64)) (en_s_l06List K K) Try.f64.results.toList (bodyOf Try.f64) x := by kernel_rfl
theorem ok_s_l06List (K : Nat) : FnOk Try.prog 64 (sp_s_l06List (s_l06List K)) :=
  fn_ok (cf := cf_s_l06List K) (en := en_s_l06List K K) (c := bodyOf Try.f64) Try.func64 (by kernel_rfl) (by kernel_rfl) tysOk (fns_ok (l := [(78, sp_s_l01Rows (s_l01Rows K))]) ⟨ok_s_l01Rows K, trivial⟩) (shs_ok (l := []) trivial) (by kernel_rfl) rfl (Nat.le_of_ble_eq_true (by kernel_rfl)) (by kernel_rfl) (of_decide_eq_true (by kernel_rfl)) (by decide) (fun C hP O => lpOk_of (en := en_s_l06List K K) (S := hasK su_s_l06List) (fun i => hasK_lk (sg_s_l06List K K) i) _ (by rw [show partsOf (hasK su_s_l06List) (bodyOf Try.f64) = [(true, c_s_l06List_L3)] from by kernel_rfl]; exact (lpL_loop (f := mkLoop lv_s_l06List_L3 (gs_l06List_l3 K K)) (by kernel_rfl) (ss_l06List_l3 K C hP O K) trivial))) (fun x y h => by rw [← e_s_l06List]; exact h)
noncomputable def as_s_l01Own : Ty := (.pair (.sl (.int .i64)) .unit)
noncomputable def sp_s_l01Own (F : ((List Int) × Unit) → Option (List Int)) : FnSpec := ⟨as_s_l01Own, [false], (.sl (.int .i64)), F⟩
noncomputable def s_l01Own (K : Nat) (x : ((List Int) × Unit)) : Option (List Int) :=
    let l1 := ([] : List Int)
    (if (decide (l1.length + x.1.length ≤ lim)) = true then
    let l2 := (l1 ++ x.1)
    some l2
    else
    none)
noncomputable def rv_s_l01Own : Lv := [(2, (.r (.int .i64)))]
noncomputable def sg_s_l01Own {R : Type} (K : Nat) (k : Nat) : List (Nat × SegS R) := []
noncomputable def su_s_l01Own : List (Nat × Unit) := []
noncomputable def en_s_l01Own {R : Type} (K : Nat) (k : Nat) : Env R := { L := lk [], X := lk [], S := lk (sg_s_l01Own K k), rv := rv_s_l01Own }
noncomputable def cf_s_l01Own (K : Nat) : Cfg := { ty := lk tys, fn := lk [], fs := lk [], prot := 0, nt := Try.f66.ntmps }
theorem e_s_l01Own (K : Nat) (x : den as_s_l01Own) : s_l01Own K x = evFn (cf_s_l01Own K) as_s_l01Own [false] (.sl (.int .i64)) (en_s_l01Own K K) Try.f66.results.toList (bodyOf Try.f66) x := by kernel_rfl
theorem ok_s_l01Own (K : Nat) : FnOk Try.prog 66 (sp_s_l01Own (s_l01Own K)) :=
  fn_ok (cf := cf_s_l01Own K) (en := en_s_l01Own K K) (c := bodyOf Try.f66) Try.func66 (by kernel_rfl) (by kernel_rfl) tysOk (fns_ok (l := []) trivial) (shs_ok (l := []) trivial) (by kernel_rfl) rfl (Nat.le_of_ble_eq_true (by kernel_rfl)) (by kernel_rfl) (of_decide_eq_true (by kernel_rfl)) (by decide) (fun C hP O => lpOk_of (en := en_s_l01Own K K) (S := hasK su_s_l01Own) (fun i => hasK_lk (sg_s_l01Own K K) i) _ (by rw [show partsOf (hasK su_s_l01Own) (bodyOf Try.f66) = [] from by kernel_rfl]; exact trivial)) (fun x y h => by rw [← e_s_l01Own]; exact h)
noncomputable def as_s_l01At : Ty := (.pair (.st (.pair (.int .i64) (.pair (.int .i64) .unit))) (.pair (.int .i64) .unit))
noncomputable def sp_s_l01At (F : ((Int × Int × Unit) × Int × Unit) → Option Int) : FnSpec := ⟨as_s_l01At, [false, false], (.int .i64), F⟩
noncomputable def s_l01At (K : Nat) (x : ((Int × Int × Unit) × Int × Unit)) : Option Int :=
    (if (decide ((0 : Int) ≤ (IntKind.u64.wrap x.2.1))) = true then
    let x1 := (bitI .and .i64 (shrI .i64 x.1.2.1 (IntKind.u64.wrap x.2.1)) (1 : Int))
    some x1
    else
    none)
noncomputable def rv_s_l01At : Lv := [(4, (.v (.int .i64)))]
noncomputable def sg_s_l01At {R : Type} (K : Nat) (k : Nat) : List (Nat × SegS R) := []
noncomputable def su_s_l01At : List (Nat × Unit) := []
noncomputable def en_s_l01At {R : Type} (K : Nat) (k : Nat) : Env R := { L := lk [], X := lk [], S := lk (sg_s_l01At K k), rv := rv_s_l01At }
noncomputable def cf_s_l01At (K : Nat) : Cfg := { ty := lk tys, fn := lk [], fs := lk [], prot := 0, nt := Try.f79.ntmps }
theorem e_s_l01At (K : Nat) (x : den as_s_l01At) : s_l01At K x = evFn (cf_s_l01At K) as_s_l01At [false, false] (.int .i64) (en_s_l01At K K) Try.f79.results.toList (bodyOf Try.f79) x := by kernel_rfl
theorem ok_s_l01At (K : Nat) : FnOk Try.prog 79 (sp_s_l01At (s_l01At K)) :=
  fn_ok (cf := cf_s_l01At K) (en := en_s_l01At K K) (c := bodyOf Try.f79) Try.func79 (by kernel_rfl) (by kernel_rfl) tysOk (fns_ok (l := []) trivial) (shs_ok (l := []) trivial) (by kernel_rfl) rfl (Nat.le_of_ble_eq_true (by kernel_rfl)) (by kernel_rfl) (of_decide_eq_true (by kernel_rfl)) (by decide) (fun C hP O => lpOk_of (en := en_s_l01At K K) (S := hasK su_s_l01At) (fun i => hasK_lk (sg_s_l01At K K) i) _ (by rw [show partsOf (hasK su_s_l01At) (bodyOf Try.f79) = [] from by kernel_rfl]; exact trivial)) (fun x y h => by rw [← e_s_l01At]; exact h)
noncomputable def as_s_l06Value : Ty := (.pair (.st (.pair (.int .i64) (.pair (.int .i64) .unit))) (.pair (.sl (.int .i64)) (.pair (.int .i64) .unit)))
noncomputable def sp_s_l06Value (F : ((Int × Int × Unit) × (List Int) × Int × Unit) → Option Int) : FnSpec := ⟨as_s_l06Value, [false, false, false], (.int .i64), F⟩
noncomputable def s_l06Value_l7 {R : Type} (K : Nat) : Nat → (List Int) → Int → (Int × Int × Unit) → Int → Int → Int → Int → ((List Int) → Int → (Int × Int × Unit) → Int → Int → Int → Option R) → Option R
  | 0, _, _, _, _, _, _, _, _ => none
  | k + 1, v1, v2, v3, v7, v8, v9, v10, kx2 =>
    (if (decide (v10 < (v1.length : Int))) = true then
    (if (bnds v10 (v1.length : Int)) = true then
    (if (decide ((0 : Int) ≤ (IntKind.u64.wrap v8))) = true then
    let x1 := (shrI .i64 (v1.getD v10.toNat (0 : Int)) (IntKind.u64.wrap v8))
    (if (decide ((0 : Int) ≤ (IntKind.u64.wrap v10))) = true then
    let x2 := (shlI .i64 (bitI .and .i64 x1 (1 : Int)) (IntKind.u64.wrap v10))
    s_l06Value_l7 K k v1 v2 v3 v7 v8 (bitI .or .i64 v9 x2) (IntKind.i64.wrap (v10 + (1 : Int))) kx2
    else
    none)
    else
    none)
    else
    none)
    else
    kx2 v1 v2 v3 v7 v8 v9)
noncomputable def s_l06Value_l3 {R : Type} (K : Nat) : Nat → (List Int) → Int → (Int × Int × Unit) → Int → Int → (Int → Option R) → Option R
  | 0, _, _, _, _, _, _ => none
  | k + 1, v1, v2, v3, v7, v8, kx0 =>
    (if (decide (v8 < v2)) = true then
    s_l06Value_l7 K k v1 v2 v3 v7 v8 (0 : Int) (0 : Int) (fun z3 z4 z5 z6 z7 z8 =>
    (s_l01At K (z5, z8, ())).bind fun y9 =>
    (if (decide ((0 : Int) ≤ (IntKind.u64.wrap z7))) = true then
    s_l06Value_l3 K k z3 z4 z5 (bitI .or .i64 z6 (shlI .i64 y9 (IntKind.u64.wrap z7))) (IntKind.i64.wrap (z7 + (1 : Int))) kx0
    else
    none))
    else
    kx0 v7)
noncomputable def s_l06Value (K : Nat) (x : ((Int × Int × Unit) × (List Int) × Int × Unit)) : Option Int :=
    s_l06Value_l3 K K x.2.1 x.2.2.1 x.1 (0 : Int) (0 : Int) (fun z10 =>
    some z10)
noncomputable def lv_s_l06Value_L3 : Lv := [(1, (.v (.sl (.int .i64)))), (2, (.v (.int .i64))), (3, (.bx (.v (.st (.pair (.int .i64) (.pair (.int .i64) .unit)))))), (7, (.v (.int .i64))), (8, (.v (.int .i64)))]
noncomputable def lv_s_l06Value_L7 : Lv := [(1, (.v (.sl (.int .i64)))), (2, (.v (.int .i64))), (3, (.bx (.v (.st (.pair (.int .i64) (.pair (.int .i64) .unit)))))), (7, (.v (.int .i64))), (8, (.v (.int .i64))), (9, (.v (.int .i64))), (10, (.v (.int .i64)))]
noncomputable def lv_s_l06Value_X0 : Lv := [(7, (.v (.int .i64)))]
noncomputable def lv_s_l06Value_X2 : Lv := [(1, (.v (.sl (.int .i64)))), (2, (.v (.int .i64))), (3, (.bx (.v (.st (.pair (.int .i64) (.pair (.int .i64) .unit)))))), (7, (.v (.int .i64))), (8, (.v (.int .i64))), (9, (.v (.int .i64)))]
noncomputable def rv_s_l06Value : Lv := [(6, (.v (.int .i64)))]
noncomputable def gs_l06Value_l7 {R : Type} (K : Nat) (k : Nat) (x : den lv_s_l06Value_L7.ty) (kx : Nat → St → Option R) (kr : St → Option R) : Option R := s_l06Value_l7 K k x.1 x.2.1 x.2.2.1 x.2.2.2.1 x.2.2.2.2.1 x.2.2.2.2.2.1 x.2.2.2.2.2.2.1 (fun z0 z1 z2 z3 z4 z5 => kx 2 (mkSt lv_s_l06Value_X2 (z0, z1, z2, z3, z4, z5, ())))
noncomputable def gs_l06Value_l3 {R : Type} (K : Nat) (k : Nat) (x : den lv_s_l06Value_L3.ty) (kx : Nat → St → Option R) (kr : St → Option R) : Option R := s_l06Value_l3 K k x.1 x.2.1 x.2.2.1 x.2.2.2.1 x.2.2.2.2.1 (fun z0 => kx 0 (mkSt lv_s_l06Value_X0 (z0, ())))
noncomputable def sg_s_l06Value {R : Type} (K : Nat) (k : Nat) : List (Nat × SegS R) := []
noncomputable def su_s_l06Value : List (Nat × Unit) := []
noncomputable def en_s_l06Value {R : Type} (K : Nat) (k : Nat) : Env R := { L := lk [(7, mkLoop lv_s_l06Value_L7 (gs_l06Value_l7 K k)), (3, mkLoop lv_s_l06Value_L3 (gs_l06Value_l3 K k))], X := lk [(0, lv_s_l06Value_X0), (2, lv_s_l06Value_X2)], S := lk (sg_s_l06Value K k), rv := rv_s_l06Value }
noncomputable def cf_s_l06Value (K : Nat) : Cfg := { ty := lk tys, fn := lk [(79, sp_s_l01At (s_l01At K))], fs := lk [], prot := 0, nt := Try.f193.ntmps }
noncomputable def c_s_l06Value_L3 : Code := nthC (partsOf (hasK su_s_l06Value) (bodyOf Try.f193)) 0
noncomputable def c_s_l06Value_L7 : Code := nthC (partsOf (hasK su_s_l06Value) c_s_l06Value_L3) 0
theorem es_l06Value_l7 {R : Type} (K : Nat) (k : Nat) (x : den lv_s_l06Value_L7.ty) (kx : Nat → St → Option R) (kr : St → Option R) : gs_l06Value_l7 K (k + 1) x kx kr = evC (cf_s_l06Value K) (en_s_l06Value K k) c_s_l06Value_L7 (mkSt lv_s_l06Value_L7 x) (fun s => mkLoop lv_s_l06Value_L7 (gs_l06Value_l7 K k) s kx kr) kx kr := by kernel_rfl
theorem ss_l06Value_l7 {R : Type} (K : Nat) (C : Cx) (hP : C.P = Try.prog) (O : CfgOk C (cf_s_l06Value K)) (k : Nat) : LpS C (R := R) (mkLoop lv_s_l06Value_L7 (gs_l06Value_l7 K k)) c_s_l06Value_L7 :=
  loop_sound O (by rw [hP]; kernel_rfl) (fun x kx kr => rfl) (es_l06Value_l7 K) (fun k => lpOk_of (en := en_s_l06Value K k) (S := hasK su_s_l06Value) (fun i => hasK_lk (sg_s_l06Value K k) i) _ (by rw [show partsOf (hasK su_s_l06Value) c_s_l06Value_L7 = [] from by kernel_rfl]; exact trivial)) k
theorem es_l06Value_l3 {R : Type} (K : Nat) (k : Nat) (x : den lv_s_l06Value_L3.ty) (kx : Nat → St → Option R) (kr : St → Option R) : gs_l06Value_l3 K (k + 1) x kx kr = evC (cf_s_l06Value K) (en_s_l06Value K k) c_s_l06Value_L3 (mkSt lv_s_l06Value_L3 x) (fun s => mkLoop lv_s_l06Value_L3 (gs_l06Value_l3 K k) s kx kr) kx kr := by kernel_rfl
theorem ss_l06Value_l3 {R : Type} (K : Nat) (C : Cx) (hP : C.P = Try.prog) (O : CfgOk C (cf_s_l06Value K)) (k : Nat) : LpS C (R := R) (mkLoop lv_s_l06Value_L3 (gs_l06Value_l3 K k)) c_s_l06Value_L3 :=
  loop_sound O (by rw [hP]; kernel_rfl) (fun x kx kr => rfl) (es_l06Value_l3 K) (fun k => lpOk_of (en := en_s_l06Value K k) (S := hasK su_s_l06Value) (fun i => hasK_lk (sg_s_l06Value K k) i) _ (by rw [show partsOf (hasK su_s_l06Value) c_s_l06Value_L3 = [(true, c_s_l06Value_L7)] from by kernel_rfl]; exact (lpL_loop (f := mkLoop lv_s_l06Value_L7 (gs_l06Value_l7 K k)) (by kernel_rfl) (ss_l06Value_l7 K C hP O k) trivial))) k
theorem e_s_l06Value (K : Nat) (x : den as_s_l06Value) : s_l06Value K x = evFn (cf_s_l06Value K) as_s_l06Value [false, false, false] (.int .i64) (en_s_l06Value K K) Try.f193.results.toList (bodyOf Try.f193) x := by kernel_rfl
theorem ok_s_l06Value (K : Nat) : FnOk Try.prog 193 (sp_s_l06Value (s_l06Value K)) :=
  fn_ok (cf := cf_s_l06Value K) (en := en_s_l06Value K K) (c := bodyOf Try.f193) Try.func193 (by kernel_rfl) (by kernel_rfl) tysOk (fns_ok (l := [(79, sp_s_l01At (s_l01At K))]) ⟨ok_s_l01At K, trivial⟩) (shs_ok (l := []) trivial) (by kernel_rfl) rfl (Nat.le_of_ble_eq_true (by kernel_rfl)) (by kernel_rfl) (of_decide_eq_true (by kernel_rfl)) (by decide) (fun C hP O => lpOk_of (en := en_s_l06Value K K) (S := hasK su_s_l06Value) (fun i => hasK_lk (sg_s_l06Value K K) i) _ (by rw [show partsOf (hasK su_s_l06Value) (bodyOf Try.f193) = [(true, c_s_l06Value_L3)] from by kernel_rfl]; exact (lpL_loop (f := mkLoop lv_s_l06Value_L3 (gs_l06Value_l3 K K)) (by kernel_rfl) (ss_l06Value_l3 K C hP O K) trivial))) (fun x y h => by rw [← e_s_l06Value]; exact h)
noncomputable def s_l06Made_l5 {R : Type} (K : Nat) (r : ((Int × Int × Unit) × (Int × Int × Unit) × (List Int) × (List Int) × Unit) → Option Int) : Nat → (List Int) → (List Int) → (Int × Int × Unit) → (Int × Int × Unit) → Int → Int → (Int → Option R) → Option R
  | 0, _, _, _, _, _, _, _ => none
  | k + 1, v2, v3, v4, v5, v9, v10, kx0 =>
    (if (decide (v10 < (v2.length : Int))) = true then
    (s_l01Own K (v3, ())).bind fun y2 =>
    (if (bnds v10 (v2.length : Int)) = true then
    let l3 := [(v2.getD v10.toNat (0 : Int))]
    (if (decide (y2.length + l3.length ≤ lim)) = true then
    let l4 := (y2 ++ l3)
    (r (v4, v5, v2, l4, ())).bind fun y5 =>
    s_l06Made_l5 K r k v2 v3 v4 v5 (bitI .or .i64 v9 y5) (IntKind.i64.wrap (v10 + (1 : Int))) kx0
    else
    none)
    else
    none)
    else
    kx0 v9)
noncomputable def s_l06Made_b (K : Nat) (r : ((Int × Int × Unit) × (Int × Int × Unit) × (List Int) × (List Int) × Unit) → Option Int) (x : ((Int × Int × Unit) × (Int × Int × Unit) × (List Int) × (List Int) × Unit)) : Option Int :=
    (if (decide ((x.2.2.2.1.length : Int) = x.1.1)) = true then
    (s_l06Value K (x.1, x.2.2.2.1, x.2.1.1, ())).bind fun y1 =>
    (if (decide ((0 : Int) ≤ (IntKind.u64.wrap y1))) = true then
    some (shlI .i64 (1 : Int) (IntKind.u64.wrap y1))
    else
    none)
    else
    s_l06Made_l5 K r K x.2.2.1 x.2.2.2.1 x.1 x.2.1 (0 : Int) (0 : Int) (fun z6 =>
    some z6))
noncomputable def s_l06Made (K : Nat) : Nat → ((Int × Int × Unit) × (Int × Int × Unit) × (List Int) × (List Int) × Unit) → Option Int
  | 0 => fun _ => none
  | k + 1 => s_l06Made_b K (s_l06Made K k)
noncomputable def lv_s_l06Made_L5 : Lv := [(2, (.v (.sl (.int .i64)))), (3, (.v (.sl (.int .i64)))), (4, (.bx (.v (.st (.pair (.int .i64) (.pair (.int .i64) .unit)))))), (5, (.bx (.v (.st (.pair (.int .i64) (.pair (.int .i64) .unit)))))), (9, (.v (.int .i64))), (10, (.v (.int .i64)))]
noncomputable def lv_s_l06Made_X0 : Lv := [(9, (.v (.int .i64)))]
noncomputable def rv_s_l06Made : Lv := [(8, (.v (.int .i64)))]
noncomputable def gs_l06Made_l5 {R : Type} (K : Nat) (r : ((Int × Int × Unit) × (Int × Int × Unit) × (List Int) × (List Int) × Unit) → Option Int) (k : Nat) (x : den lv_s_l06Made_L5.ty) (kx : Nat → St → Option R) (kr : St → Option R) : Option R := s_l06Made_l5 K r k x.1 x.2.1 x.2.2.1 x.2.2.2.1 x.2.2.2.2.1 x.2.2.2.2.2.1 (fun z0 => kx 0 (mkSt lv_s_l06Made_X0 (z0, ())))
noncomputable def sg_s_l06Made {R : Type} (K : Nat) (r : ((Int × Int × Unit) × (Int × Int × Unit) × (List Int) × (List Int) × Unit) → Option Int) (k : Nat) : List (Nat × SegS R) := []
noncomputable def su_s_l06Made : List (Nat × Unit) := []
noncomputable def en_s_l06Made {R : Type} (K : Nat) (r : ((Int × Int × Unit) × (Int × Int × Unit) × (List Int) × (List Int) × Unit) → Option Int) (k : Nat) : Env R := { L := lk [(5, mkLoop lv_s_l06Made_L5 (gs_l06Made_l5 K r k))], X := lk [(0, lv_s_l06Made_X0)], S := lk (sg_s_l06Made K r k), rv := rv_s_l06Made }
noncomputable def cf_s_l06Made (K : Nat) (r : ((Int × Int × Unit) × (Int × Int × Unit) × (List Int) × (List Int) × Unit) → Option Int) : Cfg := { ty := lk tys, fn := lk [(66, sp_s_l01Own (s_l01Own K)), (190, sp_s_l06Made (r)), (193, sp_s_l06Value (s_l06Value K))], fs := lk [], prot := 0, nt := Try.f190.ntmps }
noncomputable def c_s_l06Made_L5 : Code := nthC (partsOf (hasK su_s_l06Made) (bodyOf Try.f190)) 0
theorem es_l06Made_l5 {R : Type} (K : Nat) (r : ((Int × Int × Unit) × (Int × Int × Unit) × (List Int) × (List Int) × Unit) → Option Int) (k : Nat) (x : den lv_s_l06Made_L5.ty) (kx : Nat → St → Option R) (kr : St → Option R) : gs_l06Made_l5 K r (k + 1) x kx kr = evC (cf_s_l06Made K r) (en_s_l06Made K r k) c_s_l06Made_L5 (mkSt lv_s_l06Made_L5 x) (fun s => mkLoop lv_s_l06Made_L5 (gs_l06Made_l5 K r k) s kx kr) kx kr := by kernel_rfl
theorem ss_l06Made_l5 {R : Type} (K : Nat) (r : ((Int × Int × Unit) × (Int × Int × Unit) × (List Int) × (List Int) × Unit) → Option Int) (C : Cx) (hP : C.P = Try.prog) (O : CfgOk C (cf_s_l06Made K r)) (k : Nat) : LpS C (R := R) (mkLoop lv_s_l06Made_L5 (gs_l06Made_l5 K r k)) c_s_l06Made_L5 :=
  loop_sound O (by rw [hP]; kernel_rfl) (fun x kx kr => rfl) (es_l06Made_l5 K r) (fun k => lpOk_of (en := en_s_l06Made K r k) (S := hasK su_s_l06Made) (fun i => hasK_lk (sg_s_l06Made K r k) i) _ (by rw [show partsOf (hasK su_s_l06Made) c_s_l06Made_L5 = [] from by kernel_rfl]; exact trivial)) k
theorem e_s_l06Made (K : Nat) (r : ((Int × Int × Unit) × (Int × Int × Unit) × (List Int) × (List Int) × Unit) → Option Int) (x : den as_s_l06Made) : s_l06Made_b K r x = evFn (cf_s_l06Made K r) as_s_l06Made [false, false, false, false] (.int .i64) (en_s_l06Made K r K) Try.f190.results.toList (bodyOf Try.f190) x := by kernel_rfl
theorem okb_s_l06Made (K : Nat) (r : ((Int × Int × Unit) × (Int × Int × Unit) × (List Int) × (List Int) × Unit) → Option Int) (hr : FnOk Try.prog 190 (sp_s_l06Made r)) : FnOk Try.prog 190 (sp_s_l06Made (s_l06Made_b K r)) :=
  fn_ok (cf := cf_s_l06Made K r) (en := en_s_l06Made K r K) (c := bodyOf Try.f190) Try.func190 (by kernel_rfl) (by kernel_rfl) tysOk (fns_ok (l := [(66, sp_s_l01Own (s_l01Own K)), (190, sp_s_l06Made (r)), (193, sp_s_l06Value (s_l06Value K))]) ⟨ok_s_l01Own K, ⟨hr, ⟨ok_s_l06Value K, trivial⟩⟩⟩) (shs_ok (l := []) trivial) (by kernel_rfl) rfl (Nat.le_of_ble_eq_true (by kernel_rfl)) (by kernel_rfl) (of_decide_eq_true (by kernel_rfl)) (by decide) (fun C hP O => lpOk_of (en := en_s_l06Made K r K) (S := hasK su_s_l06Made) (fun i => hasK_lk (sg_s_l06Made K r K) i) _ (by rw [show partsOf (hasK su_s_l06Made) (bodyOf Try.f190) = [(true, c_s_l06Made_L5)] from by kernel_rfl]; exact (lpL_loop (f := mkLoop lv_s_l06Made_L5 (gs_l06Made_l5 K r K)) (by kernel_rfl) (ss_l06Made_l5 K r C hP O K) trivial))) (fun x y h => by rw [← e_s_l06Made]; exact h)
theorem ok_s_l06Made (K : Nat) : ∀ k, FnOk Try.prog 190 (sp_s_l06Made (s_l06Made K k))
  | 0 => fnOk_none
  | k + 1 => okb_s_l06Made K (s_l06Made K k) (ok_s_l06Made K k)
noncomputable def as_s_l06Keeps : Ty := (.pair (.st (.pair (.int .i64) (.pair (.int .i64) .unit))) (.pair (.st (.pair (.int .i64) (.pair (.int .i64) .unit))) .unit))
noncomputable def sp_s_l06Keeps (F : ((Int × Int × Unit) × (Int × Int × Unit) × Unit) → Option Bool) : FnSpec := ⟨as_s_l06Keeps, [false, false], .bool, F⟩
noncomputable def s_l06Keeps (K : Nat) (x : ((Int × Int × Unit) × (Int × Int × Unit) × Unit)) : Option Bool :=
    (s_l06List K (x.2.1, ())).bind fun y1 =>
    let l2 := ([] : List Int)
    (s_l06Made K K (x.1, x.2.1, y1, l2, ())).bind fun y3 =>
    some (decide ((bitI .andNot .i64 y3 x.2.1.2.1) = (0 : Int)))
noncomputable def rv_s_l06Keeps : Lv := [(4, (.v .bool))]
noncomputable def sg_s_l06Keeps {R : Type} (K : Nat) (k : Nat) : List (Nat × SegS R) := []
noncomputable def su_s_l06Keeps : List (Nat × Unit) := []
noncomputable def en_s_l06Keeps {R : Type} (K : Nat) (k : Nat) : Env R := { L := lk [], X := lk [], S := lk (sg_s_l06Keeps K k), rv := rv_s_l06Keeps }
noncomputable def cf_s_l06Keeps (K : Nat) : Cfg := { ty := lk tys, fn := lk [(64, sp_s_l06List (s_l06List K)), (190, sp_s_l06Made (s_l06Made K K))], fs := lk [], prot := 0, nt := Try.f183.ntmps }
theorem e_s_l06Keeps (K : Nat) (x : den as_s_l06Keeps) : s_l06Keeps K x = evFn (cf_s_l06Keeps K) as_s_l06Keeps [false, false] .bool (en_s_l06Keeps K K) Try.f183.results.toList (bodyOf Try.f183) x := by kernel_rfl
theorem ok_s_l06Keeps (K : Nat) : FnOk Try.prog 183 (sp_s_l06Keeps (s_l06Keeps K)) :=
  fn_ok (cf := cf_s_l06Keeps K) (en := en_s_l06Keeps K K) (c := bodyOf Try.f183) Try.func183 (by kernel_rfl) (by kernel_rfl) tysOk (fns_ok (l := [(64, sp_s_l06List (s_l06List K)), (190, sp_s_l06Made (s_l06Made K K))]) ⟨ok_s_l06List K, ⟨ok_s_l06Made K K, trivial⟩⟩) (shs_ok (l := []) trivial) (by kernel_rfl) rfl (Nat.le_of_ble_eq_true (by kernel_rfl)) (by kernel_rfl) (of_decide_eq_true (by kernel_rfl)) (by decide) (fun C hP O => lpOk_of (en := en_s_l06Keeps K K) (S := hasK su_s_l06Keeps) (fun i => hasK_lk (sg_s_l06Keeps K K) i) _ (by rw [show partsOf (hasK su_s_l06Keeps) (bodyOf Try.f183) = [] from by kernel_rfl]; exact trivial)) (fun x y h => by rw [← e_s_l06Keeps]; exact h)
noncomputable def as_s_l09Row : Ty := (.pair (.st (.pair (.int .i64) (.pair (.int .i64) .unit))) .unit)
noncomputable def sp_s_l09Row (F : ((Int × Int × Unit) × Unit) → Option (List Int)) : FnSpec := ⟨as_s_l09Row, [false], (.sl (.int .i64)), F⟩
noncomputable def s_l09Row_l8 {R : Type} (K : Nat) : Nat → (Int × Int × Unit) → (List Int) → (List ByteArray) → Int → ((List Int) → Option R) → Option R
  | 0, _, _, _, _, _ => none
  | k + 1, v1, v3, v4, v5, kx0 =>
    (if (decide (v5 < (4 : Int))) = true then
    (if (bnds v5 (v4.length : Int)) = true then
    (s_NamedFunc K ((v4.getD v5.toNat ByteArray.empty), ())).bind fun y8 =>
    (s_l06Keeps K (y8.1, v1, ())).bind fun y9 =>
    (if y9 = true then
    (if (bnds (IntKind.i64.wrap (v5 + (2 : Int))) (v3.length : Int)) = true then
    let l10 := (v3.set (IntKind.i64.wrap (v5 + (2 : Int))).toNat (1 : Int))
    s_l09Row_l8 K k v1 l10 v4 (IntKind.i64.wrap (v5 + (1 : Int))) kx0
    else
    none)
    else
    s_l09Row_l8 K k v1 v3 v4 (IntKind.i64.wrap (v5 + (1 : Int))) kx0)
    else
    none)
    else
    kx0 v3)
noncomputable def s_l09Row_j6 {R : Type} (K : Nat) (k : Nat) (v1 : (Int × Int × Unit)) (v3 : (List Int)) (kn : Option R) (kr : ((List Int) → Option R)) : Option R :=
    let l7 := [(⟨#[97, 110, 100]⟩ : ByteArray), (⟨#[111, 114]⟩ : ByteArray), (⟨#[109, 97, 106, 111, 114, 105, 116, 121]⟩ : ByteArray), (⟨#[109, 105, 110, 111, 114, 105, 116, 121]⟩ : ByteArray)]
    s_l09Row_l8 K k v1 v3 l7 (0 : Int) (fun z11 =>
    kr z11)
noncomputable def s_l09Row_j4 {R : Type} (K : Nat) (k : Nat) (v1 : (Int × Int × Unit)) (v3 : (List Int)) (kn : Option R) (kr : ((List Int) → Option R)) : Option R :=
    (s_l01Rows K (v1.1, ())).bind fun y4 =>
    (s_l09Has K (v1, (IntKind.i64.wrap (y4 - (1 : Int))), ())).bind fun y5 =>
    (if y5 = true then
    (if (bnds (1 : Int) (v3.length : Int)) = true then
    let l6 := (v3.set (1 : Int).toNat (1 : Int))
    s_l09Row_j6 K k v1 l6 none (fun z12 =>
    kr z12)
    else
    none)
    else
    s_l09Row_j6 K k v1 v3 none (fun z13 =>
    kr z13))
noncomputable def s_l09Row (K : Nat) (x : ((Int × Int × Unit) × Unit)) : Option (List Int) :=
    (if (decide (0 ≤ (6 : Int)) && decide ((6 : Int) ≤ (lim : Int)) && decide ((6 : Int) = (6 : Int))) = true then
    let l1 := (List.replicate (6 : Int).toNat (0 : Int))
    (s_l09Has K (x.1, (0 : Int), ())).bind fun y2 =>
    (if y2 = true then
    (if (bnds (0 : Int) (l1.length : Int)) = true then
    let l3 := (l1.set (0 : Int).toNat (1 : Int))
    s_l09Row_j4 K K x.1 l3 none (fun z14 =>
    some z14)
    else
    none)
    else
    s_l09Row_j4 K K x.1 l1 none (fun z15 =>
    some z15))
    else
    none)
noncomputable def lv_s_l09Row_J4 : Lv := [(1, (.bx (.v (.st (.pair (.int .i64) (.pair (.int .i64) .unit)))))), (3, (.r (.int .i64)))]
noncomputable def lv_s_l09Row_J6 : Lv := [(1, (.bx (.v (.st (.pair (.int .i64) (.pair (.int .i64) .unit)))))), (3, (.r (.int .i64)))]
noncomputable def lv_s_l09Row_L8 : Lv := [(1, (.bx (.v (.st (.pair (.int .i64) (.pair (.int .i64) .unit)))))), (3, (.r (.int .i64))), (4, (.r .str)), (5, (.v (.int .i64)))]
noncomputable def lv_s_l09Row_N4 : Lv := []
noncomputable def lv_s_l09Row_N6 : Lv := []
noncomputable def lv_s_l09Row_X0 : Lv := [(3, (.r (.int .i64)))]
noncomputable def rv_s_l09Row : Lv := [(2, (.r (.int .i64)))]
noncomputable def gs_l09Row_l8 {R : Type} (K : Nat) (k : Nat) (x : den lv_s_l09Row_L8.ty) (kx : Nat → St → Option R) (kr : St → Option R) : Option R := s_l09Row_l8 K k x.1 x.2.1 x.2.2.1 x.2.2.2.1 (fun z0 => kx 0 (mkSt lv_s_l09Row_X0 (z0, ())))
noncomputable def gs_l09Row_j6 {R : Type} (K : Nat) (k : Nat) (x : den lv_s_l09Row_J6.ty) (kn : den lv_s_l09Row_N6.ty → Option R) (kx : Nat → St → Option R) (kr : St → Option R) : Option R := s_l09Row_j6 K k x.1 x.2.1 (kn ()) (fun z0 => kr (mkSt rv_s_l09Row (z0, ())))
noncomputable def gs_l09Row_j4 {R : Type} (K : Nat) (k : Nat) (x : den lv_s_l09Row_J4.ty) (kn : den lv_s_l09Row_N4.ty → Option R) (kx : Nat → St → Option R) (kr : St → Option R) : Option R := s_l09Row_j4 K k x.1 x.2.1 (kn ()) (fun z0 => kr (mkSt rv_s_l09Row (z0, ())))
noncomputable def sg_s_l09Row {R : Type} (K : Nat) (k : Nat) : List (Nat × SegS R) := [(6, mkSeg lv_s_l09Row_J6 lv_s_l09Row_N6 (gs_l09Row_j6 K k)), (4, mkSeg lv_s_l09Row_J4 lv_s_l09Row_N4 (gs_l09Row_j4 K k))]
noncomputable def su_s_l09Row : List (Nat × Unit) := [(6, ()), (4, ())]
noncomputable def en_s_l09Row {R : Type} (K : Nat) (k : Nat) : Env R := { L := lk [(8, mkLoop lv_s_l09Row_L8 (gs_l09Row_l8 K k))], X := lk [(0, lv_s_l09Row_X0)], S := lk (sg_s_l09Row K k), rv := rv_s_l09Row }
noncomputable def cf_s_l09Row (K : Nat) : Cfg := { ty := lk tys, fn := lk [(78, sp_s_l01Rows (s_l01Rows K)), (107, sp_s_l09Has (s_l09Has K)), (182, sp_s_NamedFunc (s_NamedFunc K)), (183, sp_s_l06Keeps (s_l06Keeps K))], fs := lk [], prot := 0, nt := Try.f171.ntmps }
noncomputable def c_s_l09Row_J4 : Code := nthC (partsOf (hasK su_s_l09Row) (bodyOf Try.f171)) 0
noncomputable def c_s_l09Row_J6 : Code := nthC (partsOf (hasK su_s_l09Row) c_s_l09Row_J4) 0
noncomputable def c_s_l09Row_L8 : Code := nthC (partsOf (hasK su_s_l09Row) c_s_l09Row_J6) 0
theorem es_l09Row_l8 {R : Type} (K : Nat) (k : Nat) (x : den lv_s_l09Row_L8.ty) (kx : Nat → St → Option R) (kr : St → Option R) : gs_l09Row_l8 K (k + 1) x kx kr = evC (cf_s_l09Row K) (en_s_l09Row K k) c_s_l09Row_L8 (mkSt lv_s_l09Row_L8 x) (fun s => mkLoop lv_s_l09Row_L8 (gs_l09Row_l8 K k) s kx kr) kx kr := by kernel_rfl
theorem ss_l09Row_l8 {R : Type} (K : Nat) (C : Cx) (hP : C.P = Try.prog) (O : CfgOk C (cf_s_l09Row K)) (k : Nat) : LpS C (R := R) (mkLoop lv_s_l09Row_L8 (gs_l09Row_l8 K k)) c_s_l09Row_L8 :=
  loop_sound O (by rw [hP]; kernel_rfl) (fun x kx kr => rfl) (es_l09Row_l8 K) (fun k => lpOk_of (en := en_s_l09Row K k) (S := hasK su_s_l09Row) (fun i => hasK_lk (sg_s_l09Row K k) i) _ (by rw [show partsOf (hasK su_s_l09Row) c_s_l09Row_L8 = [] from by kernel_rfl]; exact trivial)) k
theorem es_l09Row_j6 {R : Type} (K : Nat) (k : Nat) (x : den lv_s_l09Row_J6.ty) (kn : den lv_s_l09Row_N6.ty → Option R) (kx : Nat → St → Option R) (kr : St → Option R) : gs_l09Row_j6 K k x kn kx kr = evC (cf_s_l09Row K) (en_s_l09Row K k) c_s_l09Row_J6 (mkSt lv_s_l09Row_J6 x) (cutK lv_s_l09Row_N6 kn) kx kr := by kernel_rfl
theorem ss_l09Row_j6 {R : Type} (K : Nat) (C : Cx) (hP : C.P = Try.prog) (O : CfgOk C (cf_s_l09Row K)) (k : Nat) : SgS C (R := R) (mkSeg lv_s_l09Row_J6 lv_s_l09Row_N6 (gs_l09Row_j6 K k)) c_s_l09Row_J6 :=
  seg_sound O (by rw [hP]; kernel_rfl) (es_l09Row_j6 K k) (lpOk_of (en := en_s_l09Row K k) (S := hasK su_s_l09Row) (fun i => hasK_lk (sg_s_l09Row K k) i) _ (by rw [show partsOf (hasK su_s_l09Row) c_s_l09Row_J6 = [(true, c_s_l09Row_L8)] from by kernel_rfl]; exact (lpL_loop (f := mkLoop lv_s_l09Row_L8 (gs_l09Row_l8 K k)) (by kernel_rfl) (ss_l09Row_l8 K C hP O k) trivial)))
theorem es_l09Row_j4 {R : Type} (K : Nat) (k : Nat) (x : den lv_s_l09Row_J4.ty) (kn : den lv_s_l09Row_N4.ty → Option R) (kx : Nat → St → Option R) (kr : St → Option R) : gs_l09Row_j4 K k x kn kx kr = evC (cf_s_l09Row K) (en_s_l09Row K k) c_s_l09Row_J4 (mkSt lv_s_l09Row_J4 x) (cutK lv_s_l09Row_N4 kn) kx kr := by kernel_rfl
theorem ss_l09Row_j4 {R : Type} (K : Nat) (C : Cx) (hP : C.P = Try.prog) (O : CfgOk C (cf_s_l09Row K)) (k : Nat) : SgS C (R := R) (mkSeg lv_s_l09Row_J4 lv_s_l09Row_N4 (gs_l09Row_j4 K k)) c_s_l09Row_J4 :=
  seg_sound O (by rw [hP]; kernel_rfl) (es_l09Row_j4 K k) (lpOk_of (en := en_s_l09Row K k) (S := hasK su_s_l09Row) (fun i => hasK_lk (sg_s_l09Row K k) i) _ (by rw [show partsOf (hasK su_s_l09Row) c_s_l09Row_J4 = [(false, c_s_l09Row_J6)] from by kernel_rfl]; exact (lpL_seg (f := mkSeg lv_s_l09Row_J6 lv_s_l09Row_N6 (gs_l09Row_j6 K k)) (by kernel_rfl) (ss_l09Row_j6 K C hP O k) trivial)))
theorem e_s_l09Row (K : Nat) (x : den as_s_l09Row) : s_l09Row K x = evFn (cf_s_l09Row K) as_s_l09Row [false] (.sl (.int .i64)) (en_s_l09Row K K) Try.f171.results.toList (bodyOf Try.f171) x := by kernel_rfl
theorem ok_s_l09Row (K : Nat) : FnOk Try.prog 171 (sp_s_l09Row (s_l09Row K)) :=
  fn_ok (cf := cf_s_l09Row K) (en := en_s_l09Row K K) (c := bodyOf Try.f171) Try.func171 (by kernel_rfl) (by kernel_rfl) tysOk (fns_ok (l := [(78, sp_s_l01Rows (s_l01Rows K)), (107, sp_s_l09Has (s_l09Has K)), (182, sp_s_NamedFunc (s_NamedFunc K)), (183, sp_s_l06Keeps (s_l06Keeps K))]) ⟨ok_s_l01Rows K, ⟨ok_s_l09Has K, ⟨ok_s_NamedFunc K, ⟨ok_s_l06Keeps K, trivial⟩⟩⟩⟩) (shs_ok (l := []) trivial) (by kernel_rfl) rfl (Nat.le_of_ble_eq_true (by kernel_rfl)) (by kernel_rfl) (of_decide_eq_true (by kernel_rfl)) (by decide) (fun C hP O => lpOk_of (en := en_s_l09Row K K) (S := hasK su_s_l09Row) (fun i => hasK_lk (sg_s_l09Row K K) i) _ (by rw [show partsOf (hasK su_s_l09Row) (bodyOf Try.f171) = [(false, c_s_l09Row_J4)] from by kernel_rfl]; exact (lpL_seg (f := mkSeg lv_s_l09Row_J4 lv_s_l09Row_N4 (gs_l09Row_j4 K K)) (by kernel_rfl) (ss_l09Row_j4 K C hP O K) trivial))) (fun x y h => by rw [← e_s_l09Row]; exact h)
noncomputable def ps_s_l09DrawRelation : Lv := [(0, (.bx (.v (.st (.pair (.sl (.int .u8)) (.pair (.int .i64) (.pair (.int .u64) .unit))))))), (1, (.v (.int .i64)))]
noncomputable def rl_s_l09DrawRelation : Lv := [(0, (.v (.st (.pair (.int .i64) (.pair (.int .i64) .unit)))))]
noncomputable def sp_s_l09DrawRelation (F : (((List Int) × Int × Int × Unit) × Int × Unit) → Option (((Int × Int × Unit) × Unit) × (((List Int) × Int × Int × Unit) × Unit))) : ShSpec := ⟨ps_s_l09DrawRelation, rl_s_l09DrawRelation, F⟩
noncomputable def s_l09DrawRelation_j19 {R : Type} (K : Nat) (k : Nat) (v0 : ((List Int) × Int × Int × Unit)) (v4 : (Int × Int × Unit)) (v5 : (Int × Int × Unit)) (kn : Option R) (kr : (((List Int) × Int × Int × Unit) → (Int × Int × Unit) → Option R)) : Option R :=
    kr v0 v5
noncomputable def s_l09DrawRelation_j16 {R : Type} (K : Nat) (k : Nat) (v0 : ((List Int) × Int × Int × Unit)) (v1 : Int) (v4 : (Int × Int × Unit)) (v5 : (Int × Int × Unit)) (v6 : Int) (v7 : Int) (kn : ((List Int) × Int × Int × Unit) → Int → (Int × Int × Unit) → (Int × Int × Unit) → Int → Int → Option R)  : Option R :=
    (s_l01Next K (v0, (IntKind.i64.wrap (v6 + (1 : Int))), ())).bind fun y17 =>
    kn y17.2.1 v1 v4 (v5.1, y17.1.1, ()) v6 (IntKind.i64.wrap (v7 + (1 : Int)))
noncomputable def s_l09DrawRelation_l14 {R : Type} (K : Nat) : Nat → ((List Int) × Int × Int × Unit) → Int → (Int × Int × Unit) → (Int × Int × Unit) → Int → Int → (((List Int) × Int × Int × Unit) → Int → (Int × Int × Unit) → (Int × Int × Unit) → Int → Option R) → Option R
  | 0, _, _, _, _, _, _, _ => none
  | k + 1, v0, v1, v4, v5, v6, v7, kx1 =>
    (if (decide (v7 < (40 : Int))) = true then
    (s_l09Row K (v5, ())).bind fun y16 =>
    (if (bnds v1 (y16.length : Int)) = true then
    (if (decide ((y16.getD v1.toNat (0 : Int)) = (0 : Int))) = true then
    s_l09DrawRelation_j16 K k v0 v1 v4 v5 v6 v7 (fun z18 z19 z20 z21 z22 z23 =>
    s_l09DrawRelation_l14 K k z18 z19 z20 z21 z22 z23 kx1)
    else
    kx1 v0 v1 v4 v5 v6)
    else
    none)
    else
    kx1 v0 v1 v4 v5 v6)
noncomputable def s_l09DrawRelation (K : Nat) (x : (((List Int) × Int × Int × Unit) × Int × Unit)) : Option (((Int × Int × Unit) × Unit) × (((List Int) × Int × Int × Unit) × Unit)) :=
    let l1 := [(1 : Int), (2 : Int), (2 : Int), (3 : Int)]
    (s_l01Pick K (x.1, l1, ())).bind fun y2 =>
    (s_l01Rows K ((y2.1.1, ((0 : Int), (0 : Int), ()).2.1, ()).1, ())).bind fun y3 =>
    (s_l01Rows K (y3, ())).bind fun y4 =>
    let x5 := (IntKind.i64.wrap ((IntKind.i64.wrap (y4 - (1 : Int))) + (1 : Int)))
    (s_l01Next K (y2.2.1, x5, ())).bind fun y6 =>
    (if (decide (x.2.1 = (0 : Int))) = true then
    let x7 := ((y2.1.1, ((0 : Int), (0 : Int), ()).2.1, ()).1, y6.1.1, ()).2.1
    s_l09DrawRelation_j19 K K y6.2.1 ((0 : Int), (0 : Int), ()) (((y2.1.1, ((0 : Int), (0 : Int), ()).2.1, ()).1, y6.1.1, ()).1, (bitI .or .i64 x7 (1 : Int)), ()) none (fun z8 z9 =>
    some ((z9, ()), (z8, ())))
    else
    (if (decide (x.2.1 = (1 : Int))) = true then
    let x10 := ((y2.1.1, ((0 : Int), (0 : Int), ()).2.1, ()).1, y6.1.1, ()).2.1
    let x11 := ((y2.1.1, ((0 : Int), (0 : Int), ()).2.1, ()).1, y6.1.1, ()).1
    (s_l01Rows K (x11, ())).bind fun y12 =>
    (if (decide ((0 : Int) ≤ (IntKind.u64.wrap (IntKind.i64.wrap (y12 - (1 : Int)))))) = true then
    let x13 := (shlI .i64 (1 : Int) (IntKind.u64.wrap (IntKind.i64.wrap (y12 - (1 : Int)))))
    s_l09DrawRelation_j19 K K y6.2.1 ((0 : Int), (0 : Int), ()) (((y2.1.1, ((0 : Int), (0 : Int), ()).2.1, ()).1, y6.1.1, ()).1, (bitI .or .i64 x10 x13), ()) none (fun z14 z15 =>
    some ((z15, ()), (z14, ())))
    else
    none)
    else
    (if (decide (x.2.1 = (2 : Int))) = true then
    (if (decide (x.2.1 = (2 : Int))) = true then
    s_l09DrawRelation_l14 K K y6.2.1 x.2.1 ((0 : Int), (0 : Int), ()) ((y2.1.1, ((0 : Int), (0 : Int), ()).2.1, ()).1, y6.1.1, ()) (IntKind.i64.wrap (y4 - (1 : Int))) (0 : Int) (fun z24 z25 z26 z27 z28 =>
    (s_l09Row K (z27, ())).bind fun y29 =>
    (if (bnds z25 (y29.length : Int)) = true then
    (if (decide ((y29.getD z25.toNat (0 : Int)) = (0 : Int))) = true then
    s_l09DrawRelation_j19 K K z24 z26 (z27.1, z28, ()) none (fun z30 z31 =>
    some ((z31, ()), (z30, ())))
    else
    s_l09DrawRelation_j19 K K z24 z26 z27 none (fun z32 z33 =>
    some ((z33, ()), (z32, ()))))
    else
    none))
    else
    s_l09DrawRelation_j19 K K y6.2.1 ((0 : Int), (0 : Int), ()) ((y2.1.1, ((0 : Int), (0 : Int), ()).2.1, ()).1, y6.1.1, ()) none (fun z34 z35 =>
    some ((z35, ()), (z34, ()))))
    else
    (if (decide (x.2.1 = (3 : Int))) = true then
    (if (decide (x.2.1 = (3 : Int))) = true then
    s_l09DrawRelation_l14 K K y6.2.1 x.2.1 ((0 : Int), (0 : Int), ()) ((y2.1.1, ((0 : Int), (0 : Int), ()).2.1, ()).1, y6.1.1, ()) (IntKind.i64.wrap (y4 - (1 : Int))) (0 : Int) (fun z36 z37 z38 z39 z40 =>
    (s_l09Row K (z39, ())).bind fun y41 =>
    (if (bnds z37 (y41.length : Int)) = true then
    (if (decide ((y41.getD z37.toNat (0 : Int)) = (0 : Int))) = true then
    s_l09DrawRelation_j19 K K z36 z38 (z39.1, z40, ()) none (fun z42 z43 =>
    some ((z43, ()), (z42, ())))
    else
    s_l09DrawRelation_j19 K K z36 z38 z39 none (fun z44 z45 =>
    some ((z45, ()), (z44, ()))))
    else
    none))
    else
    s_l09DrawRelation_j19 K K y6.2.1 ((0 : Int), (0 : Int), ()) ((y2.1.1, ((0 : Int), (0 : Int), ()).2.1, ()).1, y6.1.1, ()) none (fun z46 z47 =>
    some ((z47, ()), (z46, ()))))
    else
    (if (decide (x.2.1 = (4 : Int))) = true then
    (if (decide (x.2.1 = (4 : Int))) = true then
    s_l09DrawRelation_l14 K K y6.2.1 x.2.1 ((0 : Int), (0 : Int), ()) ((y2.1.1, ((0 : Int), (0 : Int), ()).2.1, ()).1, y6.1.1, ()) (IntKind.i64.wrap (y4 - (1 : Int))) (0 : Int) (fun z48 z49 z50 z51 z52 =>
    (s_l09Row K (z51, ())).bind fun y53 =>
    (if (bnds z49 (y53.length : Int)) = true then
    (if (decide ((y53.getD z49.toNat (0 : Int)) = (0 : Int))) = true then
    s_l09DrawRelation_j19 K K z48 z50 (z51.1, z52, ()) none (fun z54 z55 =>
    some ((z55, ()), (z54, ())))
    else
    s_l09DrawRelation_j19 K K z48 z50 z51 none (fun z56 z57 =>
    some ((z57, ()), (z56, ()))))
    else
    none))
    else
    s_l09DrawRelation_j19 K K y6.2.1 ((0 : Int), (0 : Int), ()) ((y2.1.1, ((0 : Int), (0 : Int), ()).2.1, ()).1, y6.1.1, ()) none (fun z58 z59 =>
    some ((z59, ()), (z58, ()))))
    else
    (if (decide (x.2.1 = (5 : Int))) = true then
    s_l09DrawRelation_l14 K K y6.2.1 x.2.1 ((0 : Int), (0 : Int), ()) ((y2.1.1, ((0 : Int), (0 : Int), ()).2.1, ()).1, y6.1.1, ()) (IntKind.i64.wrap (y4 - (1 : Int))) (0 : Int) (fun z60 z61 z62 z63 z64 =>
    (s_l09Row K (z63, ())).bind fun y65 =>
    (if (bnds z61 (y65.length : Int)) = true then
    (if (decide ((y65.getD z61.toNat (0 : Int)) = (0 : Int))) = true then
    s_l09DrawRelation_j19 K K z60 z62 (z63.1, z64, ()) none (fun z66 z67 =>
    some ((z67, ()), (z66, ())))
    else
    s_l09DrawRelation_j19 K K z60 z62 z63 none (fun z68 z69 =>
    some ((z69, ()), (z68, ()))))
    else
    none))
    else
    s_l09DrawRelation_j19 K K y6.2.1 ((0 : Int), (0 : Int), ()) ((y2.1.1, ((0 : Int), (0 : Int), ()).2.1, ()).1, y6.1.1, ()) none (fun z70 z71 =>
    some ((z71, ()), (z70, ())))))))))
noncomputable def lv_s_l09DrawRelation_J16 : Lv := [(0, (.bx (.v (.st (.pair (.sl (.int .u8)) (.pair (.int .i64) (.pair (.int .u64) .unit))))))), (1, (.v (.int .i64))), (4, (.bx (.v (.st (.pair (.int .i64) (.pair (.int .i64) .unit)))))), (5, (.bx (.v (.st (.pair (.int .i64) (.pair (.int .i64) .unit)))))), (6, (.v (.int .i64))), (7, (.v (.int .i64)))]
noncomputable def lv_s_l09DrawRelation_J19 : Lv := [(0, (.bx (.v (.st (.pair (.sl (.int .u8)) (.pair (.int .i64) (.pair (.int .u64) .unit))))))), (4, (.bx (.v (.st (.pair (.int .i64) (.pair (.int .i64) .unit)))))), (5, (.bx (.v (.st (.pair (.int .i64) (.pair (.int .i64) .unit))))))]
noncomputable def lv_s_l09DrawRelation_L14 : Lv := [(0, (.bx (.v (.st (.pair (.sl (.int .u8)) (.pair (.int .i64) (.pair (.int .u64) .unit))))))), (1, (.v (.int .i64))), (4, (.bx (.v (.st (.pair (.int .i64) (.pair (.int .i64) .unit)))))), (5, (.bx (.v (.st (.pair (.int .i64) (.pair (.int .i64) .unit)))))), (6, (.v (.int .i64))), (7, (.v (.int .i64)))]
noncomputable def lv_s_l09DrawRelation_N16 : Lv := [(0, (.bx (.v (.st (.pair (.sl (.int .u8)) (.pair (.int .i64) (.pair (.int .u64) .unit))))))), (1, (.v (.int .i64))), (4, (.bx (.v (.st (.pair (.int .i64) (.pair (.int .i64) .unit)))))), (5, (.bx (.v (.st (.pair (.int .i64) (.pair (.int .i64) .unit)))))), (6, (.v (.int .i64))), (7, (.v (.int .i64)))]
noncomputable def lv_s_l09DrawRelation_N19 : Lv := []
noncomputable def lv_s_l09DrawRelation_X1 : Lv := [(0, (.bx (.v (.st (.pair (.sl (.int .u8)) (.pair (.int .i64) (.pair (.int .u64) .unit))))))), (1, (.v (.int .i64))), (4, (.bx (.v (.st (.pair (.int .i64) (.pair (.int .i64) .unit)))))), (5, (.bx (.v (.st (.pair (.int .i64) (.pair (.int .i64) .unit)))))), (6, (.v (.int .i64)))]
noncomputable def rv_s_l09DrawRelation : Lv := [(0, (.bx (.v (.st (.pair (.sl (.int .u8)) (.pair (.int .i64) (.pair (.int .u64) .unit))))))), (4, (.bx (.v (.st (.pair (.int .i64) (.pair (.int .i64) .unit))))))]
noncomputable def gs_l09DrawRelation_j19 {R : Type} (K : Nat) (k : Nat) (x : den lv_s_l09DrawRelation_J19.ty) (kn : den lv_s_l09DrawRelation_N19.ty → Option R) (kx : Nat → St → Option R) (kr : St → Option R) : Option R := s_l09DrawRelation_j19 K k x.1 x.2.1 x.2.2.1 (kn ()) (fun z0 z1 => kr (mkSt rv_s_l09DrawRelation (z0, z1, ())))
noncomputable def gs_l09DrawRelation_j16 {R : Type} (K : Nat) (k : Nat) (x : den lv_s_l09DrawRelation_J16.ty) (kn : den lv_s_l09DrawRelation_N16.ty → Option R) (kx : Nat → St → Option R) (kr : St → Option R) : Option R := s_l09DrawRelation_j16 K k x.1 x.2.1 x.2.2.1 x.2.2.2.1 x.2.2.2.2.1 x.2.2.2.2.2.1 (fun z0 z1 z2 z3 z4 z5 => kn (z0, z1, z2, z3, z4, z5, ()))
noncomputable def gs_l09DrawRelation_l14 {R : Type} (K : Nat) (k : Nat) (x : den lv_s_l09DrawRelation_L14.ty) (kx : Nat → St → Option R) (kr : St → Option R) : Option R := s_l09DrawRelation_l14 K k x.1 x.2.1 x.2.2.1 x.2.2.2.1 x.2.2.2.2.1 x.2.2.2.2.2.1 (fun z0 z1 z2 z3 z4 => kx 1 (mkSt lv_s_l09DrawRelation_X1 (z0, z1, z2, z3, z4, ())))
noncomputable def sg_s_l09DrawRelation {R : Type} (K : Nat) (k : Nat) : List (Nat × SegS R) := [(19, mkSeg lv_s_l09DrawRelation_J19 lv_s_l09DrawRelation_N19 (gs_l09DrawRelation_j19 K k)), (16, mkSeg lv_s_l09DrawRelation_J16 lv_s_l09DrawRelation_N16 (gs_l09DrawRelation_j16 K k))]
noncomputable def su_s_l09DrawRelation : List (Nat × Unit) := [(19, ()), (16, ())]
noncomputable def en_s_l09DrawRelation {R : Type} (K : Nat) (k : Nat) : Env R := { L := lk [(14, mkLoop lv_s_l09DrawRelation_L14 (gs_l09DrawRelation_l14 K k))], X := lk [(1, lv_s_l09DrawRelation_X1)], S := lk (sg_s_l09DrawRelation K k), rv := rv_s_l09DrawRelation }
noncomputable def cf_s_l09DrawRelation (K : Nat) : Cfg := { ty := lk tys, fn := lk [(78, sp_s_l01Rows (s_l01Rows K)), (171, sp_s_l09Row (s_l09Row K))], fs := lk [(57, sp_s_l01Pick (s_l01Pick K)), (65, sp_s_l01Next (s_l01Next K))], prot := 1, nt := Try.f134.ntmps }
noncomputable def c_s_l09DrawRelation_L14 : Code := nthC (partsOf (hasK su_s_l09DrawRelation) (bodyOf Try.f134)) 0
noncomputable def c_s_l09DrawRelation_J16 : Code := nthC (partsOf (hasK su_s_l09DrawRelation) c_s_l09DrawRelation_L14) 0
noncomputable def c_s_l09DrawRelation_J19 : Code := nthC (partsOf (hasK su_s_l09DrawRelation) (bodyOf Try.f134)) 1
theorem es_l09DrawRelation_j16 {R : Type} (K : Nat) (k : Nat) (x : den lv_s_l09DrawRelation_J16.ty) (kn : den lv_s_l09DrawRelation_N16.ty → Option R) (kx : Nat → St → Option R) (kr : St → Option R) : gs_l09DrawRelation_j16 K k x kn kx kr = evC (cf_s_l09DrawRelation K) (en_s_l09DrawRelation K k) c_s_l09DrawRelation_J16 (mkSt lv_s_l09DrawRelation_J16 x) (cutK lv_s_l09DrawRelation_N16 kn) kx kr := by kernel_rfl
theorem ss_l09DrawRelation_j16 {R : Type} (K : Nat) (C : Cx) (hP : C.P = Try.prog) (O : CfgOk C (cf_s_l09DrawRelation K)) (k : Nat) : SgS C (R := R) (mkSeg lv_s_l09DrawRelation_J16 lv_s_l09DrawRelation_N16 (gs_l09DrawRelation_j16 K k)) c_s_l09DrawRelation_J16 :=
  seg_sound O (by rw [hP]; kernel_rfl) (es_l09DrawRelation_j16 K k) (lpOk_of (en := en_s_l09DrawRelation K k) (S := hasK su_s_l09DrawRelation) (fun i => hasK_lk (sg_s_l09DrawRelation K k) i) _ (by rw [show partsOf (hasK su_s_l09DrawRelation) c_s_l09DrawRelation_J16 = [] from by kernel_rfl]; exact trivial))
theorem es_l09DrawRelation_l14 {R : Type} (K : Nat) (k : Nat) (x : den lv_s_l09DrawRelation_L14.ty) (kx : Nat → St → Option R) (kr : St → Option R) : gs_l09DrawRelation_l14 K (k + 1) x kx kr = evC (cf_s_l09DrawRelation K) (en_s_l09DrawRelation K k) c_s_l09DrawRelation_L14 (mkSt lv_s_l09DrawRelation_L14 x) (fun s => mkLoop lv_s_l09DrawRelation_L14 (gs_l09DrawRelation_l14 K k) s kx kr) kx kr := by kernel_rfl
theorem ss_l09DrawRelation_l14 {R : Type} (K : Nat) (C : Cx) (hP : C.P = Try.prog) (O : CfgOk C (cf_s_l09DrawRelation K)) (k : Nat) : LpS C (R := R) (mkLoop lv_s_l09DrawRelation_L14 (gs_l09DrawRelation_l14 K k)) c_s_l09DrawRelation_L14 :=
  loop_sound O (by rw [hP]; kernel_rfl) (fun x kx kr => rfl) (es_l09DrawRelation_l14 K) (fun k => lpOk_of (en := en_s_l09DrawRelation K k) (S := hasK su_s_l09DrawRelation) (fun i => hasK_lk (sg_s_l09DrawRelation K k) i) _ (by rw [show partsOf (hasK su_s_l09DrawRelation) c_s_l09DrawRelation_L14 = [(false, c_s_l09DrawRelation_J16)] from by kernel_rfl]; exact (lpL_seg (f := mkSeg lv_s_l09DrawRelation_J16 lv_s_l09DrawRelation_N16 (gs_l09DrawRelation_j16 K k)) (by kernel_rfl) (ss_l09DrawRelation_j16 K C hP O k) trivial))) k
theorem es_l09DrawRelation_j19 {R : Type} (K : Nat) (k : Nat) (x : den lv_s_l09DrawRelation_J19.ty) (kn : den lv_s_l09DrawRelation_N19.ty → Option R) (kx : Nat → St → Option R) (kr : St → Option R) : gs_l09DrawRelation_j19 K k x kn kx kr = evC (cf_s_l09DrawRelation K) (en_s_l09DrawRelation K k) c_s_l09DrawRelation_J19 (mkSt lv_s_l09DrawRelation_J19 x) (cutK lv_s_l09DrawRelation_N19 kn) kx kr := by kernel_rfl
theorem ss_l09DrawRelation_j19 {R : Type} (K : Nat) (C : Cx) (hP : C.P = Try.prog) (O : CfgOk C (cf_s_l09DrawRelation K)) (k : Nat) : SgS C (R := R) (mkSeg lv_s_l09DrawRelation_J19 lv_s_l09DrawRelation_N19 (gs_l09DrawRelation_j19 K k)) c_s_l09DrawRelation_J19 :=
  seg_sound O (by rw [hP]; kernel_rfl) (es_l09DrawRelation_j19 K k) (lpOk_of (en := en_s_l09DrawRelation K k) (S := hasK su_s_l09DrawRelation) (fun i => hasK_lk (sg_s_l09DrawRelation K k) i) _ (by rw [show partsOf (hasK su_s_l09DrawRelation) c_s_l09DrawRelation_J19 = [] from by kernel_rfl]; exact trivial))
theorem e_s_l09DrawRelation (K : Nat) (x : den ps_s_l09DrawRelation.ty) : s_l09DrawRelation K x = evFnS (cf_s_l09DrawRelation K) ps_s_l09DrawRelation rl_s_l09DrawRelation (en_s_l09DrawRelation K K) Try.f134.results.toList (bodyOf Try.f134) x := by kernel_rfl
theorem ok_s_l09DrawRelation (K : Nat) : ShOk Try.prog 134 (sp_s_l09DrawRelation (s_l09DrawRelation K)) :=
  sh_ok (cf := cf_s_l09DrawRelation K) (en := en_s_l09DrawRelation K K) (c := bodyOf Try.f134) Try.func134 (by kernel_rfl) (by kernel_rfl) tysOk (fns_ok (l := [(78, sp_s_l01Rows (s_l01Rows K)), (171, sp_s_l09Row (s_l09Row K))]) ⟨ok_s_l01Rows K, ⟨ok_s_l09Row K, trivial⟩⟩) (shs_ok (l := [(57, sp_s_l01Pick (s_l01Pick K)), (65, sp_s_l01Next (s_l01Next K))]) ⟨ok_s_l01Pick K, ⟨ok_s_l01Next K, trivial⟩⟩) (by kernel_rfl) rfl (Nat.le_of_ble_eq_true (by kernel_rfl)) (by kernel_rfl) (Nat.le_of_ble_eq_true (by kernel_rfl)) (by kernel_rfl) (fun C hP O => lpOk_of (en := en_s_l09DrawRelation K K) (S := hasK su_s_l09DrawRelation) (fun i => hasK_lk (sg_s_l09DrawRelation K K) i) _ (by rw [show partsOf (hasK su_s_l09DrawRelation) (bodyOf Try.f134) = [(true, c_s_l09DrawRelation_L14), (false, c_s_l09DrawRelation_J19)] from by kernel_rfl]; exact (lpL_loop (f := mkLoop lv_s_l09DrawRelation_L14 (gs_l09DrawRelation_l14 K K)) (by kernel_rfl) (ss_l09DrawRelation_l14 K C hP O K) (lpL_seg (f := mkSeg lv_s_l09DrawRelation_J19 lv_s_l09DrawRelation_N19 (gs_l09DrawRelation_j19 K K)) (by kernel_rfl) (ss_l09DrawRelation_j19 K C hP O K) trivial)))) (fun x y h => by rw [← e_s_l09DrawRelation]; exact h)
noncomputable def ps_s_l09DrawOf : Lv := [(0, (.bx (.v (.st (.pair (.sl (.int .u8)) (.pair (.int .i64) (.pair (.int .u64) .unit)))))))]
noncomputable def rl_s_l09DrawOf : Lv := [(0, (.st (.pair (.v (.int .i64)) (.pair (.r (.st (.pair (.st (.pair (.int .i64) (.pair (.int .i64) .unit))) (.pair (.sl (.int .i64)) .unit)))) .unit))))]
noncomputable def sp_s_l09DrawOf (F : (((List Int) × Int × Int × Unit) × Unit) → Option (((Int × (List ((Int × Int × Unit) × (List Int) × Unit)) × Unit) × Unit) × (((List Int) × Int × Int × Unit) × Unit))) : ShSpec := ⟨ps_s_l09DrawOf, rl_s_l09DrawOf, F⟩
noncomputable def s_l09DrawOf_l7 {R : Type} (K : Nat) : Nat → ((List Int) × Int × Int × Unit) → Int → (List ((Int × Int × Unit) × (List Int) × Unit)) → Int → (List ((Int × Int × Unit) × (List Int) × Unit)) → Int → Int → (Int × Int × Unit) → (List Int) → Int → (((List Int) × Int × Int × Unit) → Int → (List ((Int × Int × Unit) × (List Int) × Unit)) → Int → (List ((Int × Int × Unit) × (List Int) × Unit)) → Int → Int → (Int × Int × Unit) → (List Int) → Option R) → Option R
  | 0, _, _, _, _, _, _, _, _, _, _, _ => none
  | k + 1, v0, v2_0, v2_1, v3_0, v3_1, v4, v5, v6_0, v6_1, v7, kx2 =>
    (if (decide (v7 < v6_0.1)) = true then
    (s_l01Next K (v0, v3_0, ())).bind fun y9 =>
    (if (decide (v6_1.length + ([y9.1.1]).length ≤ lim)) = true then
    let l10 := (v6_1 ++ [y9.1.1])
    s_l09DrawOf_l7 K k y9.2.1 v2_0 v2_1 v3_0 v3_1 v4 v5 v6_0 l10 (IntKind.i64.wrap (v7 + (1 : Int))) kx2
    else
    none)
    else
    kx2 v0 v2_0 v2_1 v3_0 v3_1 v4 v5 v6_0 v6_1)
noncomputable def s_l09DrawOf_j5 {R : Type} (K : Nat) (k : Nat) (v0 : ((List Int) × Int × Int × Unit)) (v2_0 : Int) (v2_1 : (List ((Int × Int × Unit) × (List Int) × Unit))) (v3_0 : Int) (v3_1 : (List ((Int × Int × Unit) × (List Int) × Unit))) (v4 : Int) (v5 : Int) (kn : ((List Int) × Int × Int × Unit) → Int → (List ((Int × Int × Unit) × (List Int) × Unit)) → Int → (List ((Int × Int × Unit) × (List Int) × Unit)) → Int → Int → Option R)  : Option R :=
    (s_l09DrawRelation K (v0, v4, ())).bind fun y7 =>
    let l8 := ([] : List Int)
    s_l09DrawOf_l7 K k y7.2.1 v2_0 v2_1 v3_0 v3_1 v4 v5 y7.1.1 l8 (0 : Int) (fun z11 z12 z13 z14 z15 z16 z17 z18 z19 =>
    let l20 := [(z18, z19, ())]
    (if (decide (z15.length + l20.length ≤ lim)) = true then
    let l21 := (z15 ++ l20)
    kn z11 z12 z13 z14 l21 z16 (IntKind.i64.wrap (z17 - (1 : Int)))
    else
    none))
noncomputable def s_l09DrawOf_l3 {R : Type} (K : Nat) : Nat → ((List Int) × Int × Int × Unit) → Int → (List ((Int × Int × Unit) × (List Int) × Unit)) → Int → (List ((Int × Int × Unit) × (List Int) × Unit)) → Int → Int → (((List Int) × Int × Int × Unit) → Int → (List ((Int × Int × Unit) × (List Int) × Unit)) → Int → (List ((Int × Int × Unit) × (List Int) × Unit)) → Option R) → Option R
  | 0, _, _, _, _, _, _, _, _ => none
  | k + 1, v0, v2_0, v2_1, v3_0, v3_1, v4, v5, kx0 =>
    (if (decide (v5 > (0 : Int))) = true then
    (if (decide (v3_0 > (0 : Int))) = true then
    s_l09DrawOf_j5 K k v0 v2_0 v2_1 v3_0 v3_1 v4 v5 (fun z22 z23 z24 z25 z26 z27 z28 =>
    s_l09DrawOf_l3 K k z22 z23 z24 z25 z26 z27 z28 kx0)
    else
    kx0 v0 v2_0 v2_1 v3_0 v3_1)
    else
    kx0 v0 v2_0 v2_1 v3_0 v3_1)
noncomputable def s_l09DrawOf (K : Nat) (x : (((List Int) × Int × Int × Unit) × Unit)) : Option (((Int × (List ((Int × Int × Unit) × (List Int) × Unit)) × Unit) × Unit) × (((List Int) × Int × Int × Unit) × Unit)) :=
    (s_l01Next K (x.1, (9 : Int), ())).bind fun y1 =>
    let l2 := ([] : List ((Int × Int × Unit) × (List Int) × Unit))
    (s_l01Next K (y1.2.1, (8 : Int), ())).bind fun y3 =>
    let l4 := [(3 : Int), (5 : Int), (8 : Int), (13 : Int)]
    (s_l01Pick K (y3.2.1, l4, ())).bind fun y5 =>
    (s_l01Next K (y5.2.1, y5.1.1, ())).bind fun y6 =>
    s_l09DrawOf_l3 K K y6.2.1 (0 : Int) ([] : List ((Int × Int × Unit) × (List Int) × Unit)) y1.1.1 l2 y3.1.1 y6.1.1 (fun z29 z30 z31 z32 z33 =>
    some (((z32, z33, ()), ()), (z29, ())))
noncomputable def lv_s_l09DrawOf_J5 : Lv := [(0, (.bx (.v (.st (.pair (.sl (.int .u8)) (.pair (.int .i64) (.pair (.int .u64) .unit))))))), (2, (.bx (.st (.pair (.v (.int .i64)) (.pair (.r (.st (.pair (.st (.pair (.int .i64) (.pair (.int .i64) .unit))) (.pair (.sl (.int .i64)) .unit)))) .unit))))), (3, (.bx (.st (.pair (.v (.int .i64)) (.pair (.r (.st (.pair (.st (.pair (.int .i64) (.pair (.int .i64) .unit))) (.pair (.sl (.int .i64)) .unit)))) .unit))))), (4, (.v (.int .i64))), (5, (.v (.int .i64)))]
noncomputable def lv_s_l09DrawOf_L3 : Lv := [(0, (.bx (.v (.st (.pair (.sl (.int .u8)) (.pair (.int .i64) (.pair (.int .u64) .unit))))))), (2, (.bx (.st (.pair (.v (.int .i64)) (.pair (.r (.st (.pair (.st (.pair (.int .i64) (.pair (.int .i64) .unit))) (.pair (.sl (.int .i64)) .unit)))) .unit))))), (3, (.bx (.st (.pair (.v (.int .i64)) (.pair (.r (.st (.pair (.st (.pair (.int .i64) (.pair (.int .i64) .unit))) (.pair (.sl (.int .i64)) .unit)))) .unit))))), (4, (.v (.int .i64))), (5, (.v (.int .i64)))]
noncomputable def lv_s_l09DrawOf_L7 : Lv := [(0, (.bx (.v (.st (.pair (.sl (.int .u8)) (.pair (.int .i64) (.pair (.int .u64) .unit))))))), (2, (.bx (.st (.pair (.v (.int .i64)) (.pair (.r (.st (.pair (.st (.pair (.int .i64) (.pair (.int .i64) .unit))) (.pair (.sl (.int .i64)) .unit)))) .unit))))), (3, (.bx (.st (.pair (.v (.int .i64)) (.pair (.r (.st (.pair (.st (.pair (.int .i64) (.pair (.int .i64) .unit))) (.pair (.sl (.int .i64)) .unit)))) .unit))))), (4, (.v (.int .i64))), (5, (.v (.int .i64))), (6, (.bx (.st (.pair (.v (.st (.pair (.int .i64) (.pair (.int .i64) .unit)))) (.pair (.r (.int .i64)) .unit))))), (7, (.v (.int .i64)))]
noncomputable def lv_s_l09DrawOf_N5 : Lv := [(0, (.bx (.v (.st (.pair (.sl (.int .u8)) (.pair (.int .i64) (.pair (.int .u64) .unit))))))), (2, (.bx (.st (.pair (.v (.int .i64)) (.pair (.r (.st (.pair (.st (.pair (.int .i64) (.pair (.int .i64) .unit))) (.pair (.sl (.int .i64)) .unit)))) .unit))))), (3, (.bx (.st (.pair (.v (.int .i64)) (.pair (.r (.st (.pair (.st (.pair (.int .i64) (.pair (.int .i64) .unit))) (.pair (.sl (.int .i64)) .unit)))) .unit))))), (4, (.v (.int .i64))), (5, (.v (.int .i64)))]
noncomputable def lv_s_l09DrawOf_X0 : Lv := [(0, (.bx (.v (.st (.pair (.sl (.int .u8)) (.pair (.int .i64) (.pair (.int .u64) .unit))))))), (2, (.bx (.st (.pair (.v (.int .i64)) (.pair (.r (.st (.pair (.st (.pair (.int .i64) (.pair (.int .i64) .unit))) (.pair (.sl (.int .i64)) .unit)))) .unit))))), (3, (.bx (.st (.pair (.v (.int .i64)) (.pair (.r (.st (.pair (.st (.pair (.int .i64) (.pair (.int .i64) .unit))) (.pair (.sl (.int .i64)) .unit)))) .unit)))))]
noncomputable def lv_s_l09DrawOf_X2 : Lv := [(0, (.bx (.v (.st (.pair (.sl (.int .u8)) (.pair (.int .i64) (.pair (.int .u64) .unit))))))), (2, (.bx (.st (.pair (.v (.int .i64)) (.pair (.r (.st (.pair (.st (.pair (.int .i64) (.pair (.int .i64) .unit))) (.pair (.sl (.int .i64)) .unit)))) .unit))))), (3, (.bx (.st (.pair (.v (.int .i64)) (.pair (.r (.st (.pair (.st (.pair (.int .i64) (.pair (.int .i64) .unit))) (.pair (.sl (.int .i64)) .unit)))) .unit))))), (4, (.v (.int .i64))), (5, (.v (.int .i64))), (6, (.bx (.st (.pair (.v (.st (.pair (.int .i64) (.pair (.int .i64) .unit)))) (.pair (.r (.int .i64)) .unit)))))]
noncomputable def rv_s_l09DrawOf : Lv := [(0, (.bx (.v (.st (.pair (.sl (.int .u8)) (.pair (.int .i64) (.pair (.int .u64) .unit))))))), (2, (.bx (.st (.pair (.v (.int .i64)) (.pair (.r (.st (.pair (.st (.pair (.int .i64) (.pair (.int .i64) .unit))) (.pair (.sl (.int .i64)) .unit)))) .unit)))))]
noncomputable def gs_l09DrawOf_l7 {R : Type} (K : Nat) (k : Nat) (x : den lv_s_l09DrawOf_L7.ty) (kx : Nat → St → Option R) (kr : St → Option R) : Option R := s_l09DrawOf_l7 K k x.1 x.2.1.1 x.2.1.2.1 x.2.2.1.1 x.2.2.1.2.1 x.2.2.2.1 x.2.2.2.2.1 x.2.2.2.2.2.1.1 x.2.2.2.2.2.1.2.1 x.2.2.2.2.2.2.1 (fun z0 z1 z2 z3 z4 z5 z6 z7 z8 => kx 2 (mkSt lv_s_l09DrawOf_X2 (z0, (z1, z2, ()), (z3, z4, ()), z5, z6, (z7, z8, ()), ())))
noncomputable def gs_l09DrawOf_j5 {R : Type} (K : Nat) (k : Nat) (x : den lv_s_l09DrawOf_J5.ty) (kn : den lv_s_l09DrawOf_N5.ty → Option R) (kx : Nat → St → Option R) (kr : St → Option R) : Option R := s_l09DrawOf_j5 K k x.1 x.2.1.1 x.2.1.2.1 x.2.2.1.1 x.2.2.1.2.1 x.2.2.2.1 x.2.2.2.2.1 (fun z0 z1 z2 z3 z4 z5 z6 => kn (z0, (z1, z2, ()), (z3, z4, ()), z5, z6, ()))
noncomputable def gs_l09DrawOf_l3 {R : Type} (K : Nat) (k : Nat) (x : den lv_s_l09DrawOf_L3.ty) (kx : Nat → St → Option R) (kr : St → Option R) : Option R := s_l09DrawOf_l3 K k x.1 x.2.1.1 x.2.1.2.1 x.2.2.1.1 x.2.2.1.2.1 x.2.2.2.1 x.2.2.2.2.1 (fun z0 z1 z2 z3 z4 => kx 0 (mkSt lv_s_l09DrawOf_X0 (z0, (z1, z2, ()), (z3, z4, ()), ())))
noncomputable def sg_s_l09DrawOf {R : Type} (K : Nat) (k : Nat) : List (Nat × SegS R) := [(5, mkSeg lv_s_l09DrawOf_J5 lv_s_l09DrawOf_N5 (gs_l09DrawOf_j5 K k))]
noncomputable def su_s_l09DrawOf : List (Nat × Unit) := [(5, ())]
noncomputable def en_s_l09DrawOf {R : Type} (K : Nat) (k : Nat) : Env R := { L := lk [(7, mkLoop lv_s_l09DrawOf_L7 (gs_l09DrawOf_l7 K k)), (3, mkLoop lv_s_l09DrawOf_L3 (gs_l09DrawOf_l3 K k))], X := lk [(0, lv_s_l09DrawOf_X0), (2, lv_s_l09DrawOf_X2)], S := lk (sg_s_l09DrawOf K k), rv := rv_s_l09DrawOf }
noncomputable def cf_s_l09DrawOf (K : Nat) : Cfg := { ty := lk tys, fn := lk [], fs := lk [(57, sp_s_l01Pick (s_l01Pick K)), (65, sp_s_l01Next (s_l01Next K)), (134, sp_s_l09DrawRelation (s_l09DrawRelation K))], prot := 1, nt := Try.f85.ntmps }
noncomputable def c_s_l09DrawOf_L3 : Code := nthC (partsOf (hasK su_s_l09DrawOf) (bodyOf Try.f85)) 0
noncomputable def c_s_l09DrawOf_J5 : Code := nthC (partsOf (hasK su_s_l09DrawOf) c_s_l09DrawOf_L3) 0
noncomputable def c_s_l09DrawOf_L7 : Code := nthC (partsOf (hasK su_s_l09DrawOf) c_s_l09DrawOf_J5) 0
theorem es_l09DrawOf_l7 {R : Type} (K : Nat) (k : Nat) (x : den lv_s_l09DrawOf_L7.ty) (kx : Nat → St → Option R) (kr : St → Option R) : gs_l09DrawOf_l7 K (k + 1) x kx kr = evC (cf_s_l09DrawOf K) (en_s_l09DrawOf K k) c_s_l09DrawOf_L7 (mkSt lv_s_l09DrawOf_L7 x) (fun s => mkLoop lv_s_l09DrawOf_L7 (gs_l09DrawOf_l7 K k) s kx kr) kx kr := by kernel_rfl
theorem ss_l09DrawOf_l7 {R : Type} (K : Nat) (C : Cx) (hP : C.P = Try.prog) (O : CfgOk C (cf_s_l09DrawOf K)) (k : Nat) : LpS C (R := R) (mkLoop lv_s_l09DrawOf_L7 (gs_l09DrawOf_l7 K k)) c_s_l09DrawOf_L7 :=
  loop_sound O (by rw [hP]; kernel_rfl) (fun x kx kr => rfl) (es_l09DrawOf_l7 K) (fun k => lpOk_of (en := en_s_l09DrawOf K k) (S := hasK su_s_l09DrawOf) (fun i => hasK_lk (sg_s_l09DrawOf K k) i) _ (by rw [show partsOf (hasK su_s_l09DrawOf) c_s_l09DrawOf_L7 = [] from by kernel_rfl]; exact trivial)) k
theorem es_l09DrawOf_j5 {R : Type} (K : Nat) (k : Nat) (x : den lv_s_l09DrawOf_J5.ty) (kn : den lv_s_l09DrawOf_N5.ty → Option R) (kx : Nat → St → Option R) (kr : St → Option R) : gs_l09DrawOf_j5 K k x kn kx kr = evC (cf_s_l09DrawOf K) (en_s_l09DrawOf K k) c_s_l09DrawOf_J5 (mkSt lv_s_l09DrawOf_J5 x) (cutK lv_s_l09DrawOf_N5 kn) kx kr := by kernel_rfl
theorem ss_l09DrawOf_j5 {R : Type} (K : Nat) (C : Cx) (hP : C.P = Try.prog) (O : CfgOk C (cf_s_l09DrawOf K)) (k : Nat) : SgS C (R := R) (mkSeg lv_s_l09DrawOf_J5 lv_s_l09DrawOf_N5 (gs_l09DrawOf_j5 K k)) c_s_l09DrawOf_J5 :=
  seg_sound O (by rw [hP]; kernel_rfl) (es_l09DrawOf_j5 K k) (lpOk_of (en := en_s_l09DrawOf K k) (S := hasK su_s_l09DrawOf) (fun i => hasK_lk (sg_s_l09DrawOf K k) i) _ (by rw [show partsOf (hasK su_s_l09DrawOf) c_s_l09DrawOf_J5 = [(true, c_s_l09DrawOf_L7)] from by kernel_rfl]; exact (lpL_loop (f := mkLoop lv_s_l09DrawOf_L7 (gs_l09DrawOf_l7 K k)) (by kernel_rfl) (ss_l09DrawOf_l7 K C hP O k) trivial)))
theorem es_l09DrawOf_l3 {R : Type} (K : Nat) (k : Nat) (x : den lv_s_l09DrawOf_L3.ty) (kx : Nat → St → Option R) (kr : St → Option R) : gs_l09DrawOf_l3 K (k + 1) x kx kr = evC (cf_s_l09DrawOf K) (en_s_l09DrawOf K k) c_s_l09DrawOf_L3 (mkSt lv_s_l09DrawOf_L3 x) (fun s => mkLoop lv_s_l09DrawOf_L3 (gs_l09DrawOf_l3 K k) s kx kr) kx kr := by kernel_rfl
theorem ss_l09DrawOf_l3 {R : Type} (K : Nat) (C : Cx) (hP : C.P = Try.prog) (O : CfgOk C (cf_s_l09DrawOf K)) (k : Nat) : LpS C (R := R) (mkLoop lv_s_l09DrawOf_L3 (gs_l09DrawOf_l3 K k)) c_s_l09DrawOf_L3 :=
  loop_sound O (by rw [hP]; kernel_rfl) (fun x kx kr => rfl) (es_l09DrawOf_l3 K) (fun k => lpOk_of (en := en_s_l09DrawOf K k) (S := hasK su_s_l09DrawOf) (fun i => hasK_lk (sg_s_l09DrawOf K k) i) _ (by rw [show partsOf (hasK su_s_l09DrawOf) c_s_l09DrawOf_L3 = [(false, c_s_l09DrawOf_J5)] from by kernel_rfl]; exact (lpL_seg (f := mkSeg lv_s_l09DrawOf_J5 lv_s_l09DrawOf_N5 (gs_l09DrawOf_j5 K k)) (by kernel_rfl) (ss_l09DrawOf_j5 K C hP O k) trivial))) k
theorem e_s_l09DrawOf (K : Nat) (x : den ps_s_l09DrawOf.ty) : s_l09DrawOf K x = evFnS (cf_s_l09DrawOf K) ps_s_l09DrawOf rl_s_l09DrawOf (en_s_l09DrawOf K K) Try.f85.results.toList (bodyOf Try.f85) x := by kernel_rfl
theorem ok_s_l09DrawOf (K : Nat) : ShOk Try.prog 85 (sp_s_l09DrawOf (s_l09DrawOf K)) :=
  sh_ok (cf := cf_s_l09DrawOf K) (en := en_s_l09DrawOf K K) (c := bodyOf Try.f85) Try.func85 (by kernel_rfl) (by kernel_rfl) tysOk (fns_ok (l := []) trivial) (shs_ok (l := [(57, sp_s_l01Pick (s_l01Pick K)), (65, sp_s_l01Next (s_l01Next K)), (134, sp_s_l09DrawRelation (s_l09DrawRelation K))]) ⟨ok_s_l01Pick K, ⟨ok_s_l01Next K, ⟨ok_s_l09DrawRelation K, trivial⟩⟩⟩) (by kernel_rfl) rfl (Nat.le_of_ble_eq_true (by kernel_rfl)) (by kernel_rfl) (Nat.le_of_ble_eq_true (by kernel_rfl)) (by kernel_rfl) (fun C hP O => lpOk_of (en := en_s_l09DrawOf K K) (S := hasK su_s_l09DrawOf) (fun i => hasK_lk (sg_s_l09DrawOf K K) i) _ (by rw [show partsOf (hasK su_s_l09DrawOf) (bodyOf Try.f85) = [(true, c_s_l09DrawOf_L3)] from by kernel_rfl]; exact (lpL_loop (f := mkLoop lv_s_l09DrawOf_L3 (gs_l09DrawOf_l3 K K)) (by kernel_rfl) (ss_l09DrawOf_l3 K C hP O K) trivial))) (fun x y h => by rw [← e_s_l09DrawOf]; exact h)
end Go.Proofs.Ytjbpdhfoeomabaa.E
