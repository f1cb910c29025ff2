/-
  A function's contract by shapes, out of its code and the evaluator's run of it. Conditions: those of each theorem.
-/
import Derived.Test.YtjbpdhfoeomabaaGreatCFnInstances4
namespace Go.Proofs.YtjbpdhfoeomabaaGreat.E
open Go Go.RowKit
set_option linter.unusedVariables false
set_option linter.unusedSimpArgs false
section
variable {C : Cx} {cf : Cfg} {st st' : St} {a : Act} {w w' : World} {G G' : Gh} {us : U}
theorem kcan_fit : ∀ (sh : Shp) (d : Nat), sh.okI = true → KFit sh (kcan sh d).1 ∧ ∀ p ∈ (kcan sh d).1.ids, p.2 = 1
  | .v T, d, _ => ⟨trivial, fun p hp => (by cases hp)⟩
  | .r e, d, _ => ⟨trivial, fun p hp => by simp only [kcan, KS.ids, List.mem_singleton] at hp; rw [hp]⟩
  | .bx c, d, h => by cases h
  | .unit, d, _ => ⟨trivial, fun p hp => (by cases hp)⟩
  | .pair a b, d, h => by
    simp only [Shp.okI, Bool.and_eq_true] at h
    obtain ⟨h1, h2⟩ := kcan_fit a d h.1
    obtain ⟨h3, h4⟩ := kcan_fit b (kcan a d).2 h.2
    exact ⟨⟨h1, h3⟩, fun p hp => (List.mem_append.1 hp).elim (h2 p) (h4 p)⟩
  | .st a, d, h => kcan_fit a d h
theorem kzL_fit : ∀ (l : Lv) {vs : List Value}, (l.all fun z => z.2.okO) = true → vs.length = l.length → FitL st0 G l (kzL l) vs
  | [], vs, _, hv => by rw [List.length_eq_zero_iff.1 hv]; trivial
  | (i, sh) :: l, [], _, hv => by simp at hv
  | (i, sh) :: l, v :: vs, h, hv => by
    simp only [List.all_cons, Bool.and_eq_true] at h
    have ih := kzL_fit l (vs := vs) h.2 (by simpa using hv)
    have g0 : ∀ k, (st0 k).gen = 0 := fun k => rfl
    cases sh with
    | bx c =>
      obtain ⟨h1, h2⟩ := kcan_fit c (8 * i + 1) h.1
      exact ⟨h1, fun p hp => by rw [h2 p hp]; exact Nat.zero_lt_one, .inl Nat.zero_lt_one, ih⟩
    | _ =>
      have hI := h.1
      simp only [Shp.okO, Bool.and_eq_true] at hI
      obtain ⟨h1, h2⟩ := kcan_fit _ (8 * i) hI.1
      exact ⟨h1, fun p hp => by rw [h2 p hp]; exact Nat.zero_lt_one, ih⟩
theorem putS_keys : ∀ (sh : Shp) (k : KS) (x : den sh.ty), KFit sh k → (putS sh k x).2.map (·.1) = k.keys
  | .v T, k, x, h => by cases k <;> first | rfl | exact h.elim
  | .r e, k, x, h => by cases k <;> first | rfl | exact h.elim
  | .bx c, k, x, h => by cases k <;> exact h.elim
  | .unit, k, x, h => by cases k <;> first | rfl | exact h.elim
  | .pair a b, k, x, h => by
    cases k <;> try exact h.elim
    rename_i k1 k2
    show ((putS a k1 x.1).2 ++ (putS b k2 x.2).2).map (·.1) = _
    rw [List.map_append, putS_keys a k1 x.1 h.1, putS_keys b k2 x.2 h.2]; rfl
  | .st a, k, x, h => by
    cases k <;> try exact h.elim
    rename_i k1
    exact putS_keys a k1 x h
theorem putL_keys : ∀ (l : Lv) (ks : List (Nat × Nat × KS)) (x : den l.ty) {vs : List Value}, FitL st G l ks vs → (putL l ks x).2.map (·.1) = keysL l ks
  | [], [], x, vs, h => rfl
  | [], _ :: _, x, vs, h => rfl
  | (i, sh) :: l, [], x, vs, h => by cases sh <;> cases vs <;> exact h.elim
  | (i, sh) :: l, k :: ks, x, [], h => by cases sh <;> exact h.elim
  | (i, sh) :: l, (b, g, k) :: ks, x, v :: vs, h => by
    cases sh with
    | bx c =>
      show ((bk b, _) :: (putS c k x.1).2 ++ (putL l ks x.2).2).map (·.1) = _
      rw [List.map_append, List.map_cons, putS_keys c k x.1 h.1, putL_keys l ks x.2 h.2.2.2]; rfl
    | v T =>
      show ((putS _ k x.1).2 ++ (putL l ks x.2).2).map (·.1) = _
      rw [List.map_append, putS_keys _ k x.1 h.1, putL_keys l ks x.2 h.2.2]; rfl
    | r T =>
      show ((putS _ k x.1).2 ++ (putL l ks x.2).2).map (·.1) = _
      rw [List.map_append, putS_keys _ k x.1 h.1, putL_keys l ks x.2 h.2.2]; rfl
    | unit =>
      show ((putS _ k x.1).2 ++ (putL l ks x.2).2).map (·.1) = _
      rw [List.map_append, putS_keys _ k x.1 h.1, putL_keys l ks x.2 h.2.2]; rfl
    | pair A B =>
      show ((putS _ k x.1).2 ++ (putL l ks x.2).2).map (·.1) = _
      rw [List.map_append, putS_keys _ k x.1 h.1, putL_keys l ks x.2 h.2.2]; rfl
    | st A =>
      show ((putS _ k x.1).2 ++ (putL l ks x.2).2).map (·.1) = _
      rw [List.map_append, putS_keys _ k x.1 h.1, putL_keys l ks x.2 h.2.2]; rfl
/-- The slots of the parameters. -/
theorem slots_sw {P : Program} {S : Nat → Prop} : ∀ (l : Lv) (v : SV) {vs : List Value} (i0 : Nat), idxs i0 l = true → SX P st G w S v true vs → ∀ z ∈ slotsU l v, ∃ j v', z = (sk (i0 + j), .sv v') ∧ j < vs.length ∧ SW P st G w S v' (vs.getD j undef)
  | [], v, vs, i0, _, _, z, hz => by cases v <;> cases hz
  | (i, sh) :: l, v, vs, i0, hi, h, z, hz => by
    cases v with
    | pair a b =>
      obtain ⟨c, r, rfl, h1, h2⟩ := h
      simp only [idxs, Bool.and_eq_true] at hi
      have hi0 := Nat.eq_of_beq_eq_true hi.1
      subst hi0
      rcases List.mem_cons.1 hz with hz | hz
      · refine ⟨0, a, hz, by simp, ?_⟩
        show SW P st G w S a (valS a c)
        cases a <;> first | exact ⟨c, rfl, h1⟩ | exact h1.elim
      · obtain ⟨j, v', k1, k2, k3⟩ := slots_sw l b (i + 1) hi.2 h2 z hz
        refine ⟨j + 1, v', by rw [k1]; congr 2; omega, by simpa using k2, by simpa using k3⟩
    | _ => cases hz
theorem slots_keys : ∀ (l : Lv) (v : SV) (i0 : Nat), idxs i0 l = true → ((slotsU l v).map (·.1)).Nodup ∧ ∀ z ∈ slotsU l v, ∃ j v', z = (sk j, .sv v') ∧ i0 ≤ j
  | [], v, i0, _ => by cases v <;> exact ⟨List.nodup_nil, fun z hz => (by cases hz)⟩
  | (i, sh) :: l, v, i0, hi => by
    cases v with
    | pair a b =>
      simp only [idxs, Bool.and_eq_true] at hi
      have hi0 := Nat.eq_of_beq_eq_true hi.1
      subst hi0
      obtain ⟨h1, h2⟩ := slots_keys l b (i + 1) hi.2
      refine ⟨?_, fun z hz => ?_⟩
      · show (sk i :: (slotsU l b).map (·.1)).Nodup
        rw [List.nodup_cons]
        refine ⟨fun hm => ?_, h1⟩
        obtain ⟨z, hz, e⟩ := List.mem_map.1 hm
        obtain ⟨j, v', e2, hj⟩ := h2 z hz
        rw [e2] at e
        have := sk_inj e
        omega
      · rcases List.mem_cons.1 hz with hz | hz
        · exact ⟨i, a, hz, Nat.le_refl _⟩
        · obtain ⟨j, v', k1, k2⟩ := h2 z hz
          exact ⟨j, v', k1, by omega⟩
    | _ => exact ⟨List.nodup_nil, fun z hz => (by cases hz)⟩
theorem entry_invS {P : Program} {ps : Lv} {vals : List Value} {x : den ps.ty} {bs : List Nat} {S : Nat → Prop} {pr nt : Nat} (h : XL P ps w S vals x bs) (hn : bs.Nodup) (hS : ∀ b, S b → b < w.heap.size ∧ b ∉ bs) (hbs : ∀ b ∈ bs, b < w.heap.size) (hok : entSB ps = true) (hlen : ps.length ≤ nt) (hpr : pr ≤ ps.length) :
    ∃ G, Inv ⟨P, w, bs, vals, pr, nt, fun b => S b ∨ w.heap.size ≤ b ∨ b ∈ bs⟩ (entSt ps x) { tmps := vals.toArray ++ Array.replicate (nt - vals.toArray.size) undef, defers := [] } w G := by
  simp only [entSB, Bool.and_eq_true, nodupB_iff] at hok
  obtain ⟨⟨hi, hO⟩, hkn⟩ := hok
  have hvl := XL_len _ h
  let G0 : Gh := ⟨fun _ => undef, fun _ => [], fun _ => 0, fun b => S b ∨ w.heap.size ≤ b ∨ b ∈ bs⟩
  have hfit := kzL_fit (G := G0) ps (vs := vals) hO hvl
  obtain ⟨ge, K⟩ := putL_ok (st := st0) (G := G0) (fun b hb => (hS b hb).1) ps (kzL ps) x hfit h
  have hke := putL_keys ps (kzL ps) x hfit
  have hkn : ((putL ps (kzL ps) x).2.map (·.1)).Nodup := by rw [hke]; exact hkn
  have hkg : (ge.map (·.1)).Nodup := K.keys ▸ hkn
  obtain ⟨hsn, hsk⟩ := slots_keys ps (putL ps (kzL ps) x).1 0 hi
  have bn : (ge.flatMap (·.2.2)).Nodup := K.bls ▸ hn
  let G : Gh := ⟨fun k => match ge.lookup k with | some q => q.1 | none => undef, fun k => match ge.lookup k with | some q => q.2 | none => [], fun k => match ge.lookup k with | some q => q.2.headD 0 | none => 0, fun b => S b ∨ w.heap.size ≤ b ∨ b ∈ bs⟩
  have hga : GA G ge := fun q hq => by
    have := lkp_mem ge hkg (show (q.1, q.2) ∈ ge from hq)
    refine ⟨?_, ?_, ?_⟩
    · show (match ge.lookup q.1 with | some q => q.1 | none => undef) = _; rw [this]
    · show (match ge.lookup q.1 with | some q => q.2 | none => []) = _; rw [this]
    · show (match ge.lookup q.1 with | some q => q.2.headD 0 | none => 0) = _; rw [this]
  have hin : ∀ z ∈ (putL ps (kzL ps) x).2, entSt ps x z.1 = z.2 := fun z hz => upds_in _ _ hkn (by simpa using hz)
  have hcell : ∀ z ∈ (putL ps (kzL ps) x).2, ∀ i, z.1 ≠ sk i := fun z hz i e => by
    obtain ⟨q, _, _, ⟨t, _, _, _, h1, _⟩ | ⟨b, _, _, _, _, _, _, h1, _⟩⟩ := K.cell z hz
    · rw [h1] at e; exact sk_ne_rk _ _ e.symm
    · rw [h1] at e; exact sk_ne_bk _ _ e.symm
  have hslot : ∀ i, entSt ps x (sk i) = upds st0 (slotsU ps (putL ps (kzL ps) x).1) (sk i) := fun i => upds_out _ _ _ fun p hp e => hcell p hp i e
  have hout : ∀ k, (∀ i, k ≠ sk i) → k ∉ (putL ps (kzL ps) x).2.map (·.1) → entSt ps x k = .none := fun k h1 h2 => by
    have e1 : entSt ps x k = upds st0 (slotsU ps (putL ps (kzL ps) x).1) k := upds_out _ _ _ fun p hp e => h2 (List.mem_map.2 ⟨p, hp, e⟩)
    rw [e1, upds_out _ _ _ fun p hp e => ?_]; rfl
    obtain ⟨j, v', e2, _⟩ := hsk p hp
    rw [e2] at e; exact h1 j e.symm
  have hsl : ∀ i, entSt ps x (sk i) = .none ∨ ∃ v, entSt ps x (sk i) = .sv v ∧ (sk i, Cell.sv v) ∈ slotsU ps (putL ps (kzL ps) x).1 := fun i => by
    rw [hslot i]
    by_cases hk : ∃ p ∈ slotsU ps (putL ps (kzL ps) x).1, p.1 = sk i
    · obtain ⟨p, hp, e⟩ := hk
      obtain ⟨j, v', e2, _⟩ := hsk p hp
      rw [e2] at e
      have := sk_inj e
      subst this
      right
      rw [e2] at hp
      exact ⟨v', upds_in _ _ hsn hp, hp⟩
    · left
      rw [upds_out _ _ _ fun p hp e => hk ⟨p, hp, e⟩]; rfl
  have hmem : ∀ k, entSt ps x k ≠ .none → (∀ i, k ≠ sk i) → ∃ z ∈ (putL ps (kzL ps) x).2, z.1 = k := fun k h1 h2 => by
    by_cases hk : k ∈ (putL ps (kzL ps) x).2.map (·.1)
    · obtain ⟨z, hz, e⟩ := List.mem_map.1 hk; exact ⟨z, hz, e⟩
    · exact absurd (hout k h2 hk) h1
  have hns : ∀ k c, entSt ps x k = c → (∀ v, c ≠ .sv v) → c ≠ .none → ∃ z ∈ (putL ps (kzL ps) x).2, z.1 = k := fun k c h1 h2 h3 => by
    refine hmem k (by rw [h1]; exact h3) fun i e => ?_
    subst e
    rcases hsl i with h | ⟨v, h, _⟩
    · rw [h] at h1; exact h3 h1.symm
    · rw [h] at h1; exact h2 v h1.symm
  have hown : ∀ k b, b ∈ ownB (entSt ps x) G k → ∃ z ∈ (putL ps (kzL ps) x).2, z.1 = k := fun k b hb => by
    unfold ownB at hb
    split at hb
    · rename_i g h e l hr; exact hns k _ hr (fun v e => by cases e) (by simp)
    · rename_i g T v hr; exact hns k _ hr (fun v e => by cases e) (by simp)
    · rename_i g hr; exact hns k _ hr (fun v e => by cases e) (by simp)
    · cases hb
  have hz : ∀ z ∈ (putL ps (kzL ps) x).2, ∃ q ∈ ge, q.1 = z.1 ∧ ownB (entSt ps x) G z.1 = q.2.2 := fun z hz => by
    obtain ⟨q, hq, e, h⟩ := K.cell z hz
    refine ⟨q, hq, e, ?_⟩
    have hz2 := hin z hz
    have g := hga q hq
    rw [e] at g
    unfold ownB
    rw [hz2]
    rcases h with ⟨t, g', e', l, h1, _⟩ | ⟨b, g', T, v, blk, arr, ty, h1, h2, _⟩
    · rw [h1]; rw [h1] at g; exact g.2.1
    · rw [h1]; rw [h1] at g
      show [G.bx (bk b)] = _
      rw [g.2.2, h2]; rfl
  have hfz : ∀ b, S b → Fz (entSt ps x) G w b := fun b hb => by
    refine ⟨(hS b hb).1, fun k hk => ?_, .inl hb⟩
    obtain ⟨z, hz1, rfl⟩ := hown k b hk
    obtain ⟨q, hq, _, ho⟩ := hz z hz1
    rw [ho] at hk
    exact (hS b hb).2 (by rw [K.bls]; exact List.mem_flatMap.2 ⟨q, hq, hk⟩)
  have hinst : Inst (putL ps (kzL ps) x).2 ge S w (entSt ps x) G (Fz (entSt ps x) G w) := ⟨hin, hga, hfz, fun b hb => hb.1⟩
  have hsx := K.sx _ _ _ hinst
  have hsize : vals.toArray.size = vals.length := by simp
  have htm : ∀ i, i < vals.length → ({ tmps := vals.toArray ++ Array.replicate (nt - vals.toArray.size) undef, defers := [] } : Act).tmps.getD i undef = vals.getD i undef := fun i hi => by
    show (vals.toArray ++ Array.replicate (nt - vals.toArray.size) undef).getD i undef = _
    simp only [Array.getD_eq_getD_getElem?, List.getD]
    rw [Array.getElem?_append_left (by simpa using hi)]
    simp
  refine ⟨G, { rt := fun k g hh e l hr => ?_, sc := fun i => ?_, bx := fun k g T v hr => ?_, nd := fun k => ?_, dj := fun k k' b h1 h2 => ?_, lt := fun k b hb => ?_, os := rfl, tape := rfl, output := rfl, size := Nat.le_refl _, block := fun _ _ _ => rfl, s0 := rfl, m0 := fun b hb => hb.elim (fun h => .inr (.inl h)) (fun h => .inr (.inr h)), sl := fun i v hv => ?_, df := rfl, sz := ?_, pa := fun i hi => ?_ }⟩
  · obtain ⟨z, hz1, rfl⟩ := hns k _ hr (fun v e => by cases e) (by simp)
    obtain ⟨q, hq, e', hc⟩ := K.cell z hz1
    have hz2 := hin z hz1
    have gg := hga q hq
    rw [e'] at gg
    rw [hz2] at hr
    rcases hc with ⟨t, g', e2, l2, h1, h2, _⟩ | ⟨b, g', T, v, blk, arr, ty, h1, _⟩
    · rw [h1] at hr; cases hr
      rw [gg.1, gg.2.1]; exact h2
    · rw [h1] at hr; cases hr
  · rcases hsl i with h | ⟨v, h, _⟩
    · exact .inr h
    · exact .inl ⟨v, h⟩
  · obtain ⟨z, hz1, rfl⟩ := hns k _ hr (fun v e => by cases e) (by simp)
    obtain ⟨q, hq, e', hc⟩ := K.cell z hz1
    have hz2 := hin z hz1
    have gg := hga q hq
    rw [e'] at gg
    rw [hz2] at hr
    rcases hc with ⟨t, g', e2, l2, h1, _⟩ | ⟨b, g', T', v', blk, arr, ty, h1, h2, h3, h4, h5, h6⟩
    · rw [h1] at hr; cases hr
    · rw [h1] at hr; cases hr
      refine ⟨h3, arr, ty, ?_, h6 _ _ _ hinst⟩
      rw [gg.2.2, h2]; exact h4
  · by_cases hk : ∃ z ∈ (putL ps (kzL ps) x).2, z.1 = k
    · obtain ⟨z, hz1, rfl⟩ := hk
      obtain ⟨q, hq, e, ho⟩ := hz z hz1
      rw [ho]; exact flat_nd bn q hq
    · have : ownB (entSt ps x) G k = [] := List.eq_nil_iff_forall_not_mem.2 fun b hb => hk (hown k b hb)
      rw [this]; exact List.nodup_nil
  · obtain ⟨z, hz1, rfl⟩ := hown k b h1
    obtain ⟨z', hz1', rfl⟩ := hown k' b h2
    obtain ⟨q, hq, e, ho⟩ := hz z hz1
    obtain ⟨q', hq', e', ho'⟩ := hz z' hz1'
    rw [ho] at h1; rw [ho'] at h2
    rw [← e, ← e', flat_dj bn q hq q' hq' b h1 h2]
  · obtain ⟨z, hz1, rfl⟩ := hown k b hb
    obtain ⟨q, hq, e, ho⟩ := hz z hz1
    rw [ho] at hb
    have : b ∈ bs := by rw [K.bls]; exact List.mem_flatMap.2 ⟨q, hq, hb⟩
    exact ⟨hbs b this, .inr this⟩
  · rcases hsl i with h | ⟨v', h, hm⟩
    · rw [h] at hv; cases hv
    · rw [h] at hv; cases hv
      obtain ⟨j, v2, e2, hj, hw⟩ := slots_sw ps _ 0 hi hsx _ hm
      simp only [Prod.mk.injEq, Cell.sv.injEq, Nat.zero_add] at e2
      have := sk_inj e2.1
      subst this
      rw [e2.2, htm i hj]; exact hw
  · show (vals.toArray ++ Array.replicate (nt - vals.toArray.size) undef).size = nt
    rw [Array.size_append, Array.size_replicate, hsize]; omega
  · show (vals.toArray ++ Array.replicate (nt - vals.toArray.size) undef).getD i undef = vals.getD i undef
    exact htm i (by rw [hvl]; exact Nat.lt_of_lt_of_le hi hpr)
theorem outsV_run {α : Type} {u : α} (I : Inv C st a w G) : ∀ (l : Lv) {f : SV → M α}, Rn (outsV l f) st u → ∃ v, SX C.P st G w (Fz st G w) v true (l.map fun p => a.tmps.getD p.1 undef) ∧ Rn (f v) st u
  | [], f, h => ⟨.unit, rfl, h⟩
  | (i, sh) :: l, f, h => by
    unfold outsV at h
    obtain ⟨v, _, hv, h⟩ := slot_run I h
    split at h
    · exact (Rn_fail.1 h).elim
    · rename_i hnt
      obtain ⟨v', k1, k2⟩ := outsV_run I l h
      obtain ⟨c, hc1, hc2⟩ := SW_cells hv (fun b e => hnt b e)
      exact ⟨.pair v v', ⟨c, _, by rw [List.map_cons, hc1], hc2, k1⟩, k2⟩
theorem outV_map (f : Nat → Value) : ∀ (l : Lv) (vs : List Value) (i0 : Nat), idxs i0 l = true → vs.length = l.length → (∀ p ∈ outL l, p.1 < i0 + vs.length → f p.1 = vs.getD (p.1 - i0) undef) → (outL l).map (fun p => f p.1) = outV l vs
  | [], vs, i0, _, hv, _ => by rw [List.length_eq_zero_iff.1 hv]; rfl
  | (i, sh) :: l, [], i0, _, hv, _ => by simp at hv
  | (i, sh) :: l, v :: vs, i0, hi, hv, h => by
    simp only [idxs, Bool.and_eq_true] at hi
    have hi0 := Nat.eq_of_beq_eq_true hi.1
    subst hi0
    have hge : ∀ (l : Lv) (i0 : Nat), idxs i0 l = true → ∀ p ∈ outL l, i0 ≤ p.1 := by
      intro l
      induction l with
      | nil => intro i0 _ p hp; cases hp
      | cons q l ih =>
        intro i0 hi p hp
        obtain ⟨q1, q2⟩ := q
        simp only [idxs, Bool.and_eq_true] at hi
        have e := Nat.eq_of_beq_eq_true hi.1
        have := fun hp => ih (i0 + 1) hi.2 p hp
        cases q2 with
        | bx c =>
          rcases List.mem_cons.1 hp with hp | hp
          · rw [hp]; exact Nat.le_of_eq e.symm
          · have := this hp; omega
        | _ => have := this hp; omega
    have rest := outV_map f l vs (i + 1) hi.2 (by simpa using hv) (fun p hp hlt => by
      have h1 := hge l (i + 1) hi.2 p hp
      have hp' : p ∈ outL ((i, sh) :: l) := by cases sh <;> first | exact hp | exact List.mem_cons_of_mem _ hp
      rw [h p hp' (by simp; omega), show p.1 - i = (p.1 - (i + 1)) + 1 from by omega]; simp)
    cases sh with
    | bx c =>
      show f i :: (outL l).map (fun p => f p.1) = v :: outV l vs
      rw [rest, h (i, .bx c) List.mem_cons_self (by simp)]; simp
    | _ => exact rest
/-- The boxes among the parameters stand in slots that stay as they are. -/
def protB (ps : Lv) (pr : Nat) : Bool := (outL ps).all fun p => Nat.blt p.1 pr
theorem fin_shape {P : Program} {ps rl : Lv} {vals : List Value} {bs : List Nat} {S : Nat → Prop} {w0 : World} {fn : Func} {y : den rl.ty × den (outL ps).ty} {pr nt : Nat} (O : CfgOk ⟨P, w0, bs, vals, pr, nt, fun b => S b ∨ w0.heap.size ≤ b ∨ b ∈ bs⟩ cf) (I : Inv ⟨P, w0, bs, vals, pr, nt, fun b => S b ∨ w0.heap.size ≤ b ∨ b ∈ bs⟩ st a w G)
    {F : den ps.ty → Option (den rl.ty × den (outL ps).ty)} (hi : idxs 0 ps = true) (hp : protB ps pr = true) (hvl : vals.length = ps.length) (h : Rn (finS cf fn.results.toList ps rl) st y) : ∃ v, (results fn a.tmps).run P w = .ok v w ∧ ShRet P ⟨ps, rl, F⟩ vals y.1 y.2 bs S w0 v w := by
  unfold finS at h
  obtain ⟨v, vs, h1, h2, h⟩ := resSV_run O I _ h
  obtain ⟨x, ks, gs, od, d1, h, A⟩ := rdL_run I.toInvM rl v _ h h2
  obtain ⟨u, h3, h⟩ := outsV_run I (outL ps) h
  obtain ⟨z, ks', gs', od', d2, h, B⟩ := rdL_run I.toInvM (outL ps) u _ h h3
  rw [Rn_bif] at h
  rcases h with ⟨hb, h⟩ | ⟨_, h⟩
  case inr => exact (Rn_fail.1 h).elim
  rw [Rn_ret] at h
  subst h
  rw [nodupB_iff] at hb
  obtain ⟨hodn, _, hodg⟩ := List.nodup_append.1 hb
  have hov : (outL ps).map (fun p => a.tmps.getD p.1 undef) = outV ps vals := outV_map (fun i => a.tmps.getD i undef) ps vals 0 hi hvl fun p hp' _ => by
    have := List.all_eq_true.1 hp p hp'
    rw [Nat.sub_zero]
    exact I.pa p.1 (Nat.le_of_ble_eq_true this)
  have hown : ∀ b, b ∈ od.flatMap (ownB st G) ++ od'.flatMap (ownB st G) → ∃ k ∈ od ++ od', b ∈ ownB st G k := fun b hb => by
    rcases List.mem_append.1 hb with hb | hb
    · obtain ⟨k, hk, hb⟩ := List.mem_flatMap.1 hb; exact ⟨k, List.mem_append_left _ hk, hb⟩
    · obtain ⟨k, hk, hb⟩ := List.mem_flatMap.1 hb; exact ⟨k, List.mem_append_right _ hk, hb⟩
  have s0 : ∀ b, G.s0 b → S b ∨ w0.heap.size ≤ b ∨ b ∈ bs := fun b hb => by rw [I.s0] at hb; exact hb
  have hS1 : ∀ b, Fz st G w b → b < w.heap.size ∧ (S b ∨ w0.heap.size ≤ b ∨ b ∈ bs) ∧ b ∉ od.flatMap (ownB st G) ++ od'.flatMap (ownB st G) := fun b hb => ⟨hb.1, s0 b hb.2.2, fun hm => by
    obtain ⟨k, _, hk⟩ := hown b hm
    exact hb.2.1 k hk⟩
  have hS2 : ∀ (gs2 : List (Nat × Nat)), (∀ p ∈ gs2, p ∈ gs ++ gs') → (∀ p ∈ gs2, RT st p) → ∀ p ∈ gs2, ∀ b ∈ G.bl (rk p.1), b < w.heap.size ∧ (S b ∨ w0.heap.size ≤ b ∨ b ∈ bs) ∧ b ∉ od.flatMap (ownB st G) ++ od'.flatMap (ownB st G) := fun gs2 hsub hrt p hp b hb => by
    have ho : b ∈ ownB st G (rk p.1) := by rw [own_of_RT (hrt p hp)]; exact hb
    refine ⟨(I.lt _ _ ho).1, s0 b (I.m0 _ (I.lt _ _ ho).2), fun hm => ?_⟩
    obtain ⟨k, hk, hbk⟩ := hown b hm
    have := I.dj _ _ _ hbk ho
    subst this
    exact hodg _ hk _ (List.mem_map.2 ⟨p, hsub p hp, rfl⟩) rfl
  refine ⟨retV vs, ?_, ⟨vs, _, _, rfl, A.xs _ hS1 (fun b hb => hb.1) (hS2 gs (fun p hp => List.mem_append_left _ hp) A.gone), ?_, ?_, fun b hb => ?_⟩, I.os, I.tape, I.output, I.size, I.block⟩
  · rw [results_run h1]; rfl
  · have := B.xs _ hS1 (fun b hb => hb.1) (hS2 gs' (fun p hp => List.mem_append_right _ hp) B.gone)
    rw [hov] at this
    exact this
  · rw [← List.flatMap_append]; exact own_nd I.toInvM _ hodn
  · obtain ⟨k, _, hk⟩ := hown b hb
    exact ⟨(I.lt _ _ hk).2.symm, (I.lt _ _ hk).1⟩
/-- A function's contract by shapes: out of its code, and the evaluator's run of it. -/
theorem sh_ok {P : Program} {cf : Cfg} {f : FuncId} {fn : Func} {c : Code} {ps rl : Lv} {en : Env (den rl.ty × den (outL ps).ty)} {F : den ps.ty → Option (den rl.ty × den (outL ps).ty)} (hf : P.funcs[f]? = some fn) (hname : (fn.name == "runtime.NumGoroutine") = false) (hb : fn.body = some c)
    (hT : ∀ t T, cf.ty t = some T → TyOk P cf.ty t T) (hfn : ∀ g sp, cf.fn g = some sp → FnOk P g sp) (hfs : ∀ g sp, cf.fs g = some sp → ShOk P g sp) (hmix : P.follows .mixedOrders = true) (hnt : cf.nt = fn.ntmps) (hpr : cf.prot ≤ ps.length) (hprm : protB ps cf.prot = true) (hlen : ps.length ≤ cf.nt) (hent : entSB ps = true)
    (hl : ∀ C, C.P = P → CfgOk C cf → LpOk C en c) (hF : ∀ x y, F x = some y → evFnS cf ps rl en fn.results.toList c x = some y) : ShOk P f ⟨ps, rl, F⟩ := by
  intro w vals x y z bs S hX hnd hS hbs hy
  have O : CfgOk ⟨P, w, bs, vals, cf.prot, cf.nt, fun b => S b ∨ w.heap.size ≤ b ∨ b ∈ bs⟩ cf := ⟨rfl, rfl, hT, hfn, hfs⟩
  have hX : XL P ps w S vals x bs := hX
  have hvl : vals.length = ps.length := XL_len _ hX
  have hi : idxs 0 ps = true := by simp only [entSB, Bool.and_eq_true] at hent; exact hent.1.1
  obtain ⟨G, I⟩ := entry_invS (nt := cf.nt) (pr := cf.prot) hX hnd hS hbs hent hlen hpr
  intro o a next Q hn
  rw [run_enter hf hname hb, Oper.upon_enter]
  refine calls_of_wp hf hb ?_
  have hev := hF x (y, z) hy
  unfold evFnS at hev
  rw [← hnt]
  have last : ∀ st' a' w' G', (finS cf fn.results.toList ps rl).go st' [] (fun _ y => some y) = some (y, z) → Inv ⟨P, w, bs, vals, cf.prot, cf.nt, fun b => S b ∨ w.heap.size ≤ b ∨ b ∈ bs⟩ st' a' w' G' → ∃ v, (results fn a'.tmps).run P w' = .ok v w' ∧ ShRet P ⟨ps, rl, F⟩ vals y z bs S w v w' := fun st' a' w' G' h I' => by
    obtain ⟨rd, u, h1, h2⟩ := go_run _ _ h
    simp only [Option.some.injEq] at h2
    subst h2
    exact fin_shape O I' hi hprm hvl ⟨rd, h1⟩
  refine evC_sound O hmix c (hl _ rfl O) hev I (fun st' a' w' G' h I' => ?_) (fun i st' a' w' G' h I' => by cases h) (fun st' a' w' G' h I' => ?_)
  · obtain ⟨v, k1, k2⟩ := last st' a' w' G' h I'
    exact ⟨I'.df, v, k1, hn v w' k2⟩
  · obtain ⟨v, k1, k2⟩ := last st' a' w' G' h I'
    exact ⟨I'.df, v, k1, hn v w' k2⟩
theorem shOk_none {P : Program} {f : Nat} {ps rl : Lv} : ShOk P f ⟨ps, rl, fun _ => none⟩ := by
  intro w vs x y z bs S _ _ _ _ hy; cases hy
/-- Callees with contracts by shapes. -/
def ShsOk (P : Program) : List (Nat × ShSpec) → Prop
  | [] => True
  | p :: l => ShOk P p.1 p.2 ∧ ShsOk P l
theorem shs_ok {P : Program} : ∀ {l : List (Nat × ShSpec)}, ShsOk P l → ∀ g sp, lk l g = some sp → ShOk P g sp
  | [], _, g, sp, h => by cases h
  | (k, c) :: l, hl, g, sp, h => by
    unfold lk at h
    cases hb : Nat.beq k g
    · rw [hb] at h; exact shs_ok hl.2 g sp h
    · rw [hb] at h
      simp only [cond_true, Option.some.injEq] at h
      have := Nat.eq_of_beq_eq_true hb
      subst h; subst this; exact hl.1
end
end Go.Proofs.YtjbpdhfoeomabaaGreat.E
namespace Go.Proofs.YtjbpdhfoeomabaaGreat.E
open Go Go.Proofs Go.Proofs.YtjbpdhfoeomabaaGreat
set_option maxRecDepth 100000
noncomputable def tys : List (Nat × Ty) := [(2, (.int .i64)), (3, (.int .i64)), (4, .bool), (5, (.int .u8)), (9, .str), (22, (.sl (.int .u8))), (24, (.sl (.st (.pair (.st (.pair (.int .i64) (.pair (.int .i64) .unit))) (.pair (.sl (.int .i64)) .unit))))), (26, (.st (.pair (.int .i64) (.pair (.sl (.st (.pair (.st (.pair (.int .i64) (.pair (.int .i64) .unit))) (.pair (.sl (.int .i64)) .unit)))) .unit)))), (28, (.sl (.int .i64))), (37, (.int .u64)), (39, (.st (.pair (.int .i64) (.pair (.int .i64) .unit)))), (46, (.st (.pair (.int .i64) (.pair (.int .i64) .unit)))), (53, (.sl .str)), (60, (.sl (.st (.pair (.int .i64) (.pair (.int .i64) .unit))))), (73, (.st (.pair (.st (.pair (.int .i64) (.pair (.int .i64) .unit))) (.pair (.sl (.int .i64)) .unit)))), (76, (.fn (.pair (.int .i64) .unit) .bool)), (111, (.sl .bool)), (114, (.st (.pair (.sl (.int .u8)) (.pair (.int .i64) (.pair (.int .u64) .unit))))), (144, (.sl (.st (.pair .str (.pair .str .unit))))), (147, (.st (.pair .str (.pair .str .unit)))), (173, (.int .u32))]
theorem tysOk : ∀ t T, lk tys t = some T → TyOk Tryz.prog (lk tys) t T := tys_ok (by kernel_rfl)
noncomputable def as_s_l05Depth : Ty := (.pair .str .unit)
noncomputable def sp_s_l05Depth (F : (ByteArray × Unit) → Option Int) : FnSpec := ⟨as_s_l05Depth, [false], (.int .i64), F⟩
noncomputable def as_i_Func_made : Ty := (.pair (.st (.pair (.int .i64) (.pair (.int .i64) .unit))) (.pair (.int .i64) (.pair (.sl (.int .i64)) (.pair (.sl (.int .i64)) (.pair (.int .i64) (.pair (.fn (.pair (.int .i64) .unit) .bool) .unit))))))
noncomputable def sp_i_Func_made (F : ((Int × Int × Unit) × Int × (List Int) × (List Int) × Int × ((Int × Unit) → Option Bool) × Unit) → Option Bool) : FnSpec := ⟨as_i_Func_made, [false, false, false, false, false, false], .bool, F⟩
noncomputable def as_s_l05Dual : Ty := (.pair .str .unit)
noncomputable def sp_s_l05Dual (F : (ByteArray × Unit) → Option ByteArray) : FnSpec := ⟨as_s_l05Dual, [false], .str, F⟩
noncomputable def as_s_l05End : Ty := (.pair .str (.pair (.int .i64) .unit))
noncomputable def sp_s_l05End (F : (ByteArray × Int × Unit) → Option Int) : FnSpec := ⟨as_s_l05End, [false, false], (.int .i64), F⟩
noncomputable def as_s_l06Made : Ty := (.pair (.st (.pair (.int .i64) (.pair (.int .i64) .unit))) (.pair (.st (.pair (.int .i64) (.pair (.int .i64) .unit))) (.pair (.sl (.int .i64)) (.pair (.sl (.int .i64)) .unit))))
noncomputable def sp_s_l06Made (F : ((Int × Int × Unit) × (Int × Int × Unit) × (List Int) × (List Int) × Unit) → Option Int) : FnSpec := ⟨as_s_l06Made, [false, false, false, false], (.int .i64), F⟩
noncomputable def as_s_l05Func : Ty := (.pair (.int .i64) (.pair .str .unit))
noncomputable def sp_s_l05Func (F : (Int × ByteArray × Unit) → Option (Int × Int × Unit)) : FnSpec := ⟨as_s_l05Func, [false, false], (.st (.pair (.int .i64) (.pair (.int .i64) .unit))), F⟩
end Go.Proofs.YtjbpdhfoeomabaaGreat.E
namespace Go.Proofs.YtjbpdhfoeomabaaGreat.E
open Go Go.Proofs Go.Proofs.YtjbpdhfoeomabaaGreat
set_option maxRecDepth 100000
set_option linter.unusedVariables false
noncomputable def as_i_bit : Ty := (.pair (.int .i64) (.pair (.int .i64) .unit))
noncomputable def sp_i_bit (F : (Int × Int × Unit) → Option Int) : FnSpec := ⟨as_i_bit, [false, false], (.int .i64), F⟩
noncomputable def i_bit (K : Nat) (x : (Int × Int × Unit)) : Option Int :=
    (if (decide ((0 : Int) ≤ x.2.1)) = true then
    some (bitI .and .i64 (shrI .i64 x.1 x.2.1) (1 : Int))
    else
    none)
noncomputable def rv_i_bit : Lv := [(4, (.v (.int .i64)))]
noncomputable def sg_i_bit {R : Type} (K : Nat) (k : Nat) : List (Nat × SegS R) := []
noncomputable def su_i_bit : List (Nat × Unit) := []
noncomputable def en_i_bit {R : Type} (K : Nat) (k : Nat) : Env R := { L := lk [], X := lk [], S := lk (sg_i_bit K k), rv := rv_i_bit }
noncomputable def cf_i_bit (K : Nat) : Cfg := { ty := lk tys, fn := lk [], fs := lk [], prot := 0, nt := Tryz.f131.ntmps }
theorem e_i_bit (K : Nat) (x : den as_i_bit) : i_bit K x = evFn (cf_i_bit K) as_i_bit [false, false] (.int .i64) (en_i_bit K K) Tryz.f131.results.toList (bodyOf Tryz.f131) x := by kernel_rfl
theorem ok_i_bit (K : Nat) : FnOk Tryz.prog 131 (sp_i_bit (i_bit K)) :=
  fn_ok (cf := cf_i_bit K) (en := en_i_bit K K) (c := bodyOf Tryz.f131) Tryz.func131 (by kernel_rfl) (by kernel_rfl) tysOk (fns_ok (l := []) trivial) (shs_ok (l := []) trivial) (by kernel_rfl) rfl (Nat.le_of_ble_eq_true (by kernel_rfl)) (by kernel_rfl) (of_decide_eq_true (by kernel_rfl)) (by decide) (fun C hP O => lpOk_of (en := en_i_bit K K) (S := hasK su_i_bit) (fun i => hasK_lk (sg_i_bit K K) i) _ (by rw [show partsOf (hasK su_i_bit) (bodyOf Tryz.f131) = [] from by kernel_rfl]; exact trivial)) (fun x y h => by rw [← e_i_bit]; exact h)
noncomputable def as_i_Relation_has : Ty := (.pair (.st (.pair (.int .i64) (.pair (.int .i64) .unit))) (.pair (.int .i64) .unit))
noncomputable def sp_i_Relation_has (F : ((Int × Int × Unit) × Int × Unit) → Option Bool) : FnSpec := ⟨as_i_Relation_has, [false, false], .bool, F⟩
noncomputable def i_Relation_has (K : Nat) (x : ((Int × Int × Unit) × Int × Unit)) : Option Bool :=
    (i_bit K (x.1.2.1, x.2.1, ())).bind fun y1 =>
    some (decide (y1 = (1 : Int)))
noncomputable def rv_i_Relation_has : Lv := [(4, (.v .bool))]
noncomputable def sg_i_Relation_has {R : Type} (K : Nat) (k : Nat) : List (Nat × SegS R) := []
noncomputable def su_i_Relation_has : List (Nat × Unit) := []
noncomputable def en_i_Relation_has {R : Type} (K : Nat) (k : Nat) : Env R := { L := lk [], X := lk [], S := lk (sg_i_Relation_has K k), rv := rv_i_Relation_has }
noncomputable def cf_i_Relation_has (K : Nat) : Cfg := { ty := lk tys, fn := lk [(131, sp_i_bit (i_bit K))], fs := lk [], prot := 0, nt := Tryz.f71.ntmps }
theorem e_i_Relation_has (K : Nat) (x : den as_i_Relation_has) : i_Relation_has K x = evFn (cf_i_Relation_has K) as_i_Relation_has [false, false] .bool (en_i_Relation_has K K) Tryz.f71.results.toList (bodyOf Tryz.f71) x := by kernel_rfl
theorem ok_i_Relation_has (K : Nat) : FnOk Tryz.prog 71 (sp_i_Relation_has (i_Relation_has K)) :=
  fn_ok (cf := cf_i_Relation_has K) (en := en_i_Relation_has K K) (c := bodyOf Tryz.f71) Tryz.func71 (by kernel_rfl) (by kernel_rfl) tysOk (fns_ok (l := [(131, sp_i_bit (i_bit K))]) ⟨ok_i_bit K, trivial⟩) (shs_ok (l := []) trivial) (by kernel_rfl) rfl (Nat.le_of_ble_eq_true (by kernel_rfl)) (by kernel_rfl) (of_decide_eq_true (by kernel_rfl)) (by decide) (fun C hP O => lpOk_of (en := en_i_Relation_has K K) (S := hasK su_i_Relation_has) (fun i => hasK_lk (sg_i_Relation_has K K) i) _ (by rw [show partsOf (hasK su_i_Relation_has) (bodyOf Tryz.f71) = [] from by kernel_rfl]; exact trivial)) (fun x y h => by rw [← e_i_Relation_has]; exact h)
noncomputable def as_i_Clause_satisfied : Ty := (.pair (.st (.pair (.st (.pair (.int .i64) (.pair (.int .i64) .unit))) (.pair (.sl (.int .i64)) .unit))) (.pair (.int .i64) .unit))
noncomputable def sp_i_Clause_satisfied (F : (((Int × Int × Unit) × (List Int) × Unit) × Int × Unit) → Option Bool) : FnSpec := ⟨as_i_Clause_satisfied, [false, false], .bool, F⟩
noncomputable def i_Clause_satisfied_l3 {R : Type} (K : Nat) : Nat → Int → ((Int × Int × Unit) × (List Int) × Unit) → Int → (List Int) → Int → Int → (((Int × Int × Unit) × (List Int) × Unit) → Int → Option R) → Option R
  | 0, _, _, _, _, _, _, _ => none
  | k + 1, v1, v2, v5, v9, v10, v11, kx0 =>
    (if (decide (v11 < v10)) = true then
    (if (bnds v11 (v9.length : Int)) = true then
    (i_bit K (v1, (v9.getD v11.toNat (0 : Int)), ())).bind fun y1 =>
    (if (decide ((0 : Int) ≤ v11)) = true then
    i_Clause_satisfied_l3 K k v1 v2 (bitI .or .i64 v5 (shlI .i64 y1 v11)) v9 v10 (IntKind.i64.wrap (v11 + (1 : Int))) kx0
    else
    none)
    else
    none)
    else
    kx0 v2 v5)
noncomputable def i_Clause_satisfied (K : Nat) (x : (((Int × Int × Unit) × (List Int) × Unit) × Int × Unit)) : Option Bool :=
    i_Clause_satisfied_l3 K K x.2.1 x.1 (0 : Int) x.1.2.1 (x.1.2.1.length : Int) (0 : Int) (fun z2 z3 =>
    (i_Relation_has K (z2.1, z3, ())).bind fun y4 =>
    some y4)
noncomputable def lv_i_Clause_satisfied_L3 : Lv := [(1, (.v (.int .i64))), (2, (.bx (.v (.st (.pair (.st (.pair (.int .i64) (.pair (.int .i64) .unit))) (.pair (.sl (.int .i64)) .unit)))))), (5, (.v (.int .i64))), (9, (.v (.sl (.int .i64)))), (10, (.v (.int .i64))), (11, (.v (.int .i64)))]
noncomputable def lv_i_Clause_satisfied_X0 : Lv := [(2, (.bx (.v (.st (.pair (.st (.pair (.int .i64) (.pair (.int .i64) .unit))) (.pair (.sl (.int .i64)) .unit)))))), (5, (.v (.int .i64)))]
noncomputable def rv_i_Clause_satisfied : Lv := [(4, (.v .bool))]
noncomputable def gi_Clause_satisfied_l3 {R : Type} (K : Nat) (k : Nat) (x : den lv_i_Clause_satisfied_L3.ty) (kx : Nat → St → Option R) (kr : St → Option R) : Option R := i_Clause_satisfied_l3 K k x.1 x.2.1 x.2.2.1 x.2.2.2.1 x.2.2.2.2.1 x.2.2.2.2.2.1 (fun z0 z1 => kx 0 (mkSt lv_i_Clause_satisfied_X0 (z0, z1, ())))
noncomputable def sg_i_Clause_satisfied {R : Type} (K : Nat) (k : Nat) : List (Nat × SegS R) := []
noncomputable def su_i_Clause_satisfied : List (Nat × Unit) := []
noncomputable def en_i_Clause_satisfied {R : Type} (K : Nat) (k : Nat) : Env R := { L := lk [(3, mkLoop lv_i_Clause_satisfied_L3 (gi_Clause_satisfied_l3 K k))], X := lk [(0, lv_i_Clause_satisfied_X0)], S := lk (sg_i_Clause_satisfied K k), rv := rv_i_Clause_satisfied }
noncomputable def cf_i_Clause_satisfied (K : Nat) : Cfg := { ty := lk tys, fn := lk [(71, sp_i_Relation_has (i_Relation_has K)), (131, sp_i_bit (i_bit K))], fs := lk [], prot := 0, nt := Tryz.f119.ntmps }
noncomputable def c_i_Clause_satisfied_L3 : Code := nthC (partsOf (hasK su_i_Clause_satisfied) (bodyOf Tryz.f119)) 0
theorem ei_Clause_satisfied_l3 {R : Type} (K : Nat) (k : Nat) (x : den lv_i_Clause_satisfied_L3.ty) (kx : Nat → St → Option R) (kr : St → Option R) : gi_Clause_satisfied_l3 K (k + 1) x kx kr = evC (cf_i_Clause_satisfied K) (en_i_Clause_satisfied K k) c_i_Clause_satisfied_L3 (mkSt lv_i_Clause_satisfied_L3 x) (fun s => mkLoop lv_i_Clause_satisfied_L3 (gi_Clause_satisfied_l3 K k) s kx kr) kx kr := by kernel_rfl
theorem si_Clause_satisfied_l3 {R : Type} (K : Nat) (C : Cx) (hP : C.P = Tryz.prog) (O : CfgOk C (cf_i_Clause_satisfied K)) (k : Nat) : LpS C (R := R) (mkLoop lv_i_Clause_satisfied_L3 (gi_Clause_satisfied_l3 K k)) c_i_Clause_satisfied_L3 :=
  loop_sound O (by rw [hP]; kernel_rfl) (fun x kx kr => rfl) (ei_Clause_satisfied_l3 K) (fun k => lpOk_of (en := en_i_Clause_satisfied K k) (S := hasK su_i_Clause_satisfied) (fun i => hasK_lk (sg_i_Clause_satisfied K k) i) _ (by rw [show partsOf (hasK su_i_Clause_satisfied) c_i_Clause_satisfied_L3 = [] from by kernel_rfl]; exact trivial)) k
theorem e_i_Clause_satisfied (K : Nat) (x : den as_i_Clause_satisfied) : i_Clause_satisfied K x = evFn (cf_i_Clause_satisfied K) as_i_Clause_satisfied [false, false] .bool (en_i_Clause_satisfied K K) Tryz.f119.results.toList (bodyOf Tryz.f119) x := by kernel_rfl
theorem ok_i_Clause_satisfied (K : Nat) : FnOk Tryz.prog 119 (sp_i_Clause_satisfied (i_Clause_satisfied K)) :=
  fn_ok (cf := cf_i_Clause_satisfied K) (en := en_i_Clause_satisfied K K) (c := bodyOf Tryz.f119) Tryz.func119 (by kernel_rfl) (by kernel_rfl) tysOk (fns_ok (l := [(71, sp_i_Relation_has (i_Relation_has K)), (131, sp_i_bit (i_bit K))]) ⟨ok_i_Relation_has K, ⟨ok_i_bit K, trivial⟩⟩) (shs_ok (l := []) trivial) (by kernel_rfl) rfl (Nat.le_of_ble_eq_true (by kernel_rfl)) (by kernel_rfl) (of_decide_eq_true (by kernel_rfl)) (by decide) (fun C hP O => lpOk_of (en := en_i_Clause_satisfied K K) (S := hasK su_i_Clause_satisfied) (fun i => hasK_lk (sg_i_Clause_satisfied K K) i) _ (by rw [show partsOf (hasK su_i_Clause_satisfied) (bodyOf Tryz.f119) = [(true, c_i_Clause_satisfied_L3)] from by kernel_rfl]; exact (lpL_loop (f := mkLoop lv_i_Clause_satisfied_L3 (gi_Clause_satisfied_l3 K K)) (by kernel_rfl) (si_Clause_satisfied_l3 K C hP O K) trivial))) (fun x y h => by rw [← e_i_Clause_satisfied]; exact h)
noncomputable def as_i_within : Ty := (.pair (.int .i64) (.pair (.int .i64) (.pair (.int .i64) .unit)))
noncomputable def sp_i_within (F : (Int × Int × Int × Unit) → Option Bool) : FnSpec := ⟨as_i_within, [false, false, false], .bool, F⟩
noncomputable def i_within (K : Nat) (x : (Int × Int × Int × Unit)) : Option Bool :=
    (if (decide (x.1 ≥ x.2.1)) = true then
    some (decide (x.1 ≤ x.2.2.1))
    else
    some false)
noncomputable def rv_i_within : Lv := [(6, (.v .bool))]
noncomputable def sg_i_within {R : Type} (K : Nat) (k : Nat) : List (Nat × SegS R) := []
noncomputable def su_i_within : List (Nat × Unit) := []
noncomputable def en_i_within {R : Type} (K : Nat) (k : Nat) : Env R := { L := lk [], X := lk [], S := lk (sg_i_within K k), rv := rv_i_within }
noncomputable def cf_i_within (K : Nat) : Cfg := { ty := lk tys, fn := lk [], fs := lk [], prot := 0, nt := Tryz.f60.ntmps }
theorem e_i_within (K : Nat) (x : den as_i_within) : i_within K x = evFn (cf_i_within K) as_i_within [false, false, false] .bool (en_i_within K K) Tryz.f60.results.toList (bodyOf Tryz.f60) x := by kernel_rfl
theorem ok_i_within (K : Nat) : FnOk Tryz.prog 60 (sp_i_within (i_within K)) :=
  fn_ok (cf := cf_i_within K) (en := en_i_within K K) (c := bodyOf Tryz.f60) Tryz.func60 (by kernel_rfl) (by kernel_rfl) tysOk (fns_ok (l := []) trivial) (shs_ok (l := []) trivial) (by kernel_rfl) rfl (Nat.le_of_ble_eq_true (by kernel_rfl)) (by kernel_rfl) (of_decide_eq_true (by kernel_rfl)) (by decide) (fun C hP O => lpOk_of (en := en_i_within K K) (S := hasK su_i_within) (fun i => hasK_lk (sg_i_within K K) i) _ (by rw [show partsOf (hasK su_i_within) (bodyOf Tryz.f60) = [] from by kernel_rfl]; exact trivial)) (fun x y h => by rw [← e_i_within]; exact h)
noncomputable def as_slices_IndexFunc_impl_Clause : Ty := (.pair (.sl (.st (.pair (.st (.pair (.int .i64) (.pair (.int .i64) .unit))) (.pair (.sl (.int .i64)) .unit)))) (.pair (.fn (.pair (.st (.pair (.st (.pair (.int .i64) (.pair (.int .i64) .unit))) (.pair (.sl (.int .i64)) .unit))) .unit) .bool) .unit))
noncomputable def sp_slices_IndexFunc_impl_Clause (F : ((List ((Int × Int × Unit) × (List Int) × Unit)) × ((((Int × Int × Unit) × (List Int) × Unit) × Unit) → Option Bool) × Unit) → Option Int) : FnSpec := ⟨as_slices_IndexFunc_impl_Clause, [false, false], (.int .i64), F⟩
noncomputable def slices_IndexFunc_impl_Clause_l2 {R : Type} (K : Nat) : Nat → (List ((Int × Int × Unit) × (List Int) × Unit)) → ((((Int × Int × Unit) × (List Int) × Unit) × Unit) → Option Bool) → Int → Int → (Option R) → (Int → Option R) → Option R
  | 0, _, _, _, _, _, _ => none
  | k + 1, v0, v1, v7, v8, kx0, kr =>
    (if (decide (v8 < v7)) = true then
    (if (bnds v8 (v0.length : Int)) = true then
    let x1 := (v0.getD v8.toNat (((0 : Int), (0 : Int), ()), ([] : List Int), ()))
    (v1 (x1, ())).bind fun y2 =>
    (if y2 = true then
    kr v8
    else
    slices_IndexFunc_impl_Clause_l2 K k v0 v1 v7 (IntKind.i64.wrap (v8 + (1 : Int))) kx0 kr)
    else
    none)
    else
    kx0)
noncomputable def slices_IndexFunc_impl_Clause (K : Nat) (x : ((List ((Int × Int × Unit) × (List Int) × Unit)) × ((((Int × Int × Unit) × (List Int) × Unit) × Unit) → Option Bool) × Unit)) : Option Int :=
    slices_IndexFunc_impl_Clause_l2 K K x.1 x.2.1 (x.1.length : Int) (0 : Int) (some (-1 : Int)) (fun z3 =>
    some z3)
noncomputable def lv_slices_IndexFunc_impl_Clause_L2 : Lv := [(0, (.v (.sl (.st (.pair (.st (.pair (.int .i64) (.pair (.int .i64) .unit))) (.pair (.sl (.int .i64)) .unit)))))), (1, (.v (.fn (.pair (.st (.pair (.st (.pair (.int .i64) (.pair (.int .i64) .unit))) (.pair (.sl (.int .i64)) .unit))) .unit) .bool))), (7, (.v (.int .i64))), (8, (.v (.int .i64)))]
noncomputable def lv_slices_IndexFunc_impl_Clause_X0 : Lv := []
noncomputable def rv_slices_IndexFunc_impl_Clause : Lv := [(4, (.v (.int .i64)))]
noncomputable def gslices_IndexFunc_impl_Clause_l2 {R : Type} (K : Nat) (k : Nat) (x : den lv_slices_IndexFunc_impl_Clause_L2.ty) (kx : Nat → St → Option R) (kr : St → Option R) : Option R := slices_IndexFunc_impl_Clause_l2 K k x.1 x.2.1 x.2.2.1 x.2.2.2.1 (kx 0 (mkSt lv_slices_IndexFunc_impl_Clause_X0 ())) (fun z0 => kr (mkSt rv_slices_IndexFunc_impl_Clause (z0, ())))
noncomputable def sg_slices_IndexFunc_impl_Clause {R : Type} (K : Nat) (k : Nat) : List (Nat × SegS R) := []
noncomputable def su_slices_IndexFunc_impl_Clause : List (Nat × Unit) := []
noncomputable def en_slices_IndexFunc_impl_Clause {R : Type} (K : Nat) (k : Nat) : Env R := { L := lk [(2, mkLoop lv_slices_IndexFunc_impl_Clause_L2 (gslices_IndexFunc_impl_Clause_l2 K k))], X := lk [(0, lv_slices_IndexFunc_impl_Clause_X0)], S := lk (sg_slices_IndexFunc_impl_Clause K k), rv := rv_slices_IndexFunc_impl_Clause }
noncomputable def cf_slices_IndexFunc_impl_Clause (K : Nat) : Cfg := { ty := lk tys, fn := lk [], fs := lk [], prot := 0, nt := Tryz.f122.ntmps }
noncomputable def c_slices_IndexFunc_impl_Clause_L2 : Code := nthC (partsOf (hasK su_slices_IndexFunc_impl_Clause) (bodyOf Tryz.f122)) 0
theorem eslices_IndexFunc_impl_Clause_l2 {R : Type} (K : Nat) (k : Nat) (x : den lv_slices_IndexFunc_impl_Clause_L2.ty) (kx : Nat → St → Option R) (kr : St → Option R) : gslices_IndexFunc_impl_Clause_l2 K (k + 1) x kx kr = evC (cf_slices_IndexFunc_impl_Clause K) (en_slices_IndexFunc_impl_Clause K k) c_slices_IndexFunc_impl_Clause_L2 (mkSt lv_slices_IndexFunc_impl_Clause_L2 x) (fun s => mkLoop lv_slices_IndexFunc_impl_Clause_L2 (gslices_IndexFunc_impl_Clause_l2 K k) s kx kr) kx kr := by kernel_rfl
theorem sslices_IndexFunc_impl_Clause_l2 {R : Type} (K : Nat) (C : Cx) (hP : C.P = Tryz.prog) (O : CfgOk C (cf_slices_IndexFunc_impl_Clause K)) (k : Nat) : LpS C (R := R) (mkLoop lv_slices_IndexFunc_impl_Clause_L2 (gslices_IndexFunc_impl_Clause_l2 K k)) c_slices_IndexFunc_impl_Clause_L2 :=
  loop_sound O (by rw [hP]; kernel_rfl) (fun x kx kr => rfl) (eslices_IndexFunc_impl_Clause_l2 K) (fun k => lpOk_of (en := en_slices_IndexFunc_impl_Clause K k) (S := hasK su_slices_IndexFunc_impl_Clause) (fun i => hasK_lk (sg_slices_IndexFunc_impl_Clause K k) i) _ (by rw [show partsOf (hasK su_slices_IndexFunc_impl_Clause) c_slices_IndexFunc_impl_Clause_L2 = [] from by kernel_rfl]; exact trivial)) k
theorem e_slices_IndexFunc_impl_Clause (K : Nat) (x : den as_slices_IndexFunc_impl_Clause) : slices_IndexFunc_impl_Clause K x = evFn (cf_slices_IndexFunc_impl_Clause K) as_slices_IndexFunc_impl_Clause [false, false] (.int .i64) (en_slices_IndexFunc_impl_Clause K K) Tryz.f122.results.toList (bodyOf Tryz.f122) x := by kernel_rfl
theorem ok_slices_IndexFunc_impl_Clause (K : Nat) : FnOk Tryz.prog 122 (sp_slices_IndexFunc_impl_Clause (slices_IndexFunc_impl_Clause K)) :=
  fn_ok (cf := cf_slices_IndexFunc_impl_Clause K) (en := en_slices_IndexFunc_impl_Clause K K) (c := bodyOf Tryz.f122) Tryz.func122 (by kernel_rfl) (by kernel_rfl) tysOk (fns_ok (l := []) trivial) (shs_ok (l := []) trivial) (by kernel_rfl) rfl (Nat.le_of_ble_eq_true (by kernel_rfl)) (by kernel_rfl) (of_decide_eq_true (by kernel_rfl)) (by decide) (fun C hP O => lpOk_of (en := en_slices_IndexFunc_impl_Clause K K) (S := hasK su_slices_IndexFunc_impl_Clause) (fun i => hasK_lk (sg_slices_IndexFunc_impl_Clause K K) i) _ (by rw [show partsOf (hasK su_slices_IndexFunc_impl_Clause) (bodyOf Tryz.f122) = [(true, c_slices_IndexFunc_impl_Clause_L2)] from by kernel_rfl]; exact (lpL_loop (f := mkLoop lv_slices_IndexFunc_impl_Clause_L2 (gslices_IndexFunc_impl_Clause_l2 K K)) (by kernel_rfl) (sslices_IndexFunc_impl_Clause_l2 K C hP O K) trivial))) (fun x y h => by rw [← e_slices_IndexFunc_impl_Clause]; exact h)
noncomputable def as_slices_ContainsFunc_impl_Clause : Ty := (.pair (.sl (.st (.pair (.st (.pair (.int .i64) (.pair (.int .i64) .unit))) (.pair (.sl (.int .i64)) .unit)))) (.pair (.fn (.pair (.st (.pair (.st (.pair (.int .i64) (.pair (.int .i64) .unit))) (.pair (.sl (.int .i64)) .unit))) .unit) .bool) .unit))
noncomputable def sp_slices_ContainsFunc_impl_Clause (F : ((List ((Int × Int × Unit) × (List Int) × Unit)) × ((((Int × Int × Unit) × (List Int) × Unit) × Unit) → Option Bool) × Unit) → Option Bool) : FnSpec := ⟨as_slices_ContainsFunc_impl_Clause, [false, false], .bool, F⟩
noncomputable def slices_ContainsFunc_impl_Clause (K : Nat) (x : ((List ((Int × Int × Unit) × (List Int) × Unit)) × ((((Int × Int × Unit) × (List Int) × Unit) × Unit) → Option Bool) × Unit)) : Option Bool :=
    (slices_IndexFunc_impl_Clause K (x.1, x.2.1, ())).bind fun y1 =>
    some (decide (y1 ≥ (0 : Int)))
noncomputable def rv_slices_ContainsFunc_impl_Clause : Lv := [(4, (.v .bool))]
noncomputable def sg_slices_ContainsFunc_impl_Clause {R : Type} (K : Nat) (k : Nat) : List (Nat × SegS R) := []
noncomputable def su_slices_ContainsFunc_impl_Clause : List (Nat × Unit) := []
noncomputable def en_slices_ContainsFunc_impl_Clause {R : Type} (K : Nat) (k : Nat) : Env R := { L := lk [], X := lk [], S := lk (sg_slices_ContainsFunc_impl_Clause K k), rv := rv_slices_ContainsFunc_impl_Clause }
noncomputable def cf_slices_ContainsFunc_impl_Clause (K : Nat) : Cfg := { ty := lk tys, fn := lk [(122, sp_slices_IndexFunc_impl_Clause (slices_IndexFunc_impl_Clause K))], fs := lk [], prot := 0, nt := Tryz.f61.ntmps }
theorem e_slices_ContainsFunc_impl_Clause (K : Nat) (x : den as_slices_ContainsFunc_impl_Clause) : slices_ContainsFunc_impl_Clause K x = evFn (cf_slices_ContainsFunc_impl_Clause K) as_slices_ContainsFunc_impl_Clause [false, false] .bool (en_slices_ContainsFunc_impl_Clause K K) Tryz.f61.results.toList (bodyOf Tryz.f61) x := by kernel_rfl
theorem ok_slices_ContainsFunc_impl_Clause (K : Nat) : FnOk Tryz.prog 61 (sp_slices_ContainsFunc_impl_Clause (slices_ContainsFunc_impl_Clause K)) :=
  fn_ok (cf := cf_slices_ContainsFunc_impl_Clause K) (en := en_slices_ContainsFunc_impl_Clause K K) (c := bodyOf Tryz.f61) Tryz.func61 (by kernel_rfl) (by kernel_rfl) tysOk (fns_ok (l := [(122, sp_slices_IndexFunc_impl_Clause (slices_IndexFunc_impl_Clause K))]) ⟨ok_slices_IndexFunc_impl_Clause K, trivial⟩) (shs_ok (l := []) trivial) (by kernel_rfl) rfl (Nat.le_of_ble_eq_true (by kernel_rfl)) (by kernel_rfl) (of_decide_eq_true (by kernel_rfl)) (by decide) (fun C hP O => lpOk_of (en := en_slices_ContainsFunc_impl_Clause K K) (S := hasK su_slices_ContainsFunc_impl_Clause) (fun i => hasK_lk (sg_slices_ContainsFunc_impl_Clause K K) i) _ (by rw [show partsOf (hasK su_slices_ContainsFunc_impl_Clause) (bodyOf Tryz.f61) = [] from by kernel_rfl]; exact trivial)) (fun x y h => by rw [← e_slices_ContainsFunc_impl_Clause]; exact h)
noncomputable def as_i_rowsOf : Ty := (.pair (.int .i64) .unit)
noncomputable def sp_i_rowsOf (F : (Int × Unit) → Option Int) : FnSpec := ⟨as_i_rowsOf, [false], (.int .i64), F⟩
noncomputable def i_rowsOf (K : Nat) (x : (Int × Unit)) : Option Int :=
    (if (decide ((0 : Int) ≤ x.1)) = true then
    some (shlI .i64 (1 : Int) x.1)
    else
    none)
noncomputable def rv_i_rowsOf : Lv := [(2, (.v (.int .i64)))]
noncomputable def sg_i_rowsOf {R : Type} (K : Nat) (k : Nat) : List (Nat × SegS R) := []
noncomputable def su_i_rowsOf : List (Nat × Unit) := []
noncomputable def en_i_rowsOf {R : Type} (K : Nat) (k : Nat) : Env R := { L := lk [], X := lk [], S := lk (sg_i_rowsOf K k), rv := rv_i_rowsOf }
noncomputable def cf_i_rowsOf (K : Nat) : Cfg := { ty := lk tys, fn := lk [], fs := lk [], prot := 0, nt := Tryz.f68.ntmps }
theorem e_i_rowsOf (K : Nat) (x : den as_i_rowsOf) : i_rowsOf K x = evFn (cf_i_rowsOf K) as_i_rowsOf [false] (.int .i64) (en_i_rowsOf K K) Tryz.f68.results.toList (bodyOf Tryz.f68) x := by kernel_rfl
theorem ok_i_rowsOf (K : Nat) : FnOk Tryz.prog 68 (sp_i_rowsOf (i_rowsOf K)) :=
  fn_ok (cf := cf_i_rowsOf K) (en := en_i_rowsOf K K) (c := bodyOf Tryz.f68) Tryz.func68 (by kernel_rfl) (by kernel_rfl) tysOk (fns_ok (l := []) trivial) (shs_ok (l := []) trivial) (by kernel_rfl) rfl (Nat.le_of_ble_eq_true (by kernel_rfl)) (by kernel_rfl) (of_decide_eq_true (by kernel_rfl)) (by decide) (fun C hP O => lpOk_of (en := en_i_rowsOf K K) (S := hasK su_i_rowsOf) (fun i => hasK_lk (sg_i_rowsOf K K) i) _ (by rw [show partsOf (hasK su_i_rowsOf) (bodyOf Tryz.f68) = [] from by kernel_rfl]; exact trivial)) (fun x y h => by rw [← e_i_rowsOf]; exact h)
noncomputable def as_i_funcsOf : Ty := (.pair (.int .i64) .unit)
noncomputable def sp_i_funcsOf (F : (Int × Unit) → Option Int) : FnSpec := ⟨as_i_funcsOf, [false], (.int .i64), F⟩
noncomputable def i_funcsOf (K : Nat) (x : (Int × Unit)) : Option Int :=
    (i_rowsOf K (x.1, ())).bind fun y1 =>
    (if (decide ((0 : Int) ≤ y1)) = true then
    some (shlI .i64 (1 : Int) y1)
    else
    none)
noncomputable def rv_i_funcsOf : Lv := [(2, (.v (.int .i64)))]
noncomputable def sg_i_funcsOf {R : Type} (K : Nat) (k : Nat) : List (Nat × SegS R) := []
noncomputable def su_i_funcsOf : List (Nat × Unit) := []
noncomputable def en_i_funcsOf {R : Type} (K : Nat) (k : Nat) : Env R := { L := lk [], X := lk [], S := lk (sg_i_funcsOf K k), rv := rv_i_funcsOf }
noncomputable def cf_i_funcsOf (K : Nat) : Cfg := { ty := lk tys, fn := lk [(68, sp_i_rowsOf (i_rowsOf K))], fs := lk [], prot := 0, nt := Tryz.f123.ntmps }
theorem e_i_funcsOf (K : Nat) (x : den as_i_funcsOf) : i_funcsOf K x = evFn (cf_i_funcsOf K) as_i_funcsOf [false] (.int .i64) (en_i_funcsOf K K) Tryz.f123.results.toList (bodyOf Tryz.f123) x := by kernel_rfl
theorem ok_i_funcsOf (K : Nat) : FnOk Tryz.prog 123 (sp_i_funcsOf (i_funcsOf K)) :=
  fn_ok (cf := cf_i_funcsOf K) (en := en_i_funcsOf K K) (c := bodyOf Tryz.f123) Tryz.func123 (by kernel_rfl) (by kernel_rfl) tysOk (fns_ok (l := [(68, sp_i_rowsOf (i_rowsOf K))]) ⟨ok_i_rowsOf K, trivial⟩) (shs_ok (l := []) trivial) (by kernel_rfl) rfl (Nat.le_of_ble_eq_true (by kernel_rfl)) (by kernel_rfl) (of_decide_eq_true (by kernel_rfl)) (by decide) (fun C hP O => lpOk_of (en := en_i_funcsOf K K) (S := hasK su_i_funcsOf) (fun i => hasK_lk (sg_i_funcsOf K K) i) _ (by rw [show partsOf (hasK su_i_funcsOf) (bodyOf Tryz.f123) = [] from by kernel_rfl]; exact trivial)) (fun x y h => by rw [← e_i_funcsOf]; exact h)
noncomputable def as_i_IsRelation : Ty := (.pair (.st (.pair (.int .i64) (.pair (.int .i64) .unit))) .unit)
noncomputable def sp_i_IsRelation (F : ((Int × Int × Unit) × Unit) → Option Bool) : FnSpec := ⟨as_i_IsRelation, [false], .bool, F⟩
noncomputable def i_IsRelation (K : Nat) (x : ((Int × Int × Unit) × Unit)) : Option Bool :=
    (i_within K (x.1.1, (1 : Int), (4 : Int), ())).bind fun y1 =>
    (if y1 = true then
    (i_funcsOf K (x.1.1, ())).bind fun y2 =>
    (i_within K (x.1.2.1, (0 : Int), (IntKind.i64.wrap (y2 - (1 : Int))), ())).bind fun y3 =>
    some y3
    else
    some false)
noncomputable def rv_i_IsRelation : Lv := [(2, (.v .bool))]
noncomputable def sg_i_IsRelation {R : Type} (K : Nat) (k : Nat) : List (Nat × SegS R) := []
noncomputable def su_i_IsRelation : List (Nat × Unit) := []
noncomputable def en_i_IsRelation {R : Type} (K : Nat) (k : Nat) : Env R := { L := lk [], X := lk [], S := lk (sg_i_IsRelation K k), rv := rv_i_IsRelation }
noncomputable def cf_i_IsRelation (K : Nat) : Cfg := { ty := lk tys, fn := lk [(60, sp_i_within (i_within K)), (123, sp_i_funcsOf (i_funcsOf K))], fs := lk [], prot := 0, nt := Tryz.f63.ntmps }
theorem e_i_IsRelation (K : Nat) (x : den as_i_IsRelation) : i_IsRelation K x = evFn (cf_i_IsRelation K) as_i_IsRelation [false] .bool (en_i_IsRelation K K) Tryz.f63.results.toList (bodyOf Tryz.f63) x := by kernel_rfl
theorem ok_i_IsRelation (K : Nat) : FnOk Tryz.prog 63 (sp_i_IsRelation (i_IsRelation K)) :=
  fn_ok (cf := cf_i_IsRelation K) (en := en_i_IsRelation K K) (c := bodyOf Tryz.f63) Tryz.func63 (by kernel_rfl) (by kernel_rfl) tysOk (fns_ok (l := [(60, sp_i_within (i_within K)), (123, sp_i_funcsOf (i_funcsOf K))]) ⟨ok_i_within K, ⟨ok_i_funcsOf K, trivial⟩⟩) (shs_ok (l := []) trivial) (by kernel_rfl) rfl (Nat.le_of_ble_eq_true (by kernel_rfl)) (by kernel_rfl) (of_decide_eq_true (by kernel_rfl)) (by decide) (fun C hP O => lpOk_of (en := en_i_IsRelation K K) (S := hasK su_i_IsRelation) (fun i => hasK_lk (sg_i_IsRelation K K) i) _ (by rw [show partsOf (hasK su_i_IsRelation) (bodyOf Tryz.f63) = [] from by kernel_rfl]; exact trivial)) (fun x y h => by rw [← e_i_IsRelation]; exact h)
noncomputable def as_slices_IndexFunc_int64 : Ty := (.pair (.sl (.int .i64)) (.pair (.fn (.pair (.int .i64) .unit) .bool) .unit))
noncomputable def sp_slices_IndexFunc_int64 (F : ((List Int) × ((Int × Unit) → Option Bool) × Unit) → Option Int) : FnSpec := ⟨as_slices_IndexFunc_int64, [false, false], (.int .i64), F⟩
noncomputable def slices_IndexFunc_int64_l2 {R : Type} (K : Nat) : Nat → (List Int) → ((Int × Unit) → Option Bool) → Int → Int → (Option R) → (Int → Option R) → Option R
  | 0, _, _, _, _, _, _ => none
  | k + 1, v0, v1, v7, v8, kx0, kr =>
    (if (decide (v8 < v7)) = true then
    (if (bnds v8 (v0.length : Int)) = true then
    (v1 ((v0.getD v8.toNat (0 : Int)), ())).bind fun y1 =>
    (if y1 = true then
    kr v8
    else
    slices_IndexFunc_int64_l2 K k v0 v1 v7 (IntKind.i64.wrap (v8 + (1 : Int))) kx0 kr)
    else
    none)
    else
    kx0)
noncomputable def slices_IndexFunc_int64 (K : Nat) (x : ((List Int) × ((Int × Unit) → Option Bool) × Unit)) : Option Int :=
    slices_IndexFunc_int64_l2 K K x.1 x.2.1 (x.1.length : Int) (0 : Int) (some (-1 : Int)) (fun z2 =>
    some z2)
noncomputable def lv_slices_IndexFunc_int64_L2 : Lv := [(0, (.v (.sl (.int .i64)))), (1, (.v (.fn (.pair (.int .i64) .unit) .bool))), (7, (.v (.int .i64))), (8, (.v (.int .i64)))]
noncomputable def lv_slices_IndexFunc_int64_X0 : Lv := []
noncomputable def rv_slices_IndexFunc_int64 : Lv := [(4, (.v (.int .i64)))]
noncomputable def gslices_IndexFunc_int64_l2 {R : Type} (K : Nat) (k : Nat) (x : den lv_slices_IndexFunc_int64_L2.ty) (kx : Nat → St → Option R) (kr : St → Option R) : Option R := slices_IndexFunc_int64_l2 K k x.1 x.2.1 x.2.2.1 x.2.2.2.1 (kx 0 (mkSt lv_slices_IndexFunc_int64_X0 ())) (fun z0 => kr (mkSt rv_slices_IndexFunc_int64 (z0, ())))
noncomputable def sg_slices_IndexFunc_int64 {R : Type} (K : Nat) (k : Nat) : List (Nat × SegS R) := []
noncomputable def su_slices_IndexFunc_int64 : List (Nat × Unit) := []
noncomputable def en_slices_IndexFunc_int64 {R : Type} (K : Nat) (k : Nat) : Env R := { L := lk [(2, mkLoop lv_slices_IndexFunc_int64_L2 (gslices_IndexFunc_int64_l2 K k))], X := lk [(0, lv_slices_IndexFunc_int64_X0)], S := lk (sg_slices_IndexFunc_int64 K k), rv := rv_slices_IndexFunc_int64 }
noncomputable def cf_slices_IndexFunc_int64 (K : Nat) : Cfg := { ty := lk tys, fn := lk [], fs := lk [], prot := 0, nt := Tryz.f124.ntmps }
noncomputable def c_slices_IndexFunc_int64_L2 : Code := nthC (partsOf (hasK su_slices_IndexFunc_int64) (bodyOf Tryz.f124)) 0
theorem eslices_IndexFunc_int64_l2 {R : Type} (K : Nat) (k : Nat) (x : den lv_slices_IndexFunc_int64_L2.ty) (kx : Nat → St → Option R) (kr : St → Option R) : gslices_IndexFunc_int64_l2 K (k + 1) x kx kr = evC (cf_slices_IndexFunc_int64 K) (en_slices_IndexFunc_int64 K k) c_slices_IndexFunc_int64_L2 (mkSt lv_slices_IndexFunc_int64_L2 x) (fun s => mkLoop lv_slices_IndexFunc_int64_L2 (gslices_IndexFunc_int64_l2 K k) s kx kr) kx kr := by kernel_rfl
theorem sslices_IndexFunc_int64_l2 {R : Type} (K : Nat) (C : Cx) (hP : C.P = Tryz.prog) (O : CfgOk C (cf_slices_IndexFunc_int64 K)) (k : Nat) : LpS C (R := R) (mkLoop lv_slices_IndexFunc_int64_L2 (gslices_IndexFunc_int64_l2 K k)) c_slices_IndexFunc_int64_L2 :=
  loop_sound O (by rw [hP]; kernel_rfl) (fun x kx kr => rfl) (eslices_IndexFunc_int64_l2 K) (fun k => lpOk_of (en := en_slices_IndexFunc_int64 K k) (S := hasK su_slices_IndexFunc_int64) (fun i => hasK_lk (sg_slices_IndexFunc_int64 K k) i) _ (by rw [show partsOf (hasK su_slices_IndexFunc_int64) c_slices_IndexFunc_int64_L2 = [] from by kernel_rfl]; exact trivial)) k
theorem e_slices_IndexFunc_int64 (K : Nat) (x : den as_slices_IndexFunc_int64) : slices_IndexFunc_int64 K x = evFn (cf_slices_IndexFunc_int64 K) as_slices_IndexFunc_int64 [false, false] (.int .i64) (en_slices_IndexFunc_int64 K K) Tryz.f124.results.toList (bodyOf Tryz.f124) x := by kernel_rfl
theorem ok_slices_IndexFunc_int64 (K : Nat) : FnOk Tryz.prog 124 (sp_slices_IndexFunc_int64 (slices_IndexFunc_int64 K)) :=
  fn_ok (cf := cf_slices_IndexFunc_int64 K) (en := en_slices_IndexFunc_int64 K K) (c := bodyOf Tryz.f124) Tryz.func124 (by kernel_rfl) (by kernel_rfl) tysOk (fns_ok (l := []) trivial) (shs_ok (l := []) trivial) (by kernel_rfl) rfl (Nat.le_of_ble_eq_true (by kernel_rfl)) (by kernel_rfl) (of_decide_eq_true (by kernel_rfl)) (by decide) (fun C hP O => lpOk_of (en := en_slices_IndexFunc_int64 K K) (S := hasK su_slices_IndexFunc_int64) (fun i => hasK_lk (sg_slices_IndexFunc_int64 K K) i) _ (by rw [show partsOf (hasK su_slices_IndexFunc_int64) (bodyOf Tryz.f124) = [(true, c_slices_IndexFunc_int64_L2)] from by kernel_rfl]; exact (lpL_loop (f := mkLoop lv_slices_IndexFunc_int64_L2 (gslices_IndexFunc_int64_l2 K K)) (by kernel_rfl) (sslices_IndexFunc_int64_l2 K C hP O K) trivial))) (fun x y h => by rw [← e_slices_IndexFunc_int64]; exact h)
noncomputable def as_slices_ContainsFunc_int64 : Ty := (.pair (.sl (.int .i64)) (.pair (.fn (.pair (.int .i64) .unit) .bool) .unit))
noncomputable def sp_slices_ContainsFunc_int64 (F : ((List Int) × ((Int × Unit) → Option Bool) × Unit) → Option Bool) : FnSpec := ⟨as_slices_ContainsFunc_int64, [false, false], .bool, F⟩
noncomputable def slices_ContainsFunc_int64 (K : Nat) (x : ((List Int) × ((Int × Unit) → Option Bool) × Unit)) : Option Bool :=
    (slices_IndexFunc_int64 K (x.1, x.2.1, ())).bind fun y1 =>
    some (decide (y1 ≥ (0 : Int)))
noncomputable def rv_slices_ContainsFunc_int64 : Lv := [(4, (.v .bool))]
noncomputable def sg_slices_ContainsFunc_int64 {R : Type} (K : Nat) (k : Nat) : List (Nat × SegS R) := []
noncomputable def su_slices_ContainsFunc_int64 : List (Nat × Unit) := []
noncomputable def en_slices_ContainsFunc_int64 {R : Type} (K : Nat) (k : Nat) : Env R := { L := lk [], X := lk [], S := lk (sg_slices_ContainsFunc_int64 K k), rv := rv_slices_ContainsFunc_int64 }
noncomputable def cf_slices_ContainsFunc_int64 (K : Nat) : Cfg := { ty := lk tys, fn := lk [(124, sp_slices_IndexFunc_int64 (slices_IndexFunc_int64 K))], fs := lk [], prot := 0, nt := Tryz.f64.ntmps }
theorem e_slices_ContainsFunc_int64 (K : Nat) (x : den as_slices_ContainsFunc_int64) : slices_ContainsFunc_int64 K x = evFn (cf_slices_ContainsFunc_int64 K) as_slices_ContainsFunc_int64 [false, false] .bool (en_slices_ContainsFunc_int64 K K) Tryz.f64.results.toList (bodyOf Tryz.f64) x := by kernel_rfl
theorem ok_slices_ContainsFunc_int64 (K : Nat) : FnOk Tryz.prog 64 (sp_slices_ContainsFunc_int64 (slices_ContainsFunc_int64 K)) :=
  fn_ok (cf := cf_slices_ContainsFunc_int64 K) (en := en_slices_ContainsFunc_int64 K K) (c := bodyOf Tryz.f64) Tryz.func64 (by kernel_rfl) (by kernel_rfl) tysOk (fns_ok (l := [(124, sp_slices_IndexFunc_int64 (slices_IndexFunc_int64 K))]) ⟨ok_slices_IndexFunc_int64 K, trivial⟩) (shs_ok (l := []) trivial) (by kernel_rfl) rfl (Nat.le_of_ble_eq_true (by kernel_rfl)) (by kernel_rfl) (of_decide_eq_true (by kernel_rfl)) (by decide) (fun C hP O => lpOk_of (en := en_slices_ContainsFunc_int64 K K) (S := hasK su_slices_ContainsFunc_int64) (fun i => hasK_lk (sg_slices_ContainsFunc_int64 K K) i) _ (by rw [show partsOf (hasK su_slices_ContainsFunc_int64) (bodyOf Tryz.f64) = [] from by kernel_rfl]; exact trivial)) (fun x y h => by rw [← e_slices_ContainsFunc_int64]; exact h)
noncomputable def as_i_IsInstance_c1_c1 : Ty := (.pair (.int .i64) (.pair (.ptr (.st (.pair (.int .i64) (.pair (.sl (.st (.pair (.st (.pair (.int .i64) (.pair (.int .i64) .unit))) (.pair (.sl (.int .i64)) .unit)))) .unit)))) .unit))
noncomputable def sp_i_IsInstance_c1_c1 (F : (Int × (Int × (List ((Int × Int × Unit) × (List Int) × Unit)) × Unit) × Unit) → Option Bool) : FnSpec := ⟨as_i_IsInstance_c1_c1, [false, false], .bool, F⟩
noncomputable def i_IsInstance_c1_c1 (K : Nat) (x : (Int × (Int × (List ((Int × Int × Unit) × (List Int) × Unit)) × Unit) × Unit)) : Option Bool :=
    (i_within K (x.1, (0 : Int), (IntKind.i64.wrap (x.2.1.1 - (1 : Int))), ())).bind fun y1 =>
    some (!y1)
noncomputable def rv_i_IsInstance_c1_c1 : Lv := [(3, (.v .bool))]
noncomputable def sg_i_IsInstance_c1_c1 {R : Type} (K : Nat) (k : Nat) : List (Nat × SegS R) := []
noncomputable def su_i_IsInstance_c1_c1 : List (Nat × Unit) := []
noncomputable def en_i_IsInstance_c1_c1 {R : Type} (K : Nat) (k : Nat) : Env R := { L := lk [], X := lk [], S := lk (sg_i_IsInstance_c1_c1 K k), rv := rv_i_IsInstance_c1_c1 }
noncomputable def cf_i_IsInstance_c1_c1 (K : Nat) : Cfg := { ty := lk tys, fn := lk [(60, sp_i_within (i_within K))], fs := lk [], prot := 0, nt := Tryz.f65.ntmps }
theorem e_i_IsInstance_c1_c1 (K : Nat) (x : den as_i_IsInstance_c1_c1) : i_IsInstance_c1_c1 K x = evFn (cf_i_IsInstance_c1_c1 K) as_i_IsInstance_c1_c1 [false, false] .bool (en_i_IsInstance_c1_c1 K K) Tryz.f65.results.toList (bodyOf Tryz.f65) x := by kernel_rfl
theorem ok_i_IsInstance_c1_c1 (K : Nat) : FnOk Tryz.prog 65 (sp_i_IsInstance_c1_c1 (i_IsInstance_c1_c1 K)) :=
  fn_ok (cf := cf_i_IsInstance_c1_c1 K) (en := en_i_IsInstance_c1_c1 K K) (c := bodyOf Tryz.f65) Tryz.func65 (by kernel_rfl) (by kernel_rfl) tysOk (fns_ok (l := [(60, sp_i_within (i_within K))]) ⟨ok_i_within K, trivial⟩) (shs_ok (l := []) trivial) (by kernel_rfl) rfl (Nat.le_of_ble_eq_true (by kernel_rfl)) (by kernel_rfl) (of_decide_eq_true (by kernel_rfl)) (by decide) (fun C hP O => lpOk_of (en := en_i_IsInstance_c1_c1 K K) (S := hasK su_i_IsInstance_c1_c1) (fun i => hasK_lk (sg_i_IsInstance_c1_c1 K K) i) _ (by rw [show partsOf (hasK su_i_IsInstance_c1_c1) (bodyOf Tryz.f65) = [] from by kernel_rfl]; exact trivial)) (fun x y h => by rw [← e_i_IsInstance_c1_c1]; exact h)
noncomputable def as_i_IsInstance_c1 : Ty := (.pair (.st (.pair (.st (.pair (.int .i64) (.pair (.int .i64) .unit))) (.pair (.sl (.int .i64)) .unit))) (.pair (.ptr (.st (.pair (.int .i64) (.pair (.sl (.st (.pair (.st (.pair (.int .i64) (.pair (.int .i64) .unit))) (.pair (.sl (.int .i64)) .unit)))) .unit)))) .unit))
noncomputable def sp_i_IsInstance_c1 (F : (((Int × Int × Unit) × (List Int) × Unit) × (Int × (List ((Int × Int × Unit) × (List Int) × Unit)) × Unit) × Unit) → Option Bool) : FnSpec := ⟨as_i_IsInstance_c1, [false, false], .bool, F⟩
noncomputable def i_IsInstance_c1 (K : Nat) (x : (((Int × Int × Unit) × (List Int) × Unit) × (Int × (List ((Int × Int × Unit) × (List Int) × Unit)) × Unit) × Unit)) : Option Bool :=
    (i_IsRelation K (x.1.1, ())).bind fun y1 =>
    (if (!y1) = true then
    some true
    else
    (if (!decide ((x.1.2.1.length : Int) = x.1.1.1)) = true then
    some true
    else
    (slices_ContainsFunc_int64 K (x.1.2.1, (fun y3 => i_IsInstance_c1_c1 K (y3.1, x.2.1, ())), ())).bind fun y2 =>
    some y2))
noncomputable def rv_i_IsInstance_c1 : Lv := [(3, (.v .bool))]
noncomputable def sg_i_IsInstance_c1 {R : Type} (K : Nat) (k : Nat) : List (Nat × SegS R) := []
noncomputable def su_i_IsInstance_c1 : List (Nat × Unit) := []
noncomputable def en_i_IsInstance_c1 {R : Type} (K : Nat) (k : Nat) : Env R := { L := lk [], X := lk [], S := lk (sg_i_IsInstance_c1 K k), rv := rv_i_IsInstance_c1 }
noncomputable def cf_i_IsInstance_c1 (K : Nat) : Cfg := { ty := lk tys, fn := lk [(63, sp_i_IsRelation (i_IsRelation K)), (64, sp_slices_ContainsFunc_int64 (slices_ContainsFunc_int64 K)), (65, sp_i_IsInstance_c1_c1 (i_IsInstance_c1_c1 K))], fs := lk [], prot := 0, nt := Tryz.f62.ntmps }
theorem e_i_IsInstance_c1 (K : Nat) (x : den as_i_IsInstance_c1) : i_IsInstance_c1 K x = evFn (cf_i_IsInstance_c1 K) as_i_IsInstance_c1 [false, false] .bool (en_i_IsInstance_c1 K K) Tryz.f62.results.toList (bodyOf Tryz.f62) x := by kernel_rfl
theorem ok_i_IsInstance_c1 (K : Nat) : FnOk Tryz.prog 62 (sp_i_IsInstance_c1 (i_IsInstance_c1 K)) :=
  fn_ok (cf := cf_i_IsInstance_c1 K) (en := en_i_IsInstance_c1 K K) (c := bodyOf Tryz.f62) Tryz.func62 (by kernel_rfl) (by kernel_rfl) tysOk (fns_ok (l := [(63, sp_i_IsRelation (i_IsRelation K)), (64, sp_slices_ContainsFunc_int64 (slices_ContainsFunc_int64 K)), (65, sp_i_IsInstance_c1_c1 (i_IsInstance_c1_c1 K))]) ⟨ok_i_IsRelation K, ⟨ok_slices_ContainsFunc_int64 K, ⟨ok_i_IsInstance_c1_c1 K, trivial⟩⟩⟩) (shs_ok (l := []) trivial) (by kernel_rfl) rfl (Nat.le_of_ble_eq_true (by kernel_rfl)) (by kernel_rfl) (of_decide_eq_true (by kernel_rfl)) (by decide) (fun C hP O => lpOk_of (en := en_i_IsInstance_c1 K K) (S := hasK su_i_IsInstance_c1) (fun i => hasK_lk (sg_i_IsInstance_c1 K K) i) _ (by rw [show partsOf (hasK su_i_IsInstance_c1) (bodyOf Tryz.f62) = [] from by kernel_rfl]; exact trivial)) (fun x y h => by rw [← e_i_IsInstance_c1]; exact h)
noncomputable def as_i_IsInstance : Ty := (.pair (.st (.pair (.int .i64) (.pair (.sl (.st (.pair (.st (.pair (.int .i64) (.pair (.int .i64) .unit))) (.pair (.sl (.int .i64)) .unit)))) .unit))) .unit)
noncomputable def sp_i_IsInstance (F : ((Int × (List ((Int × Int × Unit) × (List Int) × Unit)) × Unit) × Unit) → Option Bool) : FnSpec := ⟨as_i_IsInstance, [false], .bool, F⟩
noncomputable def i_IsInstance (K : Nat) (x : ((Int × (List ((Int × Int × Unit) × (List Int) × Unit)) × Unit) × Unit)) : Option Bool :=
    (i_within K (x.1.1, (0 : Int), (8 : Int), ())).bind fun y1 =>
    (if y1 = true then
    (if (decide ((x.1.2.1.length : Int) ≤ (12 : Int))) = true then
    (slices_ContainsFunc_impl_Clause K (x.1.2.1, (fun y3 => i_IsInstance_c1 K (y3.1, x.1, ())), ())).bind fun y2 =>
    some (!y2)
    else
    some false)
    else
    some false)
noncomputable def rv_i_IsInstance : Lv := [(2, (.v .bool))]
noncomputable def sg_i_IsInstance {R : Type} (K : Nat) (k : Nat) : List (Nat × SegS R) := []
noncomputable def su_i_IsInstance : List (Nat × Unit) := []
noncomputable def en_i_IsInstance {R : Type} (K : Nat) (k : Nat) : Env R := { L := lk [], X := lk [], S := lk (sg_i_IsInstance K k), rv := rv_i_IsInstance }
noncomputable def cf_i_IsInstance (K : Nat) : Cfg := { ty := lk tys, fn := lk [(60, sp_i_within (i_within K)), (61, sp_slices_ContainsFunc_impl_Clause (slices_ContainsFunc_impl_Clause K)), (62, sp_i_IsInstance_c1 (i_IsInstance_c1 K))], fs := lk [], prot := 0, nt := Tryz.f10.ntmps }
theorem e_i_IsInstance (K : Nat) (x : den as_i_IsInstance) : i_IsInstance K x = evFn (cf_i_IsInstance K) as_i_IsInstance [false] .bool (en_i_IsInstance K K) Tryz.f10.results.toList (bodyOf Tryz.f10) x := by kernel_rfl
theorem ok_i_IsInstance (K : Nat) : FnOk Tryz.prog 10 (sp_i_IsInstance (i_IsInstance K)) :=
  fn_ok (cf := cf_i_IsInstance K) (en := en_i_IsInstance K K) (c := bodyOf Tryz.f10) Tryz.func10 (by kernel_rfl) (by kernel_rfl) tysOk (fns_ok (l := [(60, sp_i_within (i_within K)), (61, sp_slices_ContainsFunc_impl_Clause (slices_ContainsFunc_impl_Clause K)), (62, sp_i_IsInstance_c1 (i_IsInstance_c1 K))]) ⟨ok_i_within K, ⟨ok_slices_ContainsFunc_impl_Clause K, ⟨ok_i_IsInstance_c1 K, trivial⟩⟩⟩) (shs_ok (l := []) trivial) (by kernel_rfl) rfl (Nat.le_of_ble_eq_true (by kernel_rfl)) (by kernel_rfl) (of_decide_eq_true (by kernel_rfl)) (by decide) (fun C hP O => lpOk_of (en := en_i_IsInstance K K) (S := hasK su_i_IsInstance) (fun i => hasK_lk (sg_i_IsInstance K K) i) _ (by rw [show partsOf (hasK su_i_IsInstance) (bodyOf Tryz.f10) = [] from by kernel_rfl]; exact trivial)) (fun x y h => by rw [← e_i_IsInstance]; exact h)
noncomputable def as_i_Instance_solutions_c1 : Ty := (.pair (.st (.pair (.st (.pair (.int .i64) (.pair (.int .i64) .unit))) (.pair (.sl (.int .i64)) .unit))) (.pair (.ptr (.int .i64)) .unit))
noncomputable def sp_i_Instance_solutions_c1 (F : (((Int × Int × Unit) × (List Int) × Unit) × Int × Unit) → Option Bool) : FnSpec := ⟨as_i_Instance_solutions_c1, [false, false], .bool, F⟩
noncomputable def i_Instance_solutions_c1 (K : Nat) (x : (((Int × Int × Unit) × (List Int) × Unit) × Int × Unit)) : Option Bool :=
    (i_Clause_satisfied K (x.1, x.2.1, ())).bind fun y1 =>
    some (!y1)
noncomputable def rv_i_Instance_solutions_c1 : Lv := [(3, (.v .bool))]
noncomputable def sg_i_Instance_solutions_c1 {R : Type} (K : Nat) (k : Nat) : List (Nat × SegS R) := []
noncomputable def su_i_Instance_solutions_c1 : List (Nat × Unit) := []
noncomputable def en_i_Instance_solutions_c1 {R : Type} (K : Nat) (k : Nat) : Env R := { L := lk [], X := lk [], S := lk (sg_i_Instance_solutions_c1 K k), rv := rv_i_Instance_solutions_c1 }
noncomputable def cf_i_Instance_solutions_c1 (K : Nat) : Cfg := { ty := lk tys, fn := lk [(119, sp_i_Clause_satisfied (i_Clause_satisfied K))], fs := lk [], prot := 0, nt := Tryz.f118.ntmps }
theorem e_i_Instance_solutions_c1 (K : Nat) (x : den as_i_Instance_solutions_c1) : i_Instance_solutions_c1 K x = evFn (cf_i_Instance_solutions_c1 K) as_i_Instance_solutions_c1 [false, false] .bool (en_i_Instance_solutions_c1 K K) Tryz.f118.results.toList (bodyOf Tryz.f118) x := by kernel_rfl
theorem ok_i_Instance_solutions_c1 (K : Nat) : FnOk Tryz.prog 118 (sp_i_Instance_solutions_c1 (i_Instance_solutions_c1 K)) :=
  fn_ok (cf := cf_i_Instance_solutions_c1 K) (en := en_i_Instance_solutions_c1 K K) (c := bodyOf Tryz.f118) Tryz.func118 (by kernel_rfl) (by kernel_rfl) tysOk (fns_ok (l := [(119, sp_i_Clause_satisfied (i_Clause_satisfied K))]) ⟨ok_i_Clause_satisfied K, trivial⟩) (shs_ok (l := []) trivial) (by kernel_rfl) rfl (Nat.le_of_ble_eq_true (by kernel_rfl)) (by kernel_rfl) (of_decide_eq_true (by kernel_rfl)) (by decide) (fun C hP O => lpOk_of (en := en_i_Instance_solutions_c1 K K) (S := hasK su_i_Instance_solutions_c1) (fun i => hasK_lk (sg_i_Instance_solutions_c1 K K) i) _ (by rw [show partsOf (hasK su_i_Instance_solutions_c1) (bodyOf Tryz.f118) = [] from by kernel_rfl]; exact trivial)) (fun x y h => by rw [← e_i_Instance_solutions_c1]; exact h)
noncomputable def as_i_Instance_solutions : Ty := (.pair (.st (.pair (.int .i64) (.pair (.sl (.st (.pair (.st (.pair (.int .i64) (.pair (.int .i64) .unit))) (.pair (.sl (.int .i64)) .unit)))) .unit))) .unit)
noncomputable def sp_i_Instance_solutions (F : ((Int × (List ((Int × Int × Unit) × (List Int) × Unit)) × Unit) × Unit) → Option (List Int)) : FnSpec := ⟨as_i_Instance_solutions, [false], (.sl (.int .i64)), F⟩
noncomputable def i_Instance_solutions_l3 {R : Type} (K : Nat) : Nat → (Int × (List ((Int × Int × Unit) × (List Int) × Unit)) × Unit) → (List Int) → Int → Int → ((List Int) → Option R) → Option R
  | 0, _, _, _, _, _ => none
  | k + 1, v1, v3, v7, v8, kx0 =>
    (if (decide (v8 < v7)) = true then
    (slices_ContainsFunc_impl_Clause K (v1.2.1, (fun y2 => i_Instance_solutions_c1 K (y2.1, v8, ())), ())).bind fun y1 =>
    (if (!y1) = true then
    (if (decide (v3.length + ([v8]).length ≤ lim)) = true then
    let l3 := (v3 ++ [v8])
    i_Instance_solutions_l3 K k v1 l3 v7 (IntKind.i64.wrap (v8 + (1 : Int))) kx0
    else
    none)
    else
    i_Instance_solutions_l3 K k v1 v3 v7 (IntKind.i64.wrap (v8 + (1 : Int))) kx0)
    else
    kx0 v3)
noncomputable def i_Instance_solutions (K : Nat) (x : ((Int × (List ((Int × Int × Unit) × (List Int) × Unit)) × Unit) × Unit)) : Option (List Int) :=
    (if (decide ((0 : Int) ≤ x.1.1)) = true then
    i_Instance_solutions_l3 K K x.1 ([] : List Int) (shlI .i64 (1 : Int) x.1.1) (0 : Int) (fun z4 =>
    some z4)
    else
    none)
noncomputable def lv_i_Instance_solutions_L3 : Lv := [(1, (.bx (.v (.st (.pair (.int .i64) (.pair (.sl (.st (.pair (.st (.pair (.int .i64) (.pair (.int .i64) .unit))) (.pair (.sl (.int .i64)) .unit)))) .unit)))))), (3, (.r (.int .i64))), (7, (.v (.int .i64))), (8, (.v (.int .i64)))]
noncomputable def lv_i_Instance_solutions_X0 : Lv := [(3, (.r (.int .i64)))]
noncomputable def rv_i_Instance_solutions : Lv := [(2, (.r (.int .i64)))]
noncomputable def gi_Instance_solutions_l3 {R : Type} (K : Nat) (k : Nat) (x : den lv_i_Instance_solutions_L3.ty) (kx : Nat → St → Option R) (kr : St → Option R) : Option R := i_Instance_solutions_l3 K k x.1 x.2.1 x.2.2.1 x.2.2.2.1 (fun z0 => kx 0 (mkSt lv_i_Instance_solutions_X0 (z0, ())))
noncomputable def sg_i_Instance_solutions {R : Type} (K : Nat) (k : Nat) : List (Nat × SegS R) := []
noncomputable def su_i_Instance_solutions : List (Nat × Unit) := []
noncomputable def en_i_Instance_solutions {R : Type} (K : Nat) (k : Nat) : Env R := { L := lk [(3, mkLoop lv_i_Instance_solutions_L3 (gi_Instance_solutions_l3 K k))], X := lk [(0, lv_i_Instance_solutions_X0)], S := lk (sg_i_Instance_solutions K k), rv := rv_i_Instance_solutions }
noncomputable def cf_i_Instance_solutions (K : Nat) : Cfg := { ty := lk tys, fn := lk [(61, sp_slices_ContainsFunc_impl_Clause (slices_ContainsFunc_impl_Clause K)), (118, sp_i_Instance_solutions_c1 (i_Instance_solutions_c1 K))], fs := lk [], prot := 0, nt := Tryz.f57.ntmps }
noncomputable def c_i_Instance_solutions_L3 : Code := nthC (partsOf (hasK su_i_Instance_solutions) (bodyOf Tryz.f57)) 0
theorem ei_Instance_solutions_l3 {R : Type} (K : Nat) (k : Nat) (x : den lv_i_Instance_solutions_L3.ty) (kx : Nat → St → Option R) (kr : St → Option R) : gi_Instance_solutions_l3 K (k + 1) x kx kr = evC (cf_i_Instance_solutions K) (en_i_Instance_solutions K k) c_i_Instance_solutions_L3 (mkSt lv_i_Instance_solutions_L3 x) (fun s => mkLoop lv_i_Instance_solutions_L3 (gi_Instance_solutions_l3 K k) s kx kr) kx kr := by kernel_rfl
theorem si_Instance_solutions_l3 {R : Type} (K : Nat) (C : Cx) (hP : C.P = Tryz.prog) (O : CfgOk C (cf_i_Instance_solutions K)) (k : Nat) : LpS C (R := R) (mkLoop lv_i_Instance_solutions_L3 (gi_Instance_solutions_l3 K k)) c_i_Instance_solutions_L3 :=
  loop_sound O (by rw [hP]; kernel_rfl) (fun x kx kr => rfl) (ei_Instance_solutions_l3 K) (fun k => lpOk_of (en := en_i_Instance_solutions K k) (S := hasK su_i_Instance_solutions) (fun i => hasK_lk (sg_i_Instance_solutions K k) i) _ (by rw [show partsOf (hasK su_i_Instance_solutions) c_i_Instance_solutions_L3 = [] from by kernel_rfl]; exact trivial)) k
theorem e_i_Instance_solutions (K : Nat) (x : den as_i_Instance_solutions) : i_Instance_solutions K x = evFn (cf_i_Instance_solutions K) as_i_Instance_solutions [false] (.sl (.int .i64)) (en_i_Instance_solutions K K) Tryz.f57.results.toList (bodyOf Tryz.f57) x := by kernel_rfl
theorem ok_i_Instance_solutions (K : Nat) : FnOk Tryz.prog 57 (sp_i_Instance_solutions (i_Instance_solutions K)) :=
  fn_ok (cf := cf_i_Instance_solutions K) (en := en_i_Instance_solutions K K) (c := bodyOf Tryz.f57) Tryz.func57 (by kernel_rfl) (by kernel_rfl) tysOk (fns_ok (l := [(61, sp_slices_ContainsFunc_impl_Clause (slices_ContainsFunc_impl_Clause K)), (118, sp_i_Instance_solutions_c1 (i_Instance_solutions_c1 K))]) ⟨ok_slices_ContainsFunc_impl_Clause K, ⟨ok_i_Instance_solutions_c1 K, trivial⟩⟩) (shs_ok (l := []) trivial) (by kernel_rfl) rfl (Nat.le_of_ble_eq_true (by kernel_rfl)) (by kernel_rfl) (of_decide_eq_true (by kernel_rfl)) (by decide) (fun C hP O => lpOk_of (en := en_i_Instance_solutions K K) (S := hasK su_i_Instance_solutions) (fun i => hasK_lk (sg_i_Instance_solutions K K) i) _ (by rw [show partsOf (hasK su_i_Instance_solutions) (bodyOf Tryz.f57) = [(true, c_i_Instance_solutions_L3)] from by kernel_rfl]; exact (lpL_loop (f := mkLoop lv_i_Instance_solutions_L3 (gi_Instance_solutions_l3 K K)) (by kernel_rfl) (si_Instance_solutions_l3 K C hP O K) trivial))) (fun x y h => by rw [← e_i_Instance_solutions]; exact h)
noncomputable def as_i_SolutionsOf : Ty := (.pair (.st (.pair (.int .i64) (.pair (.sl (.st (.pair (.st (.pair (.int .i64) (.pair (.int .i64) .unit))) (.pair (.sl (.int .i64)) .unit)))) .unit))) .unit)
noncomputable def sp_i_SolutionsOf (F : ((Int × (List ((Int × Int × Unit) × (List Int) × Unit)) × Unit) × Unit) → Option ((List Int) × Int × Unit)) : FnSpec := ⟨as_i_SolutionsOf, [false], (.tup (.pair (.sl (.int .i64)) (.pair (.int .i64) .unit))), F⟩
noncomputable def i_SolutionsOf (K : Nat) (x : ((Int × (List ((Int × Int × Unit) × (List Int) × Unit)) × Unit) × Unit)) : Option ((List Int) × Int × Unit) :=
    (i_IsInstance K (x.1, ())).bind fun y1 =>
    (if (!y1) = true then
    some (([] : List Int), (1 : Int), ())
    else
    (i_Instance_solutions K (x.1, ())).bind fun y2 =>
    some (y2, (0 : Int), ()))
noncomputable def rv_i_SolutionsOf : Lv := [(2, (.r (.int .i64))), (3, (.v (.int .i64)))]
noncomputable def sg_i_SolutionsOf {R : Type} (K : Nat) (k : Nat) : List (Nat × SegS R) := []
noncomputable def su_i_SolutionsOf : List (Nat × Unit) := []
noncomputable def en_i_SolutionsOf {R : Type} (K : Nat) (k : Nat) : Env R := { L := lk [], X := lk [], S := lk (sg_i_SolutionsOf K k), rv := rv_i_SolutionsOf }
noncomputable def cf_i_SolutionsOf (K : Nat) : Cfg := { ty := lk tys, fn := lk [(10, sp_i_IsInstance (i_IsInstance K)), (57, sp_i_Instance_solutions (i_Instance_solutions K))], fs := lk [], prot := 0, nt := Tryz.f7.ntmps }
theorem e_i_SolutionsOf (K : Nat) (x : den as_i_SolutionsOf) : i_SolutionsOf K x = evFn (cf_i_SolutionsOf K) as_i_SolutionsOf [false] (.tup (.pair (.sl (.int .i64)) (.pair (.int .i64) .unit))) (en_i_SolutionsOf K K) Tryz.f7.results.toList (bodyOf Tryz.f7) x := by kernel_rfl
theorem ok_i_SolutionsOf (K : Nat) : FnOk Tryz.prog 7 (sp_i_SolutionsOf (i_SolutionsOf K)) :=
  fn_ok (cf := cf_i_SolutionsOf K) (en := en_i_SolutionsOf K K) (c := bodyOf Tryz.f7) Tryz.func7 (by kernel_rfl) (by kernel_rfl) tysOk (fns_ok (l := [(10, sp_i_IsInstance (i_IsInstance K)), (57, sp_i_Instance_solutions (i_Instance_solutions K))]) ⟨ok_i_IsInstance K, ⟨ok_i_Instance_solutions K, trivial⟩⟩) (shs_ok (l := []) trivial) (by kernel_rfl) rfl (Nat.le_of_ble_eq_true (by kernel_rfl)) (by kernel_rfl) (of_decide_eq_true (by kernel_rfl)) (by decide) (fun C hP O => lpOk_of (en := en_i_SolutionsOf K K) (S := hasK su_i_SolutionsOf) (fun i => hasK_lk (sg_i_SolutionsOf K K) i) _ (by rw [show partsOf (hasK su_i_SolutionsOf) (bodyOf Tryz.f7) = [] from by kernel_rfl]; exact trivial)) (fun x y h => by rw [← e_i_SolutionsOf]; exact h)
noncomputable def as_i_CountSolutions : Ty := (.pair (.st (.pair (.int .i64) (.pair (.sl (.st (.pair (.st (.pair (.int .i64) (.pair (.int .i64) .unit))) (.pair (.sl (.int .i64)) .unit)))) .unit))) .unit)
noncomputable def sp_i_CountSolutions (F : ((Int × (List ((Int × Int × Unit) × (List Int) × Unit)) × Unit) × Unit) → Option (Int × Int × Unit)) : FnSpec := ⟨as_i_CountSolutions, [false], (.tup (.pair (.int .i64) (.pair (.int .i64) .unit))), F⟩
noncomputable def i_CountSolutions (K : Nat) (x : ((Int × (List ((Int × Int × Unit) × (List Int) × Unit)) × Unit) × Unit)) : Option (Int × Int × Unit) :=
    (i_SolutionsOf K (x.1, ())).bind fun y1 =>
    some ((y1.1.length : Int), y1.2.1, ())
noncomputable def rv_i_CountSolutions : Lv := [(2, (.v (.int .i64))), (3, (.v (.int .i64)))]
noncomputable def sg_i_CountSolutions {R : Type} (K : Nat) (k : Nat) : List (Nat × SegS R) := []
noncomputable def su_i_CountSolutions : List (Nat × Unit) := []
noncomputable def en_i_CountSolutions {R : Type} (K : Nat) (k : Nat) : Env R := { L := lk [], X := lk [], S := lk (sg_i_CountSolutions K k), rv := rv_i_CountSolutions }
noncomputable def cf_i_CountSolutions (K : Nat) : Cfg := { ty := lk tys, fn := lk [(7, sp_i_SolutionsOf (i_SolutionsOf K))], fs := lk [], prot := 0, nt := Tryz.f12.ntmps }
theorem e_i_CountSolutions (K : Nat) (x : den as_i_CountSolutions) : i_CountSolutions K x = evFn (cf_i_CountSolutions K) as_i_CountSolutions [false] (.tup (.pair (.int .i64) (.pair (.int .i64) .unit))) (en_i_CountSolutions K K) Tryz.f12.results.toList (bodyOf Tryz.f12) x := by kernel_rfl
theorem ok_i_CountSolutions (K : Nat) : FnOk Tryz.prog 12 (sp_i_CountSolutions (i_CountSolutions K)) :=
  fn_ok (cf := cf_i_CountSolutions K) (en := en_i_CountSolutions K K) (c := bodyOf Tryz.f12) Tryz.func12 (by kernel_rfl) (by kernel_rfl) tysOk (fns_ok (l := [(7, sp_i_SolutionsOf (i_SolutionsOf K))]) ⟨ok_i_SolutionsOf K, trivial⟩) (shs_ok (l := []) trivial) (by kernel_rfl) rfl (Nat.le_of_ble_eq_true (by kernel_rfl)) (by kernel_rfl) (of_decide_eq_true (by kernel_rfl)) (by decide) (fun C hP O => lpOk_of (en := en_i_CountSolutions K K) (S := hasK su_i_CountSolutions) (fun i => hasK_lk (sg_i_CountSolutions K K) i) _ (by rw [show partsOf (hasK su_i_CountSolutions) (bodyOf Tryz.f12) = [] from by kernel_rfl]; exact trivial)) (fun x y h => by rw [← e_i_CountSolutions]; exact h)
noncomputable def as_i_one : Ty := (.pair .bool .unit)
noncomputable def sp_i_one (F : (Bool × Unit) → Option Int) : FnSpec := ⟨as_i_one, [false], (.int .i64), F⟩
noncomputable def i_one (K : Nat) (x : (Bool × Unit)) : Option Int :=
    (if x.1 = true then
    some (1 : Int)
    else
    some (0 : Int))
noncomputable def rv_i_one : Lv := [(2, (.v (.int .i64)))]
noncomputable def sg_i_one {R : Type} (K : Nat) (k : Nat) : List (Nat × SegS R) := []
noncomputable def su_i_one : List (Nat × Unit) := []
noncomputable def en_i_one {R : Type} (K : Nat) (k : Nat) : Env R := { L := lk [], X := lk [], S := lk (sg_i_one K k), rv := rv_i_one }
noncomputable def cf_i_one (K : Nat) : Cfg := { ty := lk tys, fn := lk [], fs := lk [], prot := 0, nt := Tryz.f125.ntmps }
theorem e_i_one (K : Nat) (x : den as_i_one) : i_one K x = evFn (cf_i_one K) as_i_one [false] (.int .i64) (en_i_one K K) Tryz.f125.results.toList (bodyOf Tryz.f125) x := by kernel_rfl
theorem ok_i_one (K : Nat) : FnOk Tryz.prog 125 (sp_i_one (i_one K)) :=
  fn_ok (cf := cf_i_one K) (en := en_i_one K K) (c := bodyOf Tryz.f125) Tryz.func125 (by kernel_rfl) (by kernel_rfl) tysOk (fns_ok (l := []) trivial) (shs_ok (l := []) trivial) (by kernel_rfl) rfl (Nat.le_of_ble_eq_true (by kernel_rfl)) (by kernel_rfl) (of_decide_eq_true (by kernel_rfl)) (by decide) (fun C hP O => lpOk_of (en := en_i_one K K) (S := hasK su_i_one) (fun i => hasK_lk (sg_i_one K K) i) _ (by rw [show partsOf (hasK su_i_one) (bodyOf Tryz.f125) = [] from by kernel_rfl]; exact trivial)) (fun x y h => by rw [← e_i_one]; exact h)
noncomputable def as_i_names : Ty := .unit
noncomputable def sp_i_names (F : Unit → Option (List (ByteArray × ByteArray × Unit))) : FnSpec := ⟨as_i_names, [], (.sl (.st (.pair .str (.pair .str .unit)))), F⟩
noncomputable def i_names (K : Nat) (x : Unit) : Option (List (ByteArray × ByteArray × Unit)) :=
    let x1 := (((⟨#[122, 101, 114, 111]⟩ : ByteArray), (ByteArray.empty, ByteArray.empty, ()).2.1, ()).1, (⟨#[48, 58, 48]⟩ : ByteArray), ())
    let x2 := (((⟨#[111, 110, 101]⟩ : ByteArray), (ByteArray.empty, ByteArray.empty, ()).2.1, ()).1, (⟨#[48, 58, 49]⟩ : ByteArray), ())
    let x3 := (((⟨#[105, 100]⟩ : ByteArray), (ByteArray.empty, ByteArray.empty, ()).2.1, ()).1, (⟨#[49, 58, 48, 49]⟩ : ByteArray), ())
    let x4 := (((⟨#[110, 111, 116]⟩ : ByteArray), (ByteArray.empty, ByteArray.empty, ()).2.1, ()).1, (⟨#[49, 58, 49, 48]⟩ : ByteArray), ())
    let x5 := (((⟨#[97, 110, 100]⟩ : ByteArray), (ByteArray.empty, ByteArray.empty, ()).2.1, ()).1, (⟨#[50, 58, 48, 48, 48, 49]⟩ : ByteArray), ())
    let x6 := (((⟨#[111, 114]⟩ : ByteArray), (ByteArray.empty, ByteArray.empty, ()).2.1, ()).1, (⟨#[50, 58, 48, 49, 49, 49]⟩ : ByteArray), ())
    let x7 := (((⟨#[120, 111, 114]⟩ : ByteArray), (ByteArray.empty, ByteArray.empty, ()).2.1, ()).1, (⟨#[50, 58, 48, 49, 49, 48]⟩ : ByteArray), ())
    let x8 := (((⟨#[110, 97, 110, 100]⟩ : ByteArray), (ByteArray.empty, ByteArray.empty, ()).2.1, ()).1, (⟨#[50, 58, 49, 49, 49, 48]⟩ : ByteArray), ())
    let x9 := (((⟨#[110, 111, 114]⟩ : ByteArray), (ByteArray.empty, ByteArray.empty, ()).2.1, ()).1, (⟨#[50, 58, 49, 48, 48, 48]⟩ : ByteArray), ())
    let x10 := (((⟨#[101, 113, 117, 97, 108]⟩ : ByteArray), (ByteArray.empty, ByteArray.empty, ()).2.1, ()).1, (⟨#[50, 58, 49, 48, 48, 49]⟩ : ByteArray), ())
    let x11 := (((⟨#[105, 109, 112, 108, 121]⟩ : ByteArray), (ByteArray.empty, ByteArray.empty, ()).2.1, ()).1, (⟨#[50, 58, 49, 48, 49, 49]⟩ : ByteArray), ())
    let x12 := (((⟨#[109, 97, 106, 111, 114, 105, 116, 121]⟩ : ByteArray), (ByteArray.empty, ByteArray.empty, ()).2.1, ()).1, (⟨#[51, 58, 48, 48, 48, 49, 48, 49, 49, 49]⟩ : ByteArray), ())
    let x13 := (((⟨#[109, 105, 110, 111, 114, 105, 116, 121]⟩ : ByteArray), (ByteArray.empty, ByteArray.empty, ()).2.1, ()).1, (⟨#[51, 58, 48, 49, 49, 48, 49, 48, 48, 49]⟩ : ByteArray), ())
    let x14 := (((⟨#[105, 102]⟩ : ByteArray), (ByteArray.empty, ByteArray.empty, ()).2.1, ()).1, (⟨#[51, 58, 48, 48, 48, 49, 49, 48, 49, 49]⟩ : ByteArray), ())
    let l15 := [x1, x2, x3, x4, x5, x6, x7, x8, x9, x10, x11, x12, x13, x14]
    some l15
noncomputable def rv_i_names : Lv := [(0, (.r (.st (.pair .str (.pair .str .unit)))))]
noncomputable def sg_i_names {R : Type} (K : Nat) (k : Nat) : List (Nat × SegS R) := []
noncomputable def su_i_names : List (Nat × Unit) := []
noncomputable def en_i_names {R : Type} (K : Nat) (k : Nat) : Env R := { L := lk [], X := lk [], S := lk (sg_i_names K k), rv := rv_i_names }
noncomputable def cf_i_names (K : Nat) : Cfg := { ty := lk tys, fn := lk [], fs := lk [], prot := 0, nt := Tryz.f163.ntmps }
theorem e_i_names (K : Nat) (x : den as_i_names) : i_names K x = evFn (cf_i_names K) as_i_names [] (.sl (.st (.pair .str (.pair .str .unit)))) (en_i_names K K) Tryz.f163.results.toList (bodyOf Tryz.f163) x := by kernel_rfl
theorem ok_i_names (K : Nat) : FnOk Tryz.prog 163 (sp_i_names (i_names K)) :=
  fn_ok (cf := cf_i_names K) (en := en_i_names K K) (c := bodyOf Tryz.f163) Tryz.func163 (by kernel_rfl) (by kernel_rfl) tysOk (fns_ok (l := []) trivial) (shs_ok (l := []) trivial) (by kernel_rfl) rfl (Nat.le_of_ble_eq_true (by kernel_rfl)) (by kernel_rfl) (of_decide_eq_true (by kernel_rfl)) (by decide) (fun C hP O => lpOk_of (en := en_i_names K K) (S := hasK su_i_names) (fun i => hasK_lk (sg_i_names K K) i) _ (by rw [show partsOf (hasK su_i_names) (bodyOf Tryz.f163) = [] from by kernel_rfl]; exact trivial)) (fun x y h => by rw [← e_i_names]; exact h)
noncomputable def as_i_isArity : Ty := (.pair (.int .i64) .unit)
noncomputable def sp_i_isArity (F : (Int × Unit) → Option Bool) : FnSpec := ⟨as_i_isArity, [false], .bool, F⟩
noncomputable def i_isArity (K : Nat) (x : (Int × Unit)) : Option Bool :=
    (i_within K (x.1, (0 : Int), (4 : Int), ())).bind fun y1 =>
    some y1
noncomputable def rv_i_isArity : Lv := [(2, (.v .bool))]
noncomputable def sg_i_isArity {R : Type} (K : Nat) (k : Nat) : List (Nat × SegS R) := []
noncomputable def su_i_isArity : List (Nat × Unit) := []
noncomputable def en_i_isArity {R : Type} (K : Nat) (k : Nat) : Env R := { L := lk [], X := lk [], S := lk (sg_i_isArity K k), rv := rv_i_isArity }
noncomputable def cf_i_isArity (K : Nat) : Cfg := { ty := lk tys, fn := lk [(60, sp_i_within (i_within K))], fs := lk [], prot := 0, nt := Tryz.f89.ntmps }
theorem e_i_isArity (K : Nat) (x : den as_i_isArity) : i_isArity K x = evFn (cf_i_isArity K) as_i_isArity [false] .bool (en_i_isArity K K) Tryz.f89.results.toList (bodyOf Tryz.f89) x := by kernel_rfl
theorem ok_i_isArity (K : Nat) : FnOk Tryz.prog 89 (sp_i_isArity (i_isArity K)) :=
  fn_ok (cf := cf_i_isArity K) (en := en_i_isArity K K) (c := bodyOf Tryz.f89) Tryz.func89 (by kernel_rfl) (by kernel_rfl) tysOk (fns_ok (l := [(60, sp_i_within (i_within K))]) ⟨ok_i_within K, trivial⟩) (shs_ok (l := []) trivial) (by kernel_rfl) rfl (Nat.le_of_ble_eq_true (by kernel_rfl)) (by kernel_rfl) (of_decide_eq_true (by kernel_rfl)) (by decide) (fun C hP O => lpOk_of (en := en_i_isArity K K) (S := hasK su_i_isArity) (fun i => hasK_lk (sg_i_isArity K K) i) _ (by rw [show partsOf (hasK su_i_isArity) (bodyOf Tryz.f89) = [] from by kernel_rfl]; exact trivial)) (fun x y h => by rw [← e_i_isArity]; exact h)
noncomputable def as_i_IsFunc : Ty := (.pair (.st (.pair (.int .i64) (.pair (.int .i64) .unit))) .unit)
noncomputable def sp_i_IsFunc (F : ((Int × Int × Unit) × Unit) → Option Bool) : FnSpec := ⟨as_i_IsFunc, [false], .bool, F⟩
noncomputable def i_IsFunc (K : Nat) (x : ((Int × Int × Unit) × Unit)) : Option Bool :=
    (i_isArity K (x.1.1, ())).bind fun y1 =>
    (if y1 = true then
    (i_funcsOf K (x.1.1, ())).bind fun y2 =>
    (i_within K (x.1.2.1, (0 : Int), (IntKind.i64.wrap (y2 - (1 : Int))), ())).bind fun y3 =>
    some y3
    else
    some false)
noncomputable def rv_i_IsFunc : Lv := [(2, (.v .bool))]
noncomputable def sg_i_IsFunc {R : Type} (K : Nat) (k : Nat) : List (Nat × SegS R) := []
noncomputable def su_i_IsFunc : List (Nat × Unit) := []
noncomputable def en_i_IsFunc {R : Type} (K : Nat) (k : Nat) : Env R := { L := lk [], X := lk [], S := lk (sg_i_IsFunc K k), rv := rv_i_IsFunc }
noncomputable def cf_i_IsFunc (K : Nat) : Cfg := { ty := lk tys, fn := lk [(60, sp_i_within (i_within K)), (89, sp_i_isArity (i_isArity K)), (123, sp_i_funcsOf (i_funcsOf K))], fs := lk [], prot := 0, nt := Tryz.f97.ntmps }
theorem e_i_IsFunc (K : Nat) (x : den as_i_IsFunc) : i_IsFunc K x = evFn (cf_i_IsFunc K) as_i_IsFunc [false] .bool (en_i_IsFunc K K) Tryz.f97.results.toList (bodyOf Tryz.f97) x := by kernel_rfl
theorem ok_i_IsFunc (K : Nat) : FnOk Tryz.prog 97 (sp_i_IsFunc (i_IsFunc K)) :=
  fn_ok (cf := cf_i_IsFunc K) (en := en_i_IsFunc K K) (c := bodyOf Tryz.f97) Tryz.func97 (by kernel_rfl) (by kernel_rfl) tysOk (fns_ok (l := [(60, sp_i_within (i_within K)), (89, sp_i_isArity (i_isArity K)), (123, sp_i_funcsOf (i_funcsOf K))]) ⟨ok_i_within K, ⟨ok_i_isArity K, ⟨ok_i_funcsOf K, trivial⟩⟩⟩) (shs_ok (l := []) trivial) (by kernel_rfl) rfl (Nat.le_of_ble_eq_true (by kernel_rfl)) (by kernel_rfl) (of_decide_eq_true (by kernel_rfl)) (by decide) (fun C hP O => lpOk_of (en := en_i_IsFunc K K) (S := hasK su_i_IsFunc) (fun i => hasK_lk (sg_i_IsFunc K K) i) _ (by rw [show partsOf (hasK su_i_IsFunc) (bodyOf Tryz.f97) = [] from by kernel_rfl]; exact trivial)) (fun x y h => by rw [← e_i_IsFunc]; exact h)
noncomputable def as_internal_bytealg_IndexByteString : Ty := (.pair .str (.pair (.int .u8) .unit))
noncomputable def sp_internal_bytealg_IndexByteString (F : (ByteArray × Int × Unit) → Option Int) : FnSpec := ⟨as_internal_bytealg_IndexByteString, [false, false], (.int .i64), F⟩
noncomputable def internal_bytealg_IndexByteString (K : Nat) (x : ByteArray × Int × Unit) : Option Int := some (Lib.indexByte x.1.data.toList x.2.1.toNat.toUInt8)
theorem ok_internal_bytealg_IndexByteString (K : Nat) : FnOk Tryz.prog 180 (sp_internal_bytealg_IndexByteString (internal_bytealg_IndexByteString K)) := indexByte_ok Tryz.func180 (by kernel_rfl) (by kernel_rfl) (by kernel_rfl) (by kernel_rfl)
noncomputable def as_internal_stringslite_IndexByte : Ty := (.pair .str (.pair (.int .u8) .unit))
noncomputable def sp_internal_stringslite_IndexByte (F : (ByteArray × Int × Unit) → Option Int) : FnSpec := ⟨as_internal_stringslite_IndexByte, [false, false], (.int .i64), F⟩
noncomputable def internal_stringslite_IndexByte (K : Nat) (x : (ByteArray × Int × Unit)) : Option Int :=
    (internal_bytealg_IndexByteString K (x.1, x.2.1, ())).bind fun y1 =>
    some y1
noncomputable def rv_internal_stringslite_IndexByte : Lv := [(4, (.v (.int .i64)))]
noncomputable def sg_internal_stringslite_IndexByte {R : Type} (K : Nat) (k : Nat) : List (Nat × SegS R) := []
noncomputable def su_internal_stringslite_IndexByte : List (Nat × Unit) := []
noncomputable def en_internal_stringslite_IndexByte {R : Type} (K : Nat) (k : Nat) : Env R := { L := lk [], X := lk [], S := lk (sg_internal_stringslite_IndexByte K k), rv := rv_internal_stringslite_IndexByte }
noncomputable def cf_internal_stringslite_IndexByte (K : Nat) : Cfg := { ty := lk tys, fn := lk [(180, sp_internal_bytealg_IndexByteString (internal_bytealg_IndexByteString K))], fs := lk [], prot := 0, nt := Tryz.f157.ntmps }
theorem e_internal_stringslite_IndexByte (K : Nat) (x : den as_internal_stringslite_IndexByte) : internal_stringslite_IndexByte K x = evFn (cf_internal_stringslite_IndexByte K) as_internal_stringslite_IndexByte [false, false] (.int .i64) (en_internal_stringslite_IndexByte K K) Tryz.f157.results.toList (bodyOf Tryz.f157) x := by kernel_rfl
theorem ok_internal_stringslite_IndexByte (K : Nat) : FnOk Tryz.prog 157 (sp_internal_stringslite_IndexByte (internal_stringslite_IndexByte K)) :=
  fn_ok (cf := cf_internal_stringslite_IndexByte K) (en := en_internal_stringslite_IndexByte K K) (c := bodyOf Tryz.f157) Tryz.func157 (by kernel_rfl) (by kernel_rfl) tysOk (fns_ok (l := [(180, sp_internal_bytealg_IndexByteString (internal_bytealg_IndexByteString K))]) ⟨ok_internal_bytealg_IndexByteString K, trivial⟩) (shs_ok (l := []) trivial) (by kernel_rfl) rfl (Nat.le_of_ble_eq_true (by kernel_rfl)) (by kernel_rfl) (of_decide_eq_true (by kernel_rfl)) (by decide) (fun C hP O => lpOk_of (en := en_internal_stringslite_IndexByte K K) (S := hasK su_internal_stringslite_IndexByte) (fun i => hasK_lk (sg_internal_stringslite_IndexByte K K) i) _ (by rw [show partsOf (hasK su_internal_stringslite_IndexByte) (bodyOf Tryz.f157) = [] from by kernel_rfl]; exact trivial)) (fun x y h => by rw [← e_internal_stringslite_IndexByte]; exact h)
noncomputable def as_internal_stringslite_Index : Ty := (.pair .str (.pair .str .unit))
noncomputable def sp_internal_stringslite_Index (F : (ByteArray × ByteArray × Unit) → Option Int) : FnSpec := ⟨as_internal_stringslite_Index, [false, false], (.int .i64), F⟩
noncomputable def internal_stringslite_Index (K : Nat) (x : (ByteArray × ByteArray × Unit)) : Option Int :=
    (if (decide ((x.2.1.size : Int) = (0 : Int))) = true then
    some (0 : Int)
    else
    (if (cmpS .eql x.2.1 x.1) = true then
    some (0 : Int)
    else
    (if (decide ((x.2.1.size : Int) = (1 : Int))) = true then
    (if (bnds (0 : Int) (x.2.1.size : Int)) = true then
    (internal_stringslite_IndexByte K (x.1, (byteAt x.2.1 (0 : Int)), ())).bind fun y1 =>
    some y1
    else
    none)
    else
    (if (decide ((x.2.1.size : Int) ≥ (x.1.size : Int))) = true then
    some (-1 : Int)
    else
    none))))
noncomputable def rv_internal_stringslite_Index : Lv := [(4, (.v (.int .i64)))]
noncomputable def sg_internal_stringslite_Index {R : Type} (K : Nat) (k : Nat) : List (Nat × SegS R) := []
noncomputable def su_internal_stringslite_Index : List (Nat × Unit) := []
noncomputable def en_internal_stringslite_Index {R : Type} (K : Nat) (k : Nat) : Env R := { L := lk [], X := lk [], S := lk (sg_internal_stringslite_Index K k), rv := rv_internal_stringslite_Index }
noncomputable def cf_internal_stringslite_Index (K : Nat) : Cfg := { ty := lk tys, fn := lk [(157, sp_internal_stringslite_IndexByte (internal_stringslite_IndexByte K))], fs := lk [], prot := 0, nt := Tryz.f181.ntmps }
noncomputable def c_internal_stringslite_Index_L15 : Code := nthC (partsOf (hasK su_internal_stringslite_Index) (bodyOf Tryz.f181)) 0
theorem e_internal_stringslite_Index (K : Nat) (x : den as_internal_stringslite_Index) : internal_stringslite_Index K x = evFn (cf_internal_stringslite_Index K) as_internal_stringslite_Index [false, false] (.int .i64) (en_internal_stringslite_Index K K) Tryz.f181.results.toList (bodyOf Tryz.f181) x := by kernel_rfl
theorem ok_internal_stringslite_Index (K : Nat) : FnOk Tryz.prog 181 (sp_internal_stringslite_Index (internal_stringslite_Index K)) :=
  fn_ok (cf := cf_internal_stringslite_Index K) (en := en_internal_stringslite_Index K K) (c := bodyOf Tryz.f181) Tryz.func181 (by kernel_rfl) (by kernel_rfl) tysOk (fns_ok (l := [(157, sp_internal_stringslite_IndexByte (internal_stringslite_IndexByte K))]) ⟨ok_internal_stringslite_IndexByte K, trivial⟩) (shs_ok (l := []) trivial) (by kernel_rfl) rfl (Nat.le_of_ble_eq_true (by kernel_rfl)) (by kernel_rfl) (of_decide_eq_true (by kernel_rfl)) (by decide) (fun C hP O => lpOk_of (en := en_internal_stringslite_Index K K) (S := hasK su_internal_stringslite_Index) (fun i => hasK_lk (sg_internal_stringslite_Index K K) i) _ (by rw [show partsOf (hasK su_internal_stringslite_Index) (bodyOf Tryz.f181) = [(true, c_internal_stringslite_Index_L15)] from by kernel_rfl]; exact (lpL_none (by kernel_rfl) trivial))) (fun x y h => by rw [← e_internal_stringslite_Index]; exact h)
noncomputable def as_internal_stringslite_Cut : Ty := (.pair .str (.pair .str .unit))
noncomputable def sp_internal_stringslite_Cut (F : (ByteArray × ByteArray × Unit) → Option (ByteArray × ByteArray × Bool × Unit)) : FnSpec := ⟨as_internal_stringslite_Cut, [false, false], (.tup (.pair .str (.pair .str (.pair .bool .unit)))), F⟩
noncomputable def internal_stringslite_Cut (K : Nat) (x : (ByteArray × ByteArray × Unit)) : Option (ByteArray × ByteArray × Bool × Unit) :=
    (internal_stringslite_Index K (x.1, x.2.1, ())).bind fun y1 =>
    (if (decide (y1 ≥ (0 : Int))) = true then
    (if (decide (0 ≤ (0 : Int)) && decide ((0 : Int) ≤ y1) && decide (y1 ≤ (x.1.size : Int))) = true then
    (if (decide (0 ≤ (IntKind.i64.wrap (y1 + (x.2.1.size : Int)))) && decide ((IntKind.i64.wrap (y1 + (x.2.1.size : Int))) ≤ (x.1.size : Int)) && decide ((x.1.size : Int) ≤ (x.1.size : Int))) = true then
    let x2 := (x.1.extract (IntKind.i64.wrap (y1 + (x.2.1.size : Int))).toNat (x.1.size : Int).toNat)
    some ((x.1.extract (0 : Int).toNat y1.toNat), x2, true, ())
    else
    none)
    else
    none)
    else
    some (x.1, (⟨#[]⟩ : ByteArray), false, ()))
noncomputable def rv_internal_stringslite_Cut : Lv := [(4, (.v .str)), (5, (.v .str)), (6, (.v .bool))]
noncomputable def sg_internal_stringslite_Cut {R : Type} (K : Nat) (k : Nat) : List (Nat × SegS R) := []
noncomputable def su_internal_stringslite_Cut : List (Nat × Unit) := []
noncomputable def en_internal_stringslite_Cut {R : Type} (K : Nat) (k : Nat) : Env R := { L := lk [], X := lk [], S := lk (sg_internal_stringslite_Cut K k), rv := rv_internal_stringslite_Cut }
noncomputable def cf_internal_stringslite_Cut (K : Nat) : Cfg := { ty := lk tys, fn := lk [(181, sp_internal_stringslite_Index (internal_stringslite_Index K))], fs := lk [], prot := 0, nt := Tryz.f191.ntmps }
theorem e_internal_stringslite_Cut (K : Nat) (x : den as_internal_stringslite_Cut) : internal_stringslite_Cut K x = evFn (cf_internal_stringslite_Cut K) as_internal_stringslite_Cut [false, false] (.tup (.pair .str (.pair .str (.pair .bool .unit)))) (en_internal_stringslite_Cut K K) Tryz.f191.results.toList (bodyOf Tryz.f191) x := by kernel_rfl
theorem ok_internal_stringslite_Cut (K : Nat) : FnOk Tryz.prog 191 (sp_internal_stringslite_Cut (internal_stringslite_Cut K)) :=
  fn_ok (cf := cf_internal_stringslite_Cut K) (en := en_internal_stringslite_Cut K K) (c := bodyOf Tryz.f191) Tryz.func191 (by kernel_rfl) (by kernel_rfl) tysOk (fns_ok (l := [(181, sp_internal_stringslite_Index (internal_stringslite_Index K))]) ⟨ok_internal_stringslite_Index K, trivial⟩) (shs_ok (l := []) trivial) (by kernel_rfl) rfl (Nat.le_of_ble_eq_true (by kernel_rfl)) (by kernel_rfl) (of_decide_eq_true (by kernel_rfl)) (by decide) (fun C hP O => lpOk_of (en := en_internal_stringslite_Cut K K) (S := hasK su_internal_stringslite_Cut) (fun i => hasK_lk (sg_internal_stringslite_Cut K K) i) _ (by rw [show partsOf (hasK su_internal_stringslite_Cut) (bodyOf Tryz.f191) = [] from by kernel_rfl]; exact trivial)) (fun x y h => by rw [← e_internal_stringslite_Cut]; exact h)
noncomputable def as_strings_Cut : Ty := (.pair .str (.pair .str .unit))
noncomputable def sp_strings_Cut (F : (ByteArray × ByteArray × Unit) → Option (ByteArray × ByteArray × Bool × Unit)) : FnSpec := ⟨as_strings_Cut, [false, false], (.tup (.pair .str (.pair .str (.pair .bool .unit)))), F⟩
noncomputable def strings_Cut (K : Nat) (x : (ByteArray × ByteArray × Unit)) : Option (ByteArray × ByteArray × Bool × Unit) :=
    (internal_stringslite_Cut K (x.1, x.2.1, ())).bind fun y1 =>
    some (y1.1, y1.2.1, y1.2.2.1, ())
noncomputable def rv_strings_Cut : Lv := [(4, (.v .str)), (5, (.v .str)), (6, (.v .bool))]
noncomputable def sg_strings_Cut {R : Type} (K : Nat) (k : Nat) : List (Nat × SegS R) := []
noncomputable def su_strings_Cut : List (Nat × Unit) := []
noncomputable def en_strings_Cut {R : Type} (K : Nat) (k : Nat) : Env R := { L := lk [], X := lk [], S := lk (sg_strings_Cut K k), rv := rv_strings_Cut }
noncomputable def cf_strings_Cut (K : Nat) : Cfg := { ty := lk tys, fn := lk [(191, sp_internal_stringslite_Cut (internal_stringslite_Cut K))], fs := lk [], prot := 0, nt := Tryz.f182.ntmps }
theorem e_strings_Cut (K : Nat) (x : den as_strings_Cut) : strings_Cut K x = evFn (cf_strings_Cut K) as_strings_Cut [false, false] (.tup (.pair .str (.pair .str (.pair .bool .unit)))) (en_strings_Cut K K) Tryz.f182.results.toList (bodyOf Tryz.f182) x := by kernel_rfl
theorem ok_strings_Cut (K : Nat) : FnOk Tryz.prog 182 (sp_strings_Cut (strings_Cut K)) :=
  fn_ok (cf := cf_strings_Cut K) (en := en_strings_Cut K K) (c := bodyOf Tryz.f182) Tryz.func182 (by kernel_rfl) (by kernel_rfl) tysOk (fns_ok (l := [(191, sp_internal_stringslite_Cut (internal_stringslite_Cut K))]) ⟨ok_internal_stringslite_Cut K, trivial⟩) (shs_ok (l := []) trivial) (by kernel_rfl) rfl (Nat.le_of_ble_eq_true (by kernel_rfl)) (by kernel_rfl) (of_decide_eq_true (by kernel_rfl)) (by decide) (fun C hP O => lpOk_of (en := en_strings_Cut K K) (S := hasK su_strings_Cut) (fun i => hasK_lk (sg_strings_Cut K K) i) _ (by rw [show partsOf (hasK su_strings_Cut) (bodyOf Tryz.f182) = [] from by kernel_rfl]; exact trivial)) (fun x y h => by rw [← e_strings_Cut]; exact h)
noncomputable def as_i_Func_at : Ty := (.pair (.st (.pair (.int .i64) (.pair (.int .i64) .unit))) (.pair (.int .i64) .unit))
noncomputable def sp_i_Func_at (F : ((Int × Int × Unit) × Int × Unit) → Option Int) : FnSpec := ⟨as_i_Func_at, [false, false], (.int .i64), F⟩
noncomputable def i_Func_at (K : Nat) (x : ((Int × Int × Unit) × Int × Unit)) : Option Int :=
    (i_bit K (x.1.2.1, x.2.1, ())).bind fun y1 =>
    some y1
noncomputable def rv_i_Func_at : Lv := [(4, (.v (.int .i64)))]
noncomputable def sg_i_Func_at {R : Type} (K : Nat) (k : Nat) : List (Nat × SegS R) := []
noncomputable def su_i_Func_at : List (Nat × Unit) := []
noncomputable def en_i_Func_at {R : Type} (K : Nat) (k : Nat) : Env R := { L := lk [], X := lk [], S := lk (sg_i_Func_at K k), rv := rv_i_Func_at }
noncomputable def cf_i_Func_at (K : Nat) : Cfg := { ty := lk tys, fn := lk [(131, sp_i_bit (i_bit K))], fs := lk [], prot := 0, nt := Tryz.f154.ntmps }
theorem e_i_Func_at (K : Nat) (x : den as_i_Func_at) : i_Func_at K x = evFn (cf_i_Func_at K) as_i_Func_at [false, false] (.int .i64) (en_i_Func_at K K) Tryz.f154.results.toList (bodyOf Tryz.f154) x := by kernel_rfl
theorem ok_i_Func_at (K : Nat) : FnOk Tryz.prog 154 (sp_i_Func_at (i_Func_at K)) :=
  fn_ok (cf := cf_i_Func_at K) (en := en_i_Func_at K K) (c := bodyOf Tryz.f154) Tryz.func154 (by kernel_rfl) (by kernel_rfl) tysOk (fns_ok (l := [(131, sp_i_bit (i_bit K))]) ⟨ok_i_bit K, trivial⟩) (shs_ok (l := []) trivial) (by kernel_rfl) rfl (Nat.le_of_ble_eq_true (by kernel_rfl)) (by kernel_rfl) (of_decide_eq_true (by kernel_rfl)) (by decide) (fun C hP O => lpOk_of (en := en_i_Func_at K K) (S := hasK su_i_Func_at) (fun i => hasK_lk (sg_i_Func_at K K) i) _ (by rw [show partsOf (hasK su_i_Func_at) (bodyOf Tryz.f154) = [] from by kernel_rfl]; exact trivial)) (fun x y h => by rw [← e_i_Func_at]; exact h)
noncomputable def as_i_Func_rows : Ty := (.pair (.st (.pair (.int .i64) (.pair (.int .i64) .unit))) .unit)
noncomputable def sp_i_Func_rows (F : ((Int × Int × Unit) × Unit) → Option Int) : FnSpec := ⟨as_i_Func_rows, [false], (.int .i64), F⟩
noncomputable def i_Func_rows (K : Nat) (x : ((Int × Int × Unit) × Unit)) : Option Int :=
    (i_rowsOf K (x.1.1, ())).bind fun y1 =>
    some y1
noncomputable def rv_i_Func_rows : Lv := [(2, (.v (.int .i64)))]
noncomputable def sg_i_Func_rows {R : Type} (K : Nat) (k : Nat) : List (Nat × SegS R) := []
noncomputable def su_i_Func_rows : List (Nat × Unit) := []
noncomputable def en_i_Func_rows {R : Type} (K : Nat) (k : Nat) : Env R := { L := lk [], X := lk [], S := lk (sg_i_Func_rows K k), rv := rv_i_Func_rows }
noncomputable def cf_i_Func_rows (K : Nat) : Cfg := { ty := lk tys, fn := lk [(68, sp_i_rowsOf (i_rowsOf K))], fs := lk [], prot := 0, nt := Tryz.f155.ntmps }
theorem e_i_Func_rows (K : Nat) (x : den as_i_Func_rows) : i_Func_rows K x = evFn (cf_i_Func_rows K) as_i_Func_rows [false] (.int .i64) (en_i_Func_rows K K) Tryz.f155.results.toList (bodyOf Tryz.f155) x := by kernel_rfl
theorem ok_i_Func_rows (K : Nat) : FnOk Tryz.prog 155 (sp_i_Func_rows (i_Func_rows K)) :=
  fn_ok (cf := cf_i_Func_rows K) (en := en_i_Func_rows K K) (c := bodyOf Tryz.f155) Tryz.func155 (by kernel_rfl) (by kernel_rfl) tysOk (fns_ok (l := [(68, sp_i_rowsOf (i_rowsOf K))]) ⟨ok_i_rowsOf K, trivial⟩) (shs_ok (l := []) trivial) (by kernel_rfl) rfl (Nat.le_of_ble_eq_true (by kernel_rfl)) (by kernel_rfl) (of_decide_eq_true (by kernel_rfl)) (by decide) (fun C hP O => lpOk_of (en := en_i_Func_rows K K) (S := hasK su_i_Func_rows) (fun i => hasK_lk (sg_i_Func_rows K K) i) _ (by rw [show partsOf (hasK su_i_Func_rows) (bodyOf Tryz.f155) = [] from by kernel_rfl]; exact trivial)) (fun x y h => by rw [← e_i_Func_rows]; exact h)
noncomputable def as_i_Func_text : Ty := (.pair (.st (.pair (.int .i64) (.pair (.int .i64) .unit))) .unit)
noncomputable def sp_i_Func_text (F : ((Int × Int × Unit) × Unit) → Option ByteArray) : FnSpec := ⟨as_i_Func_text, [false], .str, F⟩
noncomputable def i_Func_text_l3 {R : Type} (K : Nat) : Nat → (Int × Int × Unit) → (List Int) → Int → Int → ((List Int) → Option R) → Option R
  | 0, _, _, _, _, _ => none
  | k + 1, v1, v3, v11, v12, kx0 =>
    (if (decide (v12 < v11)) = true then
    (i_Func_at K (v1, v12, ())).bind fun y3 =>
    let l4 := [(IntKind.u8.wrap ((48 : Int) + (IntKind.u8.wrap y3)))]
    (if (decide (v3.length + l4.length ≤ lim)) = true then
    let l5 := (v3 ++ l4)
    i_Func_text_l3 K k v1 l5 v11 (IntKind.i64.wrap (v12 + (1 : Int))) kx0
    else
    none)
    else
    kx0 v3)
noncomputable def i_Func_text (K : Nat) (x : ((Int × Int × Unit) × Unit)) : Option ByteArray :=
    let l1 := [(IntKind.u8.wrap ((48 : Int) + (IntKind.u8.wrap x.1.1))), (58 : Int)]
    (i_Func_rows K (x.1, ())).bind fun y2 =>
    i_Func_text_l3 K K x.1 l1 y2 (0 : Int) (fun z6 =>
    some (bytesOf z6))
noncomputable def lv_i_Func_text_L3 : Lv := [(1, (.bx (.v (.st (.pair (.int .i64) (.pair (.int .i64) .unit)))))), (3, (.r (.int .u8))), (11, (.v (.int .i64))), (12, (.v (.int .i64)))]
noncomputable def lv_i_Func_text_X0 : Lv := [(3, (.r (.int .u8)))]
noncomputable def rv_i_Func_text : Lv := [(2, (.v .str))]
noncomputable def gi_Func_text_l3 {R : Type} (K : Nat) (k : Nat) (x : den lv_i_Func_text_L3.ty) (kx : Nat → St → Option R) (kr : St → Option R) : Option R := i_Func_text_l3 K k x.1 x.2.1 x.2.2.1 x.2.2.2.1 (fun z0 => kx 0 (mkSt lv_i_Func_text_X0 (z0, ())))
noncomputable def sg_i_Func_text {R : Type} (K : Nat) (k : Nat) : List (Nat × SegS R) := []
noncomputable def su_i_Func_text : List (Nat × Unit) := []
noncomputable def en_i_Func_text {R : Type} (K : Nat) (k : Nat) : Env R := { L := lk [(3, mkLoop lv_i_Func_text_L3 (gi_Func_text_l3 K k))], X := lk [(0, lv_i_Func_text_X0)], S := lk (sg_i_Func_text K k), rv := rv_i_Func_text }
noncomputable def cf_i_Func_text (K : Nat) : Cfg := { ty := lk tys, fn := lk [(154, sp_i_Func_at (i_Func_at K)), (155, sp_i_Func_rows (i_Func_rows K))], fs := lk [], prot := 0, nt := Tryz.f183.ntmps }
noncomputable def c_i_Func_text_L3 : Code := nthC (partsOf (hasK su_i_Func_text) (bodyOf Tryz.f183)) 0
theorem ei_Func_text_l3 {R : Type} (K : Nat) (k : Nat) (x : den lv_i_Func_text_L3.ty) (kx : Nat → St → Option R) (kr : St → Option R) : gi_Func_text_l3 K (k + 1) x kx kr = evC (cf_i_Func_text K) (en_i_Func_text K k) c_i_Func_text_L3 (mkSt lv_i_Func_text_L3 x) (fun s => mkLoop lv_i_Func_text_L3 (gi_Func_text_l3 K k) s kx kr) kx kr := by kernel_rfl
theorem si_Func_text_l3 {R : Type} (K : Nat) (C : Cx) (hP : C.P = Tryz.prog) (O : CfgOk C (cf_i_Func_text K)) (k : Nat) : LpS C (R := R) (mkLoop lv_i_Func_text_L3 (gi_Func_text_l3 K k)) c_i_Func_text_L3 :=
  loop_sound O (by rw [hP]; kernel_rfl) (fun x kx kr => rfl) (ei_Func_text_l3 K) (fun k => lpOk_of (en := en_i_Func_text K k) (S := hasK su_i_Func_text) (fun i => hasK_lk (sg_i_Func_text K k) i) _ (by rw [show partsOf (hasK su_i_Func_text) c_i_Func_text_L3 = [] from by kernel_rfl]; exact trivial)) k
theorem e_i_Func_text (K : Nat) (x : den as_i_Func_text) : i_Func_text K x = evFn (cf_i_Func_text K) as_i_Func_text [false] .str (en_i_Func_text K K) Tryz.f183.results.toList (bodyOf Tryz.f183) x := by kernel_rfl
theorem ok_i_Func_text (K : Nat) : FnOk Tryz.prog 183 (sp_i_Func_text (i_Func_text K)) :=
  fn_ok (cf := cf_i_Func_text K) (en := en_i_Func_text K K) (c := bodyOf Tryz.f183) Tryz.func183 (by kernel_rfl) (by kernel_rfl) tysOk (fns_ok (l := [(154, sp_i_Func_at (i_Func_at K)), (155, sp_i_Func_rows (i_Func_rows K))]) ⟨ok_i_Func_at K, ⟨ok_i_Func_rows K, trivial⟩⟩) (shs_ok (l := []) trivial) (by kernel_rfl) rfl (Nat.le_of_ble_eq_true (by kernel_rfl)) (by kernel_rfl) (of_decide_eq_true (by kernel_rfl)) (by decide) (fun C hP O => lpOk_of (en := en_i_Func_text K K) (S := hasK su_i_Func_text) (fun i => hasK_lk (sg_i_Func_text K K) i) _ (by rw [show partsOf (hasK su_i_Func_text) (bodyOf Tryz.f183) = [(true, c_i_Func_text_L3)] from by kernel_rfl]; exact (lpL_loop (f := mkLoop lv_i_Func_text_L3 (gi_Func_text_l3 K K)) (by kernel_rfl) (si_Func_text_l3 K C hP O K) trivial))) (fun x y h => by rw [← e_i_Func_text]; exact h)
noncomputable def as_i_readFunc : Ty := (.pair .str .unit)
noncomputable def sp_i_readFunc (F : (ByteArray × Unit) → Option ((Int × Int × Unit) × Bool × Unit)) : FnSpec := ⟨as_i_readFunc, [false], (.tup (.pair (.st (.pair (.int .i64) (.pair (.int .i64) .unit))) (.pair .bool .unit))), F⟩
noncomputable def i_readFunc_l6 {R : Type} (K : Nat) : Nat → ByteArray → (Int × Int × Unit) → ByteArray → (Int × Int × Unit) → Int → Int → (ByteArray → (Int × Int × Unit) → (Int × Int × Unit) → Option R) → Option R
  | 0, _, _, _, _, _, _, _ => none
  | k + 1, v0, v2, v5, v7, v31, v32, kx0 =>
    (if (decide (v32 < v31)) = true then
    (if (bnds v32 (v5.size : Int)) = true then
    (if (decide ((byteAt v5 v32) = (49 : Int))) = true then
    (if (decide ((0 : Int) ≤ v32)) = true then
    i_readFunc_l6 K k v0 v2 v5 (v7.1, (bitI .or .i64 v7.2.1 (shlI .i64 (1 : Int) v32)), ()) v31 (IntKind.i64.wrap (v32 + (1 : Int))) kx0
    else
    none)
    else
    i_readFunc_l6 K k v0 v2 v5 v7 v31 (IntKind.i64.wrap (v32 + (1 : Int))) kx0)
    else
    none)
    else
    kx0 v0 v2 v7)
noncomputable def i_readFunc_j4 {R : Type} (K : Nat) (k : Nat) (v0 : ByteArray) (v2 : (Int × Int × Unit)) (v4 : ByteArray) (v5 : ByteArray) (kn : Option R) (kr : ((Int × Int × Unit) → Bool → Option R)) : Option R :=
    (if (bnds (0 : Int) (v4.size : Int)) = true then
    let x3 := (IntKind.i64.wrap ((IntKind.i64.wrap (byteAt v4 (0 : Int))) - (48 : Int)))
    i_readFunc_l6 K k v0 v2 v5 (x3, ((0 : Int), (0 : Int), ()).2.1, ()) (v5.size : Int) (0 : Int) (fun z4 z5 z6 =>
    (i_IsFunc K (z6, ())).bind fun y7 =>
    (if (!y7) = true then
    kr ((0 : Int), (0 : Int), ()) false
    else
    (i_Func_text K (z6, ())).bind fun y8 =>
    (if (cmpS .neq y8 z4) = true then
    kr ((0 : Int), (0 : Int), ()) false
    else
    kr z6 true)))
    else
    none)
noncomputable def i_readFunc (K : Nat) (x : (ByteArray × Unit)) : Option ((Int × Int × Unit) × Bool × Unit) :=
    (strings_Cut K (x.1, (⟨#[58]⟩ : ByteArray), ())).bind fun y1 =>
    (if (!decide ((y1.1.size : Int) = (1 : Int))) = true then
    some (((0 : Int), (0 : Int), ()), false, ())
    else
    (i_rowsOf K ((4 : Int), ())).bind fun y2 =>
    (if (decide ((y1.2.1.size : Int) > y2)) = true then
    some (((0 : Int), (0 : Int), ()), false, ())
    else
    i_readFunc_j4 K K x.1 ((0 : Int), (0 : Int), ()) y1.1 y1.2.1 none (fun z9 z10 =>
    some (z9, z10, ()))))
noncomputable def lv_i_readFunc_J4 : Lv := [(0, (.v .str)), (2, (.bx (.v (.st (.pair (.int .i64) (.pair (.int .i64) .unit)))))), (4, (.v .str)), (5, (.v .str))]
noncomputable def lv_i_readFunc_L6 : Lv := [(0, (.v .str)), (2, (.bx (.v (.st (.pair (.int .i64) (.pair (.int .i64) .unit)))))), (5, (.v .str)), (7, (.bx (.v (.st (.pair (.int .i64) (.pair (.int .i64) .unit)))))), (31, (.v (.int .i64))), (32, (.v (.int .i64)))]
noncomputable def lv_i_readFunc_N4 : Lv := []
noncomputable def lv_i_readFunc_X0 : Lv := [(0, (.v .str)), (2, (.bx (.v (.st (.pair (.int .i64) (.pair (.int .i64) .unit)))))), (7, (.bx (.v (.st (.pair (.int .i64) (.pair (.int .i64) .unit))))))]
noncomputable def rv_i_readFunc : Lv := [(2, (.bx (.v (.st (.pair (.int .i64) (.pair (.int .i64) .unit)))))), (3, (.v .bool))]
noncomputable def gi_readFunc_l6 {R : Type} (K : Nat) (k : Nat) (x : den lv_i_readFunc_L6.ty) (kx : Nat → St → Option R) (kr : St → Option R) : Option R := i_readFunc_l6 K k x.1 x.2.1 x.2.2.1 x.2.2.2.1 x.2.2.2.2.1 x.2.2.2.2.2.1 (fun z0 z1 z2 => kx 0 (mkSt lv_i_readFunc_X0 (z0, z1, z2, ())))
noncomputable def gi_readFunc_j4 {R : Type} (K : Nat) (k : Nat) (x : den lv_i_readFunc_J4.ty) (kn : den lv_i_readFunc_N4.ty → Option R) (kx : Nat → St → Option R) (kr : St → Option R) : Option R := i_readFunc_j4 K k x.1 x.2.1 x.2.2.1 x.2.2.2.1 (kn ()) (fun z0 z1 => kr (mkSt rv_i_readFunc (z0, z1, ())))
noncomputable def sg_i_readFunc {R : Type} (K : Nat) (k : Nat) : List (Nat × SegS R) := [(4, mkSeg lv_i_readFunc_J4 lv_i_readFunc_N4 (gi_readFunc_j4 K k))]
noncomputable def su_i_readFunc : List (Nat × Unit) := [(4, ())]
noncomputable def en_i_readFunc {R : Type} (K : Nat) (k : Nat) : Env R := { L := lk [(6, mkLoop lv_i_readFunc_L6 (gi_readFunc_l6 K k))], X := lk [(0, lv_i_readFunc_X0)], S := lk (sg_i_readFunc K k), rv := rv_i_readFunc }
noncomputable def cf_i_readFunc (K : Nat) : Cfg := { ty := lk tys, fn := lk [(68, sp_i_rowsOf (i_rowsOf K)), (97, sp_i_IsFunc (i_IsFunc K)), (182, sp_strings_Cut (strings_Cut K)), (183, sp_i_Func_text (i_Func_text K))], fs := lk [], prot := 0, nt := Tryz.f164.ntmps }
noncomputable def c_i_readFunc_J4 : Code := nthC (partsOf (hasK su_i_readFunc) (bodyOf Tryz.f164)) 0
noncomputable def c_i_readFunc_L6 : Code := nthC (partsOf (hasK su_i_readFunc) c_i_readFunc_J4) 0
theorem ei_readFunc_l6 {R : Type} (K : Nat) (k : Nat) (x : den lv_i_readFunc_L6.ty) (kx : Nat → St → Option R) (kr : St → Option R) : gi_readFunc_l6 K (k + 1) x kx kr = evC (cf_i_readFunc K) (en_i_readFunc K k) c_i_readFunc_L6 (mkSt lv_i_readFunc_L6 x) (fun s => mkLoop lv_i_readFunc_L6 (gi_readFunc_l6 K k) s kx kr) kx kr := by kernel_rfl
theorem si_readFunc_l6 {R : Type} (K : Nat) (C : Cx) (hP : C.P = Tryz.prog) (O : CfgOk C (cf_i_readFunc K)) (k : Nat) : LpS C (R := R) (mkLoop lv_i_readFunc_L6 (gi_readFunc_l6 K k)) c_i_readFunc_L6 :=
  loop_sound O (by rw [hP]; kernel_rfl) (fun x kx kr => rfl) (ei_readFunc_l6 K) (fun k => lpOk_of (en := en_i_readFunc K k) (S := hasK su_i_readFunc) (fun i => hasK_lk (sg_i_readFunc K k) i) _ (by rw [show partsOf (hasK su_i_readFunc) c_i_readFunc_L6 = [] from by kernel_rfl]; exact trivial)) k
theorem ei_readFunc_j4 {R : Type} (K : Nat) (k : Nat) (x : den lv_i_readFunc_J4.ty) (kn : den lv_i_readFunc_N4.ty → Option R) (kx : Nat → St → Option R) (kr : St → Option R) : gi_readFunc_j4 K k x kn kx kr = evC (cf_i_readFunc K) (en_i_readFunc K k) c_i_readFunc_J4 (mkSt lv_i_readFunc_J4 x) (cutK lv_i_readFunc_N4 kn) kx kr := by kernel_rfl
theorem si_readFunc_j4 {R : Type} (K : Nat) (C : Cx) (hP : C.P = Tryz.prog) (O : CfgOk C (cf_i_readFunc K)) (k : Nat) : SgS C (R := R) (mkSeg lv_i_readFunc_J4 lv_i_readFunc_N4 (gi_readFunc_j4 K k)) c_i_readFunc_J4 :=
  seg_sound O (by rw [hP]; kernel_rfl) (ei_readFunc_j4 K k) (lpOk_of (en := en_i_readFunc K k) (S := hasK su_i_readFunc) (fun i => hasK_lk (sg_i_readFunc K k) i) _ (by rw [show partsOf (hasK su_i_readFunc) c_i_readFunc_J4 = [(true, c_i_readFunc_L6)] from by kernel_rfl]; exact (lpL_loop (f := mkLoop lv_i_readFunc_L6 (gi_readFunc_l6 K k)) (by kernel_rfl) (si_readFunc_l6 K C hP O k) trivial)))
theorem e_i_readFunc (K : Nat) (x : den as_i_readFunc) : i_readFunc K x = evFn (cf_i_readFunc K) as_i_readFunc [false] (.tup (.pair (.st (.pair (.int .i64) (.pair (.int .i64) .unit))) (.pair .bool .unit))) (en_i_readFunc K K) Tryz.f164.results.toList (bodyOf Tryz.f164) x := by kernel_rfl
theorem ok_i_readFunc (K : Nat) : FnOk Tryz.prog 164 (sp_i_readFunc (i_readFunc K)) :=
  fn_ok (cf := cf_i_readFunc K) (en := en_i_readFunc K K) (c := bodyOf Tryz.f164) Tryz.func164 (by kernel_rfl) (by kernel_rfl) tysOk (fns_ok (l := [(68, sp_i_rowsOf (i_rowsOf K)), (97, sp_i_IsFunc (i_IsFunc K)), (182, sp_strings_Cut (strings_Cut K)), (183, sp_i_Func_text (i_Func_text K))]) ⟨ok_i_rowsOf K, ⟨ok_i_IsFunc K, ⟨ok_strings_Cut K, ⟨ok_i_Func_text K, trivial⟩⟩⟩⟩) (shs_ok (l := []) trivial) (by kernel_rfl) rfl (Nat.le_of_ble_eq_true (by kernel_rfl)) (by kernel_rfl) (of_decide_eq_true (by kernel_rfl)) (by decide) (fun C hP O => lpOk_of (en := en_i_readFunc K K) (S := hasK su_i_readFunc) (fun i => hasK_lk (sg_i_readFunc K K) i) _ (by rw [show partsOf (hasK su_i_readFunc) (bodyOf Tryz.f164) = [(false, c_i_readFunc_J4)] from by kernel_rfl]; exact (lpL_seg (f := mkSeg lv_i_readFunc_J4 lv_i_readFunc_N4 (gi_readFunc_j4 K K)) (by kernel_rfl) (si_readFunc_j4 K C hP O K) trivial))) (fun x y h => by rw [← e_i_readFunc]; exact h)
noncomputable def as_i_namedFunc : Ty := (.pair .str .unit)
noncomputable def sp_i_namedFunc (F : (ByteArray × Unit) → Option ((Int × Int × Unit) × Bool × Unit)) : FnSpec := ⟨as_i_namedFunc, [false], (.tup (.pair (.st (.pair (.int .i64) (.pair (.int .i64) .unit))) (.pair .bool .unit))), F⟩
noncomputable def i_namedFunc_l2 {R : Type} (K : Nat) : Nat → ByteArray → (Int × Int × Unit) → (List (ByteArray × ByteArray × Unit)) → Int → Int → ((Int × Int × Unit) → Option R) → ((Int × Int × Unit) → Bool → Option R) → Option R
  | 0, _, _, _, _, _, _, _ => none
  | k + 1, v0, v2, v6, v7, v8, kx0, kr =>
    (if (decide (v8 < v7)) = true then
    (if (bnds v8 (v6.length : Int)) = true then
    let x2 := (cmpS .eql ((v6.getD v8.toNat (ByteArray.empty, ByteArray.empty, ())).1) v0)
    (if x2 = true then
    let x3 := (v6.getD v8.toNat (ByteArray.empty, ByteArray.empty, ())).2.1
    (i_readFunc K (x3, ())).bind fun y4 =>
    kr y4.1 y4.2.1
    else
    i_namedFunc_l2 K k v0 v2 v6 v7 (IntKind.i64.wrap (v8 + (1 : Int))) kx0 kr)
    else
    none)
    else
    kx0 v2)
noncomputable def i_namedFunc (K : Nat) (x : (ByteArray × Unit)) : Option ((Int × Int × Unit) × Bool × Unit) :=
    (i_names K ()).bind fun y1 =>
    i_namedFunc_l2 K K x.1 ((0 : Int), (0 : Int), ()) y1 (y1.length : Int) (0 : Int) (fun z5 =>
    some (((0 : Int), (0 : Int), ()), false, ())) (fun z6 z7 =>
    some (z6, z7, ()))
noncomputable def lv_i_namedFunc_L2 : Lv := [(0, (.v .str)), (2, (.bx (.v (.st (.pair (.int .i64) (.pair (.int .i64) .unit)))))), (6, (.r (.st (.pair .str (.pair .str .unit))))), (7, (.v (.int .i64))), (8, (.v (.int .i64)))]
noncomputable def lv_i_namedFunc_X0 : Lv := [(2, (.bx (.v (.st (.pair (.int .i64) (.pair (.int .i64) .unit))))))]
noncomputable def rv_i_namedFunc : Lv := [(2, (.bx (.v (.st (.pair (.int .i64) (.pair (.int .i64) .unit)))))), (3, (.v .bool))]
noncomputable def gi_namedFunc_l2 {R : Type} (K : Nat) (k : Nat) (x : den lv_i_namedFunc_L2.ty) (kx : Nat → St → Option R) (kr : St → Option R) : Option R := i_namedFunc_l2 K k x.1 x.2.1 x.2.2.1 x.2.2.2.1 x.2.2.2.2.1 (fun z0 => kx 0 (mkSt lv_i_namedFunc_X0 (z0, ()))) (fun z0 z1 => kr (mkSt rv_i_namedFunc (z0, z1, ())))
noncomputable def sg_i_namedFunc {R : Type} (K : Nat) (k : Nat) : List (Nat × SegS R) := []
noncomputable def su_i_namedFunc : List (Nat × Unit) := []
noncomputable def en_i_namedFunc {R : Type} (K : Nat) (k : Nat) : Env R := { L := lk [(2, mkLoop lv_i_namedFunc_L2 (gi_namedFunc_l2 K k))], X := lk [(0, lv_i_namedFunc_X0)], S := lk (sg_i_namedFunc K k), rv := rv_i_namedFunc }
noncomputable def cf_i_namedFunc (K : Nat) : Cfg := { ty := lk tys, fn := lk [(163, sp_i_names (i_names K)), (164, sp_i_readFunc (i_readFunc K))], fs := lk [], prot := 0, nt := Tryz.f126.ntmps }
noncomputable def c_i_namedFunc_L2 : Code := nthC (partsOf (hasK su_i_namedFunc) (bodyOf Tryz.f126)) 0
theorem ei_namedFunc_l2 {R : Type} (K : Nat) (k : Nat) (x : den lv_i_namedFunc_L2.ty) (kx : Nat → St → Option R) (kr : St → Option R) : gi_namedFunc_l2 K (k + 1) x kx kr = evC (cf_i_namedFunc K) (en_i_namedFunc K k) c_i_namedFunc_L2 (mkSt lv_i_namedFunc_L2 x) (fun s => mkLoop lv_i_namedFunc_L2 (gi_namedFunc_l2 K k) s kx kr) kx kr := by kernel_rfl
theorem si_namedFunc_l2 {R : Type} (K : Nat) (C : Cx) (hP : C.P = Tryz.prog) (O : CfgOk C (cf_i_namedFunc K)) (k : Nat) : LpS C (R := R) (mkLoop lv_i_namedFunc_L2 (gi_namedFunc_l2 K k)) c_i_namedFunc_L2 :=
  loop_sound O (by rw [hP]; kernel_rfl) (fun x kx kr => rfl) (ei_namedFunc_l2 K) (fun k => lpOk_of (en := en_i_namedFunc K k) (S := hasK su_i_namedFunc) (fun i => hasK_lk (sg_i_namedFunc K k) i) _ (by rw [show partsOf (hasK su_i_namedFunc) c_i_namedFunc_L2 = [] from by kernel_rfl]; exact trivial)) k
theorem e_i_namedFunc (K : Nat) (x : den as_i_namedFunc) : i_namedFunc K x = evFn (cf_i_namedFunc K) as_i_namedFunc [false] (.tup (.pair (.st (.pair (.int .i64) (.pair (.int .i64) .unit))) (.pair .bool .unit))) (en_i_namedFunc K K) Tryz.f126.results.toList (bodyOf Tryz.f126) x := by kernel_rfl
theorem ok_i_namedFunc (K : Nat) : FnOk Tryz.prog 126 (sp_i_namedFunc (i_namedFunc K)) :=
  fn_ok (cf := cf_i_namedFunc K) (en := en_i_namedFunc K K) (c := bodyOf Tryz.f126) Tryz.func126 (by kernel_rfl) (by kernel_rfl) tysOk (fns_ok (l := [(163, sp_i_names (i_names K)), (164, sp_i_readFunc (i_readFunc K))]) ⟨ok_i_names K, ⟨ok_i_readFunc K, trivial⟩⟩) (shs_ok (l := []) trivial) (by kernel_rfl) rfl (Nat.le_of_ble_eq_true (by kernel_rfl)) (by kernel_rfl) (of_decide_eq_true (by kernel_rfl)) (by decide) (fun C hP O => lpOk_of (en := en_i_namedFunc K K) (S := hasK su_i_namedFunc) (fun i => hasK_lk (sg_i_namedFunc K K) i) _ (by rw [show partsOf (hasK su_i_namedFunc) (bodyOf Tryz.f126) = [(true, c_i_namedFunc_L2)] from by kernel_rfl]; exact (lpL_loop (f := mkLoop lv_i_namedFunc_L2 (gi_namedFunc_l2 K K)) (by kernel_rfl) (si_namedFunc_l2 K C hP O K) trivial))) (fun x y h => by rw [← e_i_namedFunc]; exact h)
noncomputable def as_slices_Clone_int64 : Ty := (.pair (.sl (.int .i64)) .unit)
noncomputable def sp_slices_Clone_int64 (F : ((List Int) × Unit) → Option (List Int)) : FnSpec := ⟨as_slices_Clone_int64, [false], (.sl (.int .i64)), F⟩
noncomputable def slices_Clone_int64 (K : Nat) (x : List Int × Unit) : Option (List Int) := if x.1.length ≤ lim then some x.1 else none
noncomputable def ren_slices_Clone_int64 : Go.Shelf.Ren := ⟨fun _ => 128, fun k => bif Nat.beq k 22 then 28 else bif Nat.beq k 23 then 2 else 4, fun k => k⟩
theorem lays_slices_Clone_int64 : SlLaysE0.n41 Tryz.prog ren_slices_Clone_int64 :=
  ⟨by kernel_rfl, ⟨Tryz.f128.name, by kernel_rfl, by kernel_rfl⟩, Tryz.underlying4, Tryz.isAgg4, Tryz.sizeOf4, Tryz.zeroValue4, Tryz.underlying28, Tryz.isAgg28, Tryz.sizeOf28, Tryz.zeroValue28⟩
theorem ok_slices_Clone_int64 (K : Nat) : FnOk Tryz.prog 128 (sp_slices_Clone_int64 (slices_Clone_int64 K)) := clone_ok (ty := lk tys) lays_slices_Clone_int64 (tysOk 2 _ rfl) rfl (z := .val (.int .i64) (0 : Int)) rfl rfl (by decide)
noncomputable def i_Func_made_l4 {R : Type} (K : Nat) (r : ((Int × Int × Unit) × Int × (List Int) × (List Int) × Int × ((Int × Unit) → Option Bool) × Unit) → Option Bool) : Nat → (List Int) → ((Int × Unit) → Option Bool) → (Int × Int × Unit) → Int → Int → Int → (((Int × Unit) → Option Bool) → Int → Option R) → Option R
  | 0, _, _, _, _, _, _, _ => none
  | k + 1, v3, v5, v6, v13, v23, v24, kx0 =>
    (if (decide (v24 < v23)) = true then
    (if (bnds v24 (v3.length : Int)) = true then
    (i_Func_at K (v6, (v3.getD v24.toNat (0 : Int)), ())).bind fun y1 =>
    (if (decide ((0 : Int) ≤ v24)) = true then
    i_Func_made_l4 K r k v3 v5 v6 (bitI .or .i64 v13 (shlI .i64 y1 v24)) v23 (IntKind.i64.wrap (v24 + (1 : Int))) kx0
    else
    none)
    else
    none)
    else
    kx0 v5 v13)
noncomputable def i_Func_made_l14 {R : Type} (K : Nat) (r : ((Int × Int × Unit) × Int × (List Int) × (List Int) × Int × ((Int × Unit) → Option Bool) × Unit) → Option Bool) : Nat → Int → (List Int) → (List Int) → Int → ((Int × Unit) → Option Bool) → (Int × Int × Unit) → Int → (List Int) → (List Int) → Int → Int → Int → Int → (Int → (List Int) → (List Int) → Int → ((Int × Unit) → Option Bool) → (Int × Int × Unit) → (List Int) → (List Int) → Int → Int → Option R) → Option R
  | 0, _, _, _, _, _, _, _, _, _, _, _, _, _, _ => none
  | k + 1, v1, v2, v3, v4, v5, v6, v16, v17, v41, v42, v43, v49, v50, kx4 =>
    (if (decide (v50 < v49)) = true then
    (if (bnds v50 (v17.length : Int)) = true then
    (i_bit K (v16, v50, ())).bind fun y6 =>
    (if (decide ((0 : Int) ≤ v4)) = true then
    let x7 := (bitI .or .i64 (v17.getD v50.toNat (0 : Int)) (shlI .i64 y6 v4))
    (if (bnds v50 (v17.length : Int)) = true then
    let l8 := (v17.set v50.toNat x7)
    i_Func_made_l14 K r k v1 v2 v3 v4 v5 v6 v16 l8 v41 v42 v43 v49 (IntKind.i64.wrap (v50 + (1 : Int))) kx4
    else
    none)
    else
    none)
    else
    none)
    else
    kx4 v1 v2 v3 v4 v5 v6 v17 v41 v42 v43)
noncomputable def i_Func_made_l10 {R : Type} (K : Nat) (r : ((Int × Int × Unit) × Int × (List Int) × (List Int) × Int × ((Int × Unit) → Option Bool) × Unit) → Option Bool) : Nat → Int → (List Int) → (List Int) → Int → ((Int × Unit) → Option Bool) → (Int × Int × Unit) → (List Int) → Int → Int → (Option R) → (Bool → Option R) → Option R
  | 0, _, _, _, _, _, _, _, _, _, _, _ => none
  | k + 1, v1, v2, v3, v4, v5, v6, v41, v42, v43, kx2, kr =>
    (if (decide (v43 < v42)) = true then
    (if (bnds v43 (v41.length : Int)) = true then
    (slices_Clone_int64 K (v3, ())).bind fun y5 =>
    i_Func_made_l14 K r k v1 v2 v3 v4 v5 v6 (v41.getD v43.toNat (0 : Int)) y5 v41 v42 v43 v1 (0 : Int) (fun z9 z10 z11 z12 z13 z14 z15 z16 z17 z18 =>
    (r (z14, z9, z10, z15, (IntKind.i64.wrap (z12 + (1 : Int))), z13, ())).bind fun y19 =>
    (if (!y19) = true then
    kr false
    else
    i_Func_made_l10 K r k z9 z10 z11 z12 z13 z14 z16 z17 (IntKind.i64.wrap (z18 + (1 : Int))) kx2 kr))
    else
    none)
    else
    kx2)
noncomputable def i_Func_made_b (K : Nat) (r : ((Int × Int × Unit) × Int × (List Int) × (List Int) × Int × ((Int × Unit) → Option Bool) × Unit) → Option Bool) (x : ((Int × Int × Unit) × Int × (List Int) × (List Int) × Int × ((Int × Unit) → Option Bool) × Unit)) : Option Bool :=
    (if (decide (x.2.2.2.2.1 = x.1.1)) = true then
    i_Func_made_l4 K r K x.2.2.2.1 x.2.2.2.2.2.1 x.1 (0 : Int) x.2.1 (0 : Int) (fun z2 z3 =>
    (z2 (z3, ())).bind fun y4 =>
    some y4)
    else
    i_Func_made_l10 K r K x.2.1 x.2.2.1 x.2.2.2.1 x.2.2.2.2.1 x.2.2.2.2.2.1 x.1 x.2.2.1 (x.2.2.1.length : Int) (0 : Int) (some true) (fun z20 =>
    some z20))
noncomputable def i_Func_made (K : Nat) : Nat → ((Int × Int × Unit) × Int × (List Int) × (List Int) × Int × ((Int × Unit) → Option Bool) × Unit) → Option Bool
  | 0 => fun _ => none
  | k + 1 => i_Func_made_b K (i_Func_made K k)
noncomputable def lv_i_Func_made_L4 : Lv := [(3, (.v (.sl (.int .i64)))), (5, (.v (.fn (.pair (.int .i64) .unit) .bool))), (6, (.bx (.v (.st (.pair (.int .i64) (.pair (.int .i64) .unit)))))), (13, (.v (.int .i64))), (23, (.v (.int .i64))), (24, (.v (.int .i64)))]
noncomputable def lv_i_Func_made_L10 : Lv := [(1, (.v (.int .i64))), (2, (.v (.sl (.int .i64)))), (3, (.v (.sl (.int .i64)))), (4, (.v (.int .i64))), (5, (.v (.fn (.pair (.int .i64) .unit) .bool))), (6, (.bx (.v (.st (.pair (.int .i64) (.pair (.int .i64) .unit)))))), (41, (.v (.sl (.int .i64)))), (42, (.v (.int .i64))), (43, (.v (.int .i64)))]
noncomputable def lv_i_Func_made_L14 : Lv := [(1, (.v (.int .i64))), (2, (.v (.sl (.int .i64)))), (3, (.v (.sl (.int .i64)))), (4, (.v (.int .i64))), (5, (.v (.fn (.pair (.int .i64) .unit) .bool))), (6, (.bx (.v (.st (.pair (.int .i64) (.pair (.int .i64) .unit)))))), (16, (.v (.int .i64))), (17, (.r (.int .i64))), (41, (.v (.sl (.int .i64)))), (42, (.v (.int .i64))), (43, (.v (.int .i64))), (49, (.v (.int .i64))), (50, (.v (.int .i64)))]
noncomputable def lv_i_Func_made_X0 : Lv := [(5, (.v (.fn (.pair (.int .i64) .unit) .bool))), (13, (.v (.int .i64)))]
noncomputable def lv_i_Func_made_X2 : Lv := []
noncomputable def lv_i_Func_made_X4 : Lv := [(1, (.v (.int .i64))), (2, (.v (.sl (.int .i64)))), (3, (.v (.sl (.int .i64)))), (4, (.v (.int .i64))), (5, (.v (.fn (.pair (.int .i64) .unit) .bool))), (6, (.bx (.v (.st (.pair (.int .i64) (.pair (.int .i64) .unit)))))), (17, (.r (.int .i64))), (41, (.v (.sl (.int .i64)))), (42, (.v (.int .i64))), (43, (.v (.int .i64)))]
noncomputable def rv_i_Func_made : Lv := [(12, (.v .bool))]
noncomputable def gi_Func_made_l4 {R : Type} (K : Nat) (r : ((Int × Int × Unit) × Int × (List Int) × (List Int) × Int × ((Int × Unit) → Option Bool) × Unit) → Option Bool) (k : Nat) (x : den lv_i_Func_made_L4.ty) (kx : Nat → St → Option R) (kr : St → Option R) : Option R := i_Func_made_l4 K r k x.1 x.2.1 x.2.2.1 x.2.2.2.1 x.2.2.2.2.1 x.2.2.2.2.2.1 (fun z0 z1 => kx 0 (mkSt lv_i_Func_made_X0 (z0, z1, ())))
noncomputable def gi_Func_made_l14 {R : Type} (K : Nat) (r : ((Int × Int × Unit) × Int × (List Int) × (List Int) × Int × ((Int × Unit) → Option Bool) × Unit) → Option Bool) (k : Nat) (x : den lv_i_Func_made_L14.ty) (kx : Nat → St → Option R) (kr : St → Option R) : Option R := i_Func_made_l14 K r k x.1 x.2.1 x.2.2.1 x.2.2.2.1 x.2.2.2.2.1 x.2.2.2.2.2.1 x.2.2.2.2.2.2.1 x.2.2.2.2.2.2.2.1 x.2.2.2.2.2.2.2.2.1 x.2.2.2.2.2.2.2.2.2.1 x.2.2.2.2.2.2.2.2.2.2.1 x.2.2.2.2.2.2.2.2.2.2.2.1 x.2.2.2.2.2.2.2.2.2.2.2.2.1 (fun z0 z1 z2 z3 z4 z5 z6 z7 z8 z9 => kx 4 (mkSt lv_i_Func_made_X4 (z0, z1, z2, z3, z4, z5, z6, z7, z8, z9, ())))
noncomputable def gi_Func_made_l10 {R : Type} (K : Nat) (r : ((Int × Int × Unit) × Int × (List Int) × (List Int) × Int × ((Int × Unit) → Option Bool) × Unit) → Option Bool) (k : Nat) (x : den lv_i_Func_made_L10.ty) (kx : Nat → St → Option R) (kr : St → Option R) : Option R := i_Func_made_l10 K r k x.1 x.2.1 x.2.2.1 x.2.2.2.1 x.2.2.2.2.1 x.2.2.2.2.2.1 x.2.2.2.2.2.2.1 x.2.2.2.2.2.2.2.1 x.2.2.2.2.2.2.2.2.1 (kx 2 (mkSt lv_i_Func_made_X2 ())) (fun z0 => kr (mkSt rv_i_Func_made (z0, ())))
noncomputable def sg_i_Func_made {R : Type} (K : Nat) (r : ((Int × Int × Unit) × Int × (List Int) × (List Int) × Int × ((Int × Unit) → Option Bool) × Unit) → Option Bool) (k : Nat) : List (Nat × SegS R) := []
noncomputable def su_i_Func_made : List (Nat × Unit) := []
noncomputable def en_i_Func_made {R : Type} (K : Nat) (r : ((Int × Int × Unit) × Int × (List Int) × (List Int) × Int × ((Int × Unit) → Option Bool) × Unit) → Option Bool) (k : Nat) : Env R := { L := lk [(4, mkLoop lv_i_Func_made_L4 (gi_Func_made_l4 K r k)), (14, mkLoop lv_i_Func_made_L14 (gi_Func_made_l14 K r k)), (10, mkLoop lv_i_Func_made_L10 (gi_Func_made_l10 K r k))], X := lk [(0, lv_i_Func_made_X0), (2, lv_i_Func_made_X2), (4, lv_i_Func_made_X4)], S := lk (sg_i_Func_made K r k), rv := rv_i_Func_made }
noncomputable def cf_i_Func_made (K : Nat) (r : ((Int × Int × Unit) × Int × (List Int) × (List Int) × Int × ((Int × Unit) → Option Bool) × Unit) → Option Bool) : Cfg := { ty := lk tys, fn := lk [(128, sp_slices_Clone_int64 (slices_Clone_int64 K)), (131, sp_i_bit (i_bit K)), (154, sp_i_Func_at (i_Func_at K)), (165, sp_i_Func_made (r))], fs := lk [], prot := 0, nt := Tryz.f165.ntmps }
noncomputable def c_i_Func_made_L4 : Code := nthC (partsOf (hasK su_i_Func_made) (bodyOf Tryz.f165)) 0
noncomputable def c_i_Func_made_L10 : Code := nthC (partsOf (hasK su_i_Func_made) (bodyOf Tryz.f165)) 1
noncomputable def c_i_Func_made_L14 : Code := nthC (partsOf (hasK su_i_Func_made) c_i_Func_made_L10) 0
theorem ei_Func_made_l4 {R : Type} (K : Nat) (r : ((Int × Int × Unit) × Int × (List Int) × (List Int) × Int × ((Int × Unit) → Option Bool) × Unit) → Option Bool) (k : Nat) (x : den lv_i_Func_made_L4.ty) (kx : Nat → St → Option R) (kr : St → Option R) : gi_Func_made_l4 K r (k + 1) x kx kr = evC (cf_i_Func_made K r) (en_i_Func_made K r k) c_i_Func_made_L4 (mkSt lv_i_Func_made_L4 x) (fun s => mkLoop lv_i_Func_made_L4 (gi_Func_made_l4 K r k) s kx kr) kx kr := by kernel_rfl
theorem si_Func_made_l4 {R : Type} (K : Nat) (r : ((Int × Int × Unit) × Int × (List Int) × (List Int) × Int × ((Int × Unit) → Option Bool) × Unit) → Option Bool) (C : Cx) (hP : C.P = Tryz.prog) (O : CfgOk C (cf_i_Func_made K r)) (k : Nat) : LpS C (R := R) (mkLoop lv_i_Func_made_L4 (gi_Func_made_l4 K r k)) c_i_Func_made_L4 :=
  loop_sound O (by rw [hP]; kernel_rfl) (fun x kx kr => rfl) (ei_Func_made_l4 K r) (fun k => lpOk_of (en := en_i_Func_made K r k) (S := hasK su_i_Func_made) (fun i => hasK_lk (sg_i_Func_made K r k) i) _ (by rw [show partsOf (hasK su_i_Func_made) c_i_Func_made_L4 = [] from by kernel_rfl]; exact trivial)) k
theorem ei_Func_made_l14 {R : Type} (K : Nat) (r : ((Int × Int × Unit) × Int × (List Int) × (List Int) × Int × ((Int × Unit) → Option Bool) × Unit) → Option Bool) (k : Nat) (x : den lv_i_Func_made_L14.ty) (kx : Nat → St → Option R) (kr : St → Option R) : gi_Func_made_l14 K r (k + 1) x kx kr = evC (cf_i_Func_made K r) (en_i_Func_made K r k) c_i_Func_made_L14 (mkSt lv_i_Func_made_L14 x) (fun s => mkLoop lv_i_Func_made_L14 (gi_Func_made_l14 K r k) s kx kr) kx kr := by kernel_rfl
theorem si_Func_made_l14 {R : Type} (K : Nat) (r : ((Int × Int × Unit) × Int × (List Int) × (List Int) × Int × ((Int × Unit) → Option Bool) × Unit) → Option Bool) (C : Cx) (hP : C.P = Tryz.prog) (O : CfgOk C (cf_i_Func_made K r)) (k : Nat) : LpS C (R := R) (mkLoop lv_i_Func_made_L14 (gi_Func_made_l14 K r k)) c_i_Func_made_L14 :=
  loop_sound O (by rw [hP]; kernel_rfl) (fun x kx kr => rfl) (ei_Func_made_l14 K r) (fun k => lpOk_of (en := en_i_Func_made K r k) (S := hasK su_i_Func_made) (fun i => hasK_lk (sg_i_Func_made K r k) i) _ (by rw [show partsOf (hasK su_i_Func_made) c_i_Func_made_L14 = [] from by kernel_rfl]; exact trivial)) k
theorem ei_Func_made_l10 {R : Type} (K : Nat) (r : ((Int × Int × Unit) × Int × (List Int) × (List Int) × Int × ((Int × Unit) → Option Bool) × Unit) → Option Bool) (k : Nat) (x : den lv_i_Func_made_L10.ty) (kx : Nat → St → Option R) (kr : St → Option R) : gi_Func_made_l10 K r (k + 1) x kx kr = evC (cf_i_Func_made K r) (en_i_Func_made K r k) c_i_Func_made_L10 (mkSt lv_i_Func_made_L10 x) (fun s => mkLoop lv_i_Func_made_L10 (gi_Func_made_l10 K r k) s kx kr) kx kr := by kernel_rfl
theorem si_Func_made_l10 {R : Type} (K : Nat) (r : ((Int × Int × Unit) × Int × (List Int) × (List Int) × Int × ((Int × Unit) → Option Bool) × Unit) → Option Bool) (C : Cx) (hP : C.P = Tryz.prog) (O : CfgOk C (cf_i_Func_made K r)) (k : Nat) : LpS C (R := R) (mkLoop lv_i_Func_made_L10 (gi_Func_made_l10 K r k)) c_i_Func_made_L10 :=
  loop_sound O (by rw [hP]; kernel_rfl) (fun x kx kr => rfl) (ei_Func_made_l10 K r) (fun k => lpOk_of (en := en_i_Func_made K r k) (S := hasK su_i_Func_made) (fun i => hasK_lk (sg_i_Func_made K r k) i) _ (by rw [show partsOf (hasK su_i_Func_made) c_i_Func_made_L10 = [(true, c_i_Func_made_L14)] from by kernel_rfl]; exact (lpL_loop (f := mkLoop lv_i_Func_made_L14 (gi_Func_made_l14 K r k)) (by kernel_rfl) (si_Func_made_l14 K r C hP O k) trivial))) k
theorem e_i_Func_made (K : Nat) (r : ((Int × Int × Unit) × Int × (List Int) × (List Int) × Int × ((Int × Unit) → Option Bool) × Unit) → Option Bool) (x : den as_i_Func_made) : i_Func_made_b K r x = evFn (cf_i_Func_made K r) as_i_Func_made [false, false, false, false, false, false] .bool (en_i_Func_made K r K) Tryz.f165.results.toList (bodyOf Tryz.f165) x := by kernel_rfl
theorem okb_i_Func_made (K : Nat) (r : ((Int × Int × Unit) × Int × (List Int) × (List Int) × Int × ((Int × Unit) → Option Bool) × Unit) → Option Bool) (hr : FnOk Tryz.prog 165 (sp_i_Func_made r)) : FnOk Tryz.prog 165 (sp_i_Func_made (i_Func_made_b K r)) :=
  fn_ok (cf := cf_i_Func_made K r) (en := en_i_Func_made K r K) (c := bodyOf Tryz.f165) Tryz.func165 (by kernel_rfl) (by kernel_rfl) tysOk (fns_ok (l := [(128, sp_slices_Clone_int64 (slices_Clone_int64 K)), (131, sp_i_bit (i_bit K)), (154, sp_i_Func_at (i_Func_at K)), (165, sp_i_Func_made (r))]) ⟨ok_slices_Clone_int64 K, ⟨ok_i_bit K, ⟨ok_i_Func_at K, ⟨hr, trivial⟩⟩⟩⟩) (shs_ok (l := []) trivial) (by kernel_rfl) rfl (Nat.le_of_ble_eq_true (by kernel_rfl)) (by kernel_rfl) (of_decide_eq_true (by kernel_rfl)) (by decide) (fun C hP O => lpOk_of (en := en_i_Func_made K r K) (S := hasK su_i_Func_made) (fun i => hasK_lk (sg_i_Func_made K r K) i) _ (by rw [show partsOf (hasK su_i_Func_made) (bodyOf Tryz.f165) = [(true, c_i_Func_made_L4), (true, c_i_Func_made_L10)] from by kernel_rfl]; exact (lpL_loop (f := mkLoop lv_i_Func_made_L4 (gi_Func_made_l4 K r K)) (by kernel_rfl) (si_Func_made_l4 K r C hP O K) (lpL_loop (f := mkLoop lv_i_Func_made_L10 (gi_Func_made_l10 K r K)) (by kernel_rfl) (si_Func_made_l10 K r C hP O K) trivial)))) (fun x y h => by rw [← e_i_Func_made]; exact h)
theorem ok_i_Func_made (K : Nat) : ∀ k, FnOk Tryz.prog 165 (sp_i_Func_made (i_Func_made K k))
  | 0 => fnOk_none
  | k + 1 => okb_i_Func_made K (i_Func_made K k) (ok_i_Func_made K k)
noncomputable def as_i_Relation_tuples : Ty := (.pair (.st (.pair (.int .i64) (.pair (.int .i64) .unit))) .unit)
noncomputable def sp_i_Relation_tuples (F : ((Int × Int × Unit) × Unit) → Option (List Int)) : FnSpec := ⟨as_i_Relation_tuples, [false], (.sl (.int .i64)), F⟩
noncomputable def i_Relation_tuples_l3 {R : Type} (K : Nat) : Nat → (Int × Int × Unit) → (List Int) → Int → Int → ((List Int) → Option R) → Option R
  | 0, _, _, _, _, _ => none
  | k + 1, v1, v3, v7, v8, kx0 =>
    (if (decide (v8 < v7)) = true then
    (i_Relation_has K (v1, v8, ())).bind fun y2 =>
    (if y2 = true then
    (if (decide (v3.length + ([v8]).length ≤ lim)) = true then
    let l3 := (v3 ++ [v8])
    i_Relation_tuples_l3 K k v1 l3 v7 (IntKind.i64.wrap (v8 + (1 : Int))) kx0
    else
    none)
    else
    i_Relation_tuples_l3 K k v1 v3 v7 (IntKind.i64.wrap (v8 + (1 : Int))) kx0)
    else
    kx0 v3)
noncomputable def i_Relation_tuples (K : Nat) (x : ((Int × Int × Unit) × Unit)) : Option (List Int) :=
    (i_rowsOf K (x.1.1, ())).bind fun y1 =>
    i_Relation_tuples_l3 K K x.1 ([] : List Int) y1 (0 : Int) (fun z4 =>
    some z4)
noncomputable def lv_i_Relation_tuples_L3 : Lv := [(1, (.bx (.v (.st (.pair (.int .i64) (.pair (.int .i64) .unit)))))), (3, (.r (.int .i64))), (7, (.v (.int .i64))), (8, (.v (.int .i64)))]
noncomputable def lv_i_Relation_tuples_X0 : Lv := [(3, (.r (.int .i64)))]
noncomputable def rv_i_Relation_tuples : Lv := [(2, (.r (.int .i64)))]
noncomputable def gi_Relation_tuples_l3 {R : Type} (K : Nat) (k : Nat) (x : den lv_i_Relation_tuples_L3.ty) (kx : Nat → St → Option R) (kr : St → Option R) : Option R := i_Relation_tuples_l3 K k x.1 x.2.1 x.2.2.1 x.2.2.2.1 (fun z0 => kx 0 (mkSt lv_i_Relation_tuples_X0 (z0, ())))
noncomputable def sg_i_Relation_tuples {R : Type} (K : Nat) (k : Nat) : List (Nat × SegS R) := []
noncomputable def su_i_Relation_tuples : List (Nat × Unit) := []
noncomputable def en_i_Relation_tuples {R : Type} (K : Nat) (k : Nat) : Env R := { L := lk [(3, mkLoop lv_i_Relation_tuples_L3 (gi_Relation_tuples_l3 K k))], X := lk [(0, lv_i_Relation_tuples_X0)], S := lk (sg_i_Relation_tuples K k), rv := rv_i_Relation_tuples }
noncomputable def cf_i_Relation_tuples (K : Nat) : Cfg := { ty := lk tys, fn := lk [(68, sp_i_rowsOf (i_rowsOf K)), (71, sp_i_Relation_has (i_Relation_has K))], fs := lk [], prot := 0, nt := Tryz.f166.ntmps }
noncomputable def c_i_Relation_tuples_L3 : Code := nthC (partsOf (hasK su_i_Relation_tuples) (bodyOf Tryz.f166)) 0
theorem ei_Relation_tuples_l3 {R : Type} (K : Nat) (k : Nat) (x : den lv_i_Relation_tuples_L3.ty) (kx : Nat → St → Option R) (kr : St → Option R) : gi_Relation_tuples_l3 K (k + 1) x kx kr = evC (cf_i_Relation_tuples K) (en_i_Relation_tuples K k) c_i_Relation_tuples_L3 (mkSt lv_i_Relation_tuples_L3 x) (fun s => mkLoop lv_i_Relation_tuples_L3 (gi_Relation_tuples_l3 K k) s kx kr) kx kr := by kernel_rfl
theorem si_Relation_tuples_l3 {R : Type} (K : Nat) (C : Cx) (hP : C.P = Tryz.prog) (O : CfgOk C (cf_i_Relation_tuples K)) (k : Nat) : LpS C (R := R) (mkLoop lv_i_Relation_tuples_L3 (gi_Relation_tuples_l3 K k)) c_i_Relation_tuples_L3 :=
  loop_sound O (by rw [hP]; kernel_rfl) (fun x kx kr => rfl) (ei_Relation_tuples_l3 K) (fun k => lpOk_of (en := en_i_Relation_tuples K k) (S := hasK su_i_Relation_tuples) (fun i => hasK_lk (sg_i_Relation_tuples K k) i) _ (by rw [show partsOf (hasK su_i_Relation_tuples) c_i_Relation_tuples_L3 = [] from by kernel_rfl]; exact trivial)) k
theorem e_i_Relation_tuples (K : Nat) (x : den as_i_Relation_tuples) : i_Relation_tuples K x = evFn (cf_i_Relation_tuples K) as_i_Relation_tuples [false] (.sl (.int .i64)) (en_i_Relation_tuples K K) Tryz.f166.results.toList (bodyOf Tryz.f166) x := by kernel_rfl
theorem ok_i_Relation_tuples (K : Nat) : FnOk Tryz.prog 166 (sp_i_Relation_tuples (i_Relation_tuples K)) :=
  fn_ok (cf := cf_i_Relation_tuples K) (en := en_i_Relation_tuples K K) (c := bodyOf Tryz.f166) Tryz.func166 (by kernel_rfl) (by kernel_rfl) tysOk (fns_ok (l := [(68, sp_i_rowsOf (i_rowsOf K)), (71, sp_i_Relation_has (i_Relation_has K))]) ⟨ok_i_rowsOf K, ⟨ok_i_Relation_has K, trivial⟩⟩) (shs_ok (l := []) trivial) (by kernel_rfl) rfl (Nat.le_of_ble_eq_true (by kernel_rfl)) (by kernel_rfl) (of_decide_eq_true (by kernel_rfl)) (by decide) (fun C hP O => lpOk_of (en := en_i_Relation_tuples K K) (S := hasK su_i_Relation_tuples) (fun i => hasK_lk (sg_i_Relation_tuples K K) i) _ (by rw [show partsOf (hasK su_i_Relation_tuples) (bodyOf Tryz.f166) = [(true, c_i_Relation_tuples_L3)] from by kernel_rfl]; exact (lpL_loop (f := mkLoop lv_i_Relation_tuples_L3 (gi_Relation_tuples_l3 K K)) (by kernel_rfl) (si_Relation_tuples_l3 K C hP O K) trivial))) (fun x y h => by rw [← e_i_Relation_tuples]; exact h)
noncomputable def as_i_Func_keeps : Ty := (.pair (.st (.pair (.int .i64) (.pair (.int .i64) .unit))) (.pair (.st (.pair (.int .i64) (.pair (.int .i64) .unit))) .unit))
noncomputable def sp_i_Func_keeps (F : ((Int × Int × Unit) × (Int × Int × Unit) × Unit) → Option Bool) : FnSpec := ⟨as_i_Func_keeps, [false, false], .bool, F⟩
noncomputable def i_Func_keeps (K : Nat) (x : ((Int × Int × Unit) × (Int × Int × Unit) × Unit)) : Option Bool :=
    (i_Relation_tuples K (x.2.1, ())).bind fun y1 =>
    (if (decide (0 ≤ x.2.1.1) && decide (x.2.1.1 ≤ (lim : Int)) && decide (x.2.1.1 = x.2.1.1)) = true then
    let l2 := (List.replicate x.2.1.1.toNat (0 : Int))
    (i_Func_made K K (x.1, x.2.1.1, y1, l2, (0 : Int), (fun y4 => i_Relation_has K (x.2.1, y4.1, ())), ())).bind fun y3 =>
    some y3
    else
    none)
noncomputable def rv_i_Func_keeps : Lv := [(4, (.v .bool))]
noncomputable def sg_i_Func_keeps {R : Type} (K : Nat) (k : Nat) : List (Nat × SegS R) := []
noncomputable def su_i_Func_keeps : List (Nat × Unit) := []
noncomputable def en_i_Func_keeps {R : Type} (K : Nat) (k : Nat) : Env R := { L := lk [], X := lk [], S := lk (sg_i_Func_keeps K k), rv := rv_i_Func_keeps }
noncomputable def cf_i_Func_keeps (K : Nat) : Cfg := { ty := lk tys, fn := lk [(71, sp_i_Relation_has (i_Relation_has K)), (165, sp_i_Func_made (i_Func_made K K)), (166, sp_i_Relation_tuples (i_Relation_tuples K))], fs := lk [], prot := 0, nt := Tryz.f127.ntmps }
theorem e_i_Func_keeps (K : Nat) (x : den as_i_Func_keeps) : i_Func_keeps K x = evFn (cf_i_Func_keeps K) as_i_Func_keeps [false, false] .bool (en_i_Func_keeps K K) Tryz.f127.results.toList (bodyOf Tryz.f127) x := by kernel_rfl
theorem ok_i_Func_keeps (K : Nat) : FnOk Tryz.prog 127 (sp_i_Func_keeps (i_Func_keeps K)) :=
  fn_ok (cf := cf_i_Func_keeps K) (en := en_i_Func_keeps K K) (c := bodyOf Tryz.f127) Tryz.func127 (by kernel_rfl) (by kernel_rfl) tysOk (fns_ok (l := [(71, sp_i_Relation_has (i_Relation_has K)), (165, sp_i_Func_made (i_Func_made K K)), (166, sp_i_Relation_tuples (i_Relation_tuples K))]) ⟨ok_i_Relation_has K, ⟨ok_i_Func_made K K, ⟨ok_i_Relation_tuples K, trivial⟩⟩⟩) (shs_ok (l := []) trivial) (by kernel_rfl) rfl (Nat.le_of_ble_eq_true (by kernel_rfl)) (by kernel_rfl) (of_decide_eq_true (by kernel_rfl)) (by decide) (fun C hP O => lpOk_of (en := en_i_Func_keeps K K) (S := hasK su_i_Func_keeps) (fun i => hasK_lk (sg_i_Func_keeps K K) i) _ (by rw [show partsOf (hasK su_i_Func_keeps) (bodyOf Tryz.f127) = [] from by kernel_rfl]; exact trivial)) (fun x y h => by rw [← e_i_Func_keeps]; exact h)
noncomputable def as_i_easyRow : Ty := (.pair (.st (.pair (.int .i64) (.pair (.int .i64) .unit))) .unit)
noncomputable def sp_i_easyRow (F : ((Int × Int × Unit) × Unit) → Option (List Int)) : FnSpec := ⟨as_i_easyRow, [false], (.sl (.int .i64)), F⟩
noncomputable def i_easyRow_l3 {R : Type} (K : Nat) : Nat → (Int × Int × Unit) → (List Int) → (List ByteArray) → Int → Int → ((List Int) → Option R) → Option R
  | 0, _, _, _, _, _, _ => none
  | k + 1, v1, v3, v19, v20, v21, kx0 =>
    (if (decide (v21 < v20)) = true then
    (if (bnds v21 (v19.length : Int)) = true then
    (i_namedFunc K ((v19.getD v21.toNat ByteArray.empty), ())).bind fun y8 =>
    (i_Func_keeps K (y8.1, v1, ())).bind fun y9 =>
    (i_one K (y9, ())).bind fun y10 =>
    (if (decide (v3.length + ([y10]).length ≤ lim)) = true then
    let l11 := (v3 ++ [y10])
    i_easyRow_l3 K k v1 l11 v19 v20 (IntKind.i64.wrap (v21 + (1 : Int))) kx0
    else
    none)
    else
    none)
    else
    kx0 v3)
noncomputable def i_easyRow (K : Nat) (x : ((Int × Int × Unit) × Unit)) : Option (List Int) :=
    (i_Relation_has K (x.1, (0 : Int), ())).bind fun y1 =>
    (i_one K (y1, ())).bind fun y2 =>
    (i_rowsOf K (x.1.1, ())).bind fun y3 =>
    (i_Relation_has K (x.1, (IntKind.i64.wrap (y3 - (1 : Int))), ())).bind fun y4 =>
    (i_one K (y4, ())).bind fun y5 =>
    let l6 := [y2, y5]
    let l7 := [(⟨#[97, 110, 100]⟩ : ByteArray), (⟨#[111, 114]⟩ : ByteArray), (⟨#[109, 97, 106, 111, 114, 105, 116, 121]⟩ : ByteArray), (⟨#[109, 105, 110, 111, 114, 105, 116, 121]⟩ : ByteArray)]
    i_easyRow_l3 K K x.1 l6 l7 (l7.length : Int) (0 : Int) (fun z12 =>
    some z12)
noncomputable def lv_i_easyRow_L3 : Lv := [(1, (.bx (.v (.st (.pair (.int .i64) (.pair (.int .i64) .unit)))))), (3, (.r (.int .i64))), (19, (.r .str)), (20, (.v (.int .i64))), (21, (.v (.int .i64)))]
noncomputable def lv_i_easyRow_X0 : Lv := [(3, (.r (.int .i64)))]
noncomputable def rv_i_easyRow : Lv := [(2, (.r (.int .i64)))]
noncomputable def gi_easyRow_l3 {R : Type} (K : Nat) (k : Nat) (x : den lv_i_easyRow_L3.ty) (kx : Nat → St → Option R) (kr : St → Option R) : Option R := i_easyRow_l3 K k x.1 x.2.1 x.2.2.1 x.2.2.2.1 x.2.2.2.2.1 (fun z0 => kx 0 (mkSt lv_i_easyRow_X0 (z0, ())))
noncomputable def sg_i_easyRow {R : Type} (K : Nat) (k : Nat) : List (Nat × SegS R) := []
noncomputable def su_i_easyRow : List (Nat × Unit) := []
noncomputable def en_i_easyRow {R : Type} (K : Nat) (k : Nat) : Env R := { L := lk [(3, mkLoop lv_i_easyRow_L3 (gi_easyRow_l3 K k))], X := lk [(0, lv_i_easyRow_X0)], S := lk (sg_i_easyRow K k), rv := rv_i_easyRow }
noncomputable def cf_i_easyRow (K : Nat) : Cfg := { ty := lk tys, fn := lk [(68, sp_i_rowsOf (i_rowsOf K)), (71, sp_i_Relation_has (i_Relation_has K)), (125, sp_i_one (i_one K)), (126, sp_i_namedFunc (i_namedFunc K)), (127, sp_i_Func_keeps (i_Func_keeps K))], fs := lk [], prot := 0, nt := Tryz.f66.ntmps }
noncomputable def c_i_easyRow_L3 : Code := nthC (partsOf (hasK su_i_easyRow) (bodyOf Tryz.f66)) 0
theorem ei_easyRow_l3 {R : Type} (K : Nat) (k : Nat) (x : den lv_i_easyRow_L3.ty) (kx : Nat → St → Option R) (kr : St → Option R) : gi_easyRow_l3 K (k + 1) x kx kr = evC (cf_i_easyRow K) (en_i_easyRow K k) c_i_easyRow_L3 (mkSt lv_i_easyRow_L3 x) (fun s => mkLoop lv_i_easyRow_L3 (gi_easyRow_l3 K k) s kx kr) kx kr := by kernel_rfl
theorem si_easyRow_l3 {R : Type} (K : Nat) (C : Cx) (hP : C.P = Tryz.prog) (O : CfgOk C (cf_i_easyRow K)) (k : Nat) : LpS C (R := R) (mkLoop lv_i_easyRow_L3 (gi_easyRow_l3 K k)) c_i_easyRow_L3 :=
  loop_sound O (by rw [hP]; kernel_rfl) (fun x kx kr => rfl) (ei_easyRow_l3 K) (fun k => lpOk_of (en := en_i_easyRow K k) (S := hasK su_i_easyRow) (fun i => hasK_lk (sg_i_easyRow K k) i) _ (by rw [show partsOf (hasK su_i_easyRow) c_i_easyRow_L3 = [] from by kernel_rfl]; exact trivial)) k
theorem e_i_easyRow (K : Nat) (x : den as_i_easyRow) : i_easyRow K x = evFn (cf_i_easyRow K) as_i_easyRow [false] (.sl (.int .i64)) (en_i_easyRow K K) Tryz.f66.results.toList (bodyOf Tryz.f66) x := by kernel_rfl
theorem ok_i_easyRow (K : Nat) : FnOk Tryz.prog 66 (sp_i_easyRow (i_easyRow K)) :=
  fn_ok (cf := cf_i_easyRow K) (en := en_i_easyRow K K) (c := bodyOf Tryz.f66) Tryz.func66 (by kernel_rfl) (by kernel_rfl) tysOk (fns_ok (l := [(68, sp_i_rowsOf (i_rowsOf K)), (71, sp_i_Relation_has (i_Relation_has K)), (125, sp_i_one (i_one K)), (126, sp_i_namedFunc (i_namedFunc K)), (127, sp_i_Func_keeps (i_Func_keeps K))]) ⟨ok_i_rowsOf K, ⟨ok_i_Relation_has K, ⟨ok_i_one K, ⟨ok_i_namedFunc K, ⟨ok_i_Func_keeps K, trivial⟩⟩⟩⟩⟩) (shs_ok (l := []) trivial) (by kernel_rfl) rfl (Nat.le_of_ble_eq_true (by kernel_rfl)) (by kernel_rfl) (of_decide_eq_true (by kernel_rfl)) (by decide) (fun C hP O => lpOk_of (en := en_i_easyRow K K) (S := hasK su_i_easyRow) (fun i => hasK_lk (sg_i_easyRow K K) i) _ (by rw [show partsOf (hasK su_i_easyRow) (bodyOf Tryz.f66) = [(true, c_i_easyRow_L3)] from by kernel_rfl]; exact (lpL_loop (f := mkLoop lv_i_easyRow_L3 (gi_easyRow_l3 K K)) (by kernel_rfl) (si_easyRow_l3 K C hP O K) trivial))) (fun x y h => by rw [← e_i_easyRow]; exact h)
noncomputable def as_i_EasyClasses : Ty := (.pair (.st (.pair (.int .i64) (.pair (.sl (.st (.pair (.st (.pair (.int .i64) (.pair (.int .i64) .unit))) (.pair (.sl (.int .i64)) .unit)))) .unit))) .unit)
noncomputable def sp_i_EasyClasses (F : ((Int × (List ((Int × Int × Unit) × (List Int) × Unit)) × Unit) × Unit) → Option ((List Int) × Int × Unit)) : FnSpec := ⟨as_i_EasyClasses, [false], (.tup (.pair (.sl (.int .i64)) (.pair (.int .i64) .unit))), F⟩
noncomputable def i_EasyClasses_l8 {R : Type} (K : Nat) : Nat → (List Int) → (List ((Int × Int × Unit) × (List Int) × Unit)) → Int → Int → (List Int) → Int → Int → ((List Int) → (List ((Int × Int × Unit) × (List Int) × Unit)) → Int → Int → Option R) → Option R
  | 0, _, _, _, _, _, _, _, _ => none
  | k + 1, v4, v17, v18, v19, v25, v26, v27, kx2 =>
    (if (decide (v27 < v26)) = true then
    (if (bnds v27 (v25.length : Int)) = true then
    (if (bnds v27 (v4.length : Int)) = true then
    let x5 := (bitI .and .i64 (v4.getD v27.toNat (0 : Int)) (v25.getD v27.toNat (0 : Int)))
    (if (bnds v27 (v4.length : Int)) = true then
    let l6 := (v4.set v27.toNat x5)
    i_EasyClasses_l8 K k l6 v17 v18 v19 v25 v26 (IntKind.i64.wrap (v27 + (1 : Int))) kx2
    else
    none)
    else
    none)
    else
    none)
    else
    kx2 v4 v17 v18 v19)
noncomputable def i_EasyClasses_l5 {R : Type} (K : Nat) : Nat → (List Int) → (List ((Int × Int × Unit) × (List Int) × Unit)) → Int → Int → ((List Int) → Option R) → Option R
  | 0, _, _, _, _, _ => none
  | k + 1, v4, v17, v18, v19, kx0 =>
    (if (decide (v19 < v18)) = true then
    (if (bnds v19 (v17.length : Int)) = true then
    let x3 := (v17.getD v19.toNat (((0 : Int), (0 : Int), ()), ([] : List Int), ()))
    (i_easyRow K (x3.1, ())).bind fun y4 =>
    i_EasyClasses_l8 K k v4 v17 v18 v19 y4 (y4.length : Int) (0 : Int) (fun z7 z8 z9 z10 =>
    i_EasyClasses_l5 K k z7 z8 z9 (IntKind.i64.wrap (z10 + (1 : Int))) kx0)
    else
    none)
    else
    kx0 v4)
noncomputable def i_EasyClasses_l15 {R : Type} (K : Nat) : Nat → (List Int) → (List Int) → Int → Int → ((List Int) → Option R) → Option R
  | 0, _, _, _, _, _ => none
  | k + 1, v9, v41, v42, v43, kx4 =>
    (if (decide (v43 < v42)) = true then
    (if (bnds v43 (v41.length : Int)) = true then
    (if (decide ((v41.getD v43.toNat (0 : Int)) = (1 : Int))) = true then
    (if (decide (v9.length + ([v43]).length ≤ lim)) = true then
    let l12 := (v9 ++ [v43])
    i_EasyClasses_l15 K k l12 v41 v42 (IntKind.i64.wrap (v43 + (1 : Int))) kx4
    else
    none)
    else
    i_EasyClasses_l15 K k v9 v41 v42 (IntKind.i64.wrap (v43 + (1 : Int))) kx4)
    else
    none)
    else
    kx4 v9)
noncomputable def i_EasyClasses (K : Nat) (x : ((Int × (List ((Int × Int × Unit) × (List Int) × Unit)) × Unit) × Unit)) : Option ((List Int) × Int × Unit) :=
    (i_IsInstance K (x.1, ())).bind fun y1 =>
    (if (!y1) = true then
    some (([] : List Int), (1 : Int), ())
    else
    let l2 := [(1 : Int), (1 : Int), (1 : Int), (1 : Int), (1 : Int), (1 : Int)]
    i_EasyClasses_l5 K K l2 x.1.2.1 (x.1.2.1.length : Int) (0 : Int) (fun z11 =>
    i_EasyClasses_l15 K K ([] : List Int) z11 (z11.length : Int) (0 : Int) (fun z13 =>
    some (z13, (0 : Int), ()))))
noncomputable def lv_i_EasyClasses_L5 : Lv := [(4, (.r (.int .i64))), (17, (.v (.sl (.st (.pair (.st (.pair (.int .i64) (.pair (.int .i64) .unit))) (.pair (.sl (.int .i64)) .unit)))))), (18, (.v (.int .i64))), (19, (.v (.int .i64)))]
noncomputable def lv_i_EasyClasses_L8 : Lv := [(4, (.r (.int .i64))), (17, (.v (.sl (.st (.pair (.st (.pair (.int .i64) (.pair (.int .i64) .unit))) (.pair (.sl (.int .i64)) .unit)))))), (18, (.v (.int .i64))), (19, (.v (.int .i64))), (25, (.r (.int .i64))), (26, (.v (.int .i64))), (27, (.v (.int .i64)))]
noncomputable def lv_i_EasyClasses_L15 : Lv := [(9, (.r (.int .i64))), (41, (.r (.int .i64))), (42, (.v (.int .i64))), (43, (.v (.int .i64)))]
noncomputable def lv_i_EasyClasses_X0 : Lv := [(4, (.r (.int .i64)))]
noncomputable def lv_i_EasyClasses_X2 : Lv := [(4, (.r (.int .i64))), (17, (.v (.sl (.st (.pair (.st (.pair (.int .i64) (.pair (.int .i64) .unit))) (.pair (.sl (.int .i64)) .unit)))))), (18, (.v (.int .i64))), (19, (.v (.int .i64)))]
noncomputable def lv_i_EasyClasses_X4 : Lv := [(9, (.r (.int .i64)))]
noncomputable def rv_i_EasyClasses : Lv := [(2, (.r (.int .i64))), (3, (.v (.int .i64)))]
noncomputable def gi_EasyClasses_l8 {R : Type} (K : Nat) (k : Nat) (x : den lv_i_EasyClasses_L8.ty) (kx : Nat → St → Option R) (kr : St → Option R) : Option R := i_EasyClasses_l8 K k x.1 x.2.1 x.2.2.1 x.2.2.2.1 x.2.2.2.2.1 x.2.2.2.2.2.1 x.2.2.2.2.2.2.1 (fun z0 z1 z2 z3 => kx 2 (mkSt lv_i_EasyClasses_X2 (z0, z1, z2, z3, ())))
noncomputable def gi_EasyClasses_l5 {R : Type} (K : Nat) (k : Nat) (x : den lv_i_EasyClasses_L5.ty) (kx : Nat → St → Option R) (kr : St → Option R) : Option R := i_EasyClasses_l5 K k x.1 x.2.1 x.2.2.1 x.2.2.2.1 (fun z0 => kx 0 (mkSt lv_i_EasyClasses_X0 (z0, ())))
noncomputable def gi_EasyClasses_l15 {R : Type} (K : Nat) (k : Nat) (x : den lv_i_EasyClasses_L15.ty) (kx : Nat → St → Option R) (kr : St → Option R) : Option R := i_EasyClasses_l15 K k x.1 x.2.1 x.2.2.1 x.2.2.2.1 (fun z0 => kx 4 (mkSt lv_i_EasyClasses_X4 (z0, ())))
noncomputable def sg_i_EasyClasses {R : Type} (K : Nat) (k : Nat) : List (Nat × SegS R) := []
noncomputable def su_i_EasyClasses : List (Nat × Unit) := []
noncomputable def en_i_EasyClasses {R : Type} (K : Nat) (k : Nat) : Env R := { L := lk [(8, mkLoop lv_i_EasyClasses_L8 (gi_EasyClasses_l8 K k)), (5, mkLoop lv_i_EasyClasses_L5 (gi_EasyClasses_l5 K k)), (15, mkLoop lv_i_EasyClasses_L15 (gi_EasyClasses_l15 K k))], X := lk [(0, lv_i_EasyClasses_X0), (2, lv_i_EasyClasses_X2), (4, lv_i_EasyClasses_X4)], S := lk (sg_i_EasyClasses K k), rv := rv_i_EasyClasses }
noncomputable def cf_i_EasyClasses (K : Nat) : Cfg := { ty := lk tys, fn := lk [(10, sp_i_IsInstance (i_IsInstance K)), (66, sp_i_easyRow (i_easyRow K))], fs := lk [], prot := 0, nt := Tryz.f13.ntmps }
noncomputable def c_i_EasyClasses_L5 : Code := nthC (partsOf (hasK su_i_EasyClasses) (bodyOf Tryz.f13)) 0
noncomputable def c_i_EasyClasses_L8 : Code := nthC (partsOf (hasK su_i_EasyClasses) c_i_EasyClasses_L5) 0
noncomputable def c_i_EasyClasses_L15 : Code := nthC (partsOf (hasK su_i_EasyClasses) (bodyOf Tryz.f13)) 1
theorem ei_EasyClasses_l8 {R : Type} (K : Nat) (k : Nat) (x : den lv_i_EasyClasses_L8.ty) (kx : Nat → St → Option R) (kr : St → Option R) : gi_EasyClasses_l8 K (k + 1) x kx kr = evC (cf_i_EasyClasses K) (en_i_EasyClasses K k) c_i_EasyClasses_L8 (mkSt lv_i_EasyClasses_L8 x) (fun s => mkLoop lv_i_EasyClasses_L8 (gi_EasyClasses_l8 K k) s kx kr) kx kr := by kernel_rfl
theorem si_EasyClasses_l8 {R : Type} (K : Nat) (C : Cx) (hP : C.P = Tryz.prog) (O : CfgOk C (cf_i_EasyClasses K)) (k : Nat) : LpS C (R := R) (mkLoop lv_i_EasyClasses_L8 (gi_EasyClasses_l8 K k)) c_i_EasyClasses_L8 :=
  loop_sound O (by rw [hP]; kernel_rfl) (fun x kx kr => rfl) (ei_EasyClasses_l8 K) (fun k => lpOk_of (en := en_i_EasyClasses K k) (S := hasK su_i_EasyClasses) (fun i => hasK_lk (sg_i_EasyClasses K k) i) _ (by rw [show partsOf (hasK su_i_EasyClasses) c_i_EasyClasses_L8 = [] from by kernel_rfl]; exact trivial)) k
theorem ei_EasyClasses_l5 {R : Type} (K : Nat) (k : Nat) (x : den lv_i_EasyClasses_L5.ty) (kx : Nat → St → Option R) (kr : St → Option R) : gi_EasyClasses_l5 K (k + 1) x kx kr = evC (cf_i_EasyClasses K) (en_i_EasyClasses K k) c_i_EasyClasses_L5 (mkSt lv_i_EasyClasses_L5 x) (fun s => mkLoop lv_i_EasyClasses_L5 (gi_EasyClasses_l5 K k) s kx kr) kx kr := by kernel_rfl
theorem si_EasyClasses_l5 {R : Type} (K : Nat) (C : Cx) (hP : C.P = Tryz.prog) (O : CfgOk C (cf_i_EasyClasses K)) (k : Nat) : LpS C (R := R) (mkLoop lv_i_EasyClasses_L5 (gi_EasyClasses_l5 K k)) c_i_EasyClasses_L5 :=
  loop_sound O (by rw [hP]; kernel_rfl) (fun x kx kr => rfl) (ei_EasyClasses_l5 K) (fun k => lpOk_of (en := en_i_EasyClasses K k) (S := hasK su_i_EasyClasses) (fun i => hasK_lk (sg_i_EasyClasses K k) i) _ (by rw [show partsOf (hasK su_i_EasyClasses) c_i_EasyClasses_L5 = [(true, c_i_EasyClasses_L8)] from by kernel_rfl]; exact (lpL_loop (f := mkLoop lv_i_EasyClasses_L8 (gi_EasyClasses_l8 K k)) (by kernel_rfl) (si_EasyClasses_l8 K C hP O k) trivial))) k
theorem ei_EasyClasses_l15 {R : Type} (K : Nat) (k : Nat) (x : den lv_i_EasyClasses_L15.ty) (kx : Nat → St → Option R) (kr : St → Option R) : gi_EasyClasses_l15 K (k + 1) x kx kr = evC (cf_i_EasyClasses K) (en_i_EasyClasses K k) c_i_EasyClasses_L15 (mkSt lv_i_EasyClasses_L15 x) (fun s => mkLoop lv_i_EasyClasses_L15 (gi_EasyClasses_l15 K k) s kx kr) kx kr := by kernel_rfl
theorem si_EasyClasses_l15 {R : Type} (K : Nat) (C : Cx) (hP : C.P = Tryz.prog) (O : CfgOk C (cf_i_EasyClasses K)) (k : Nat) : LpS C (R := R) (mkLoop lv_i_EasyClasses_L15 (gi_EasyClasses_l15 K k)) c_i_EasyClasses_L15 :=
  loop_sound O (by rw [hP]; kernel_rfl) (fun x kx kr => rfl) (ei_EasyClasses_l15 K) (fun k => lpOk_of (en := en_i_EasyClasses K k) (S := hasK su_i_EasyClasses) (fun i => hasK_lk (sg_i_EasyClasses K k) i) _ (by rw [show partsOf (hasK su_i_EasyClasses) c_i_EasyClasses_L15 = [] from by kernel_rfl]; exact trivial)) k
theorem e_i_EasyClasses (K : Nat) (x : den as_i_EasyClasses) : i_EasyClasses K x = evFn (cf_i_EasyClasses K) as_i_EasyClasses [false] (.tup (.pair (.sl (.int .i64)) (.pair (.int .i64) .unit))) (en_i_EasyClasses K K) Tryz.f13.results.toList (bodyOf Tryz.f13) x := by kernel_rfl
theorem ok_i_EasyClasses (K : Nat) : FnOk Tryz.prog 13 (sp_i_EasyClasses (i_EasyClasses K)) :=
  fn_ok (cf := cf_i_EasyClasses K) (en := en_i_EasyClasses K K) (c := bodyOf Tryz.f13) Tryz.func13 (by kernel_rfl) (by kernel_rfl) tysOk (fns_ok (l := [(10, sp_i_IsInstance (i_IsInstance K)), (66, sp_i_easyRow (i_easyRow K))]) ⟨ok_i_IsInstance K, ⟨ok_i_easyRow K, trivial⟩⟩) (shs_ok (l := []) trivial) (by kernel_rfl) rfl (Nat.le_of_ble_eq_true (by kernel_rfl)) (by kernel_rfl) (of_decide_eq_true (by kernel_rfl)) (by decide) (fun C hP O => lpOk_of (en := en_i_EasyClasses K K) (S := hasK su_i_EasyClasses) (fun i => hasK_lk (sg_i_EasyClasses K K) i) _ (by rw [show partsOf (hasK su_i_EasyClasses) (bodyOf Tryz.f13) = [(true, c_i_EasyClasses_L5), (true, c_i_EasyClasses_L15)] from by kernel_rfl]; exact (lpL_loop (f := mkLoop lv_i_EasyClasses_L5 (gi_EasyClasses_l5 K K)) (by kernel_rfl) (si_EasyClasses_l5 K C hP O K) (lpL_loop (f := mkLoop lv_i_EasyClasses_L15 (gi_EasyClasses_l15 K K)) (by kernel_rfl) (si_EasyClasses_l15 K C hP O K) trivial)))) (fun x y h => by rw [← e_i_EasyClasses]; exact h)
noncomputable def as_i_EasyRow : Ty := (.pair (.st (.pair (.int .i64) (.pair (.int .i64) .unit))) .unit)
noncomputable def sp_i_EasyRow (F : ((Int × Int × Unit) × Unit) → Option ((List Int) × Int × Unit)) : FnSpec := ⟨as_i_EasyRow, [false], (.tup (.pair (.sl (.int .i64)) (.pair (.int .i64) .unit))), F⟩
noncomputable def i_EasyRow (K : Nat) (x : ((Int × Int × Unit) × Unit)) : Option ((List Int) × Int × Unit) :=
    (i_IsRelation K (x.1, ())).bind fun y1 =>
    (if (!y1) = true then
    some (([] : List Int), (1 : Int), ())
    else
    (i_easyRow K (x.1, ())).bind fun y2 =>
    some (y2, (0 : Int), ()))
noncomputable def rv_i_EasyRow : Lv := [(2, (.r (.int .i64))), (3, (.v (.int .i64)))]
noncomputable def sg_i_EasyRow {R : Type} (K : Nat) (k : Nat) : List (Nat × SegS R) := []
noncomputable def su_i_EasyRow : List (Nat × Unit) := []
noncomputable def en_i_EasyRow {R : Type} (K : Nat) (k : Nat) : Env R := { L := lk [], X := lk [], S := lk (sg_i_EasyRow K k), rv := rv_i_EasyRow }
noncomputable def cf_i_EasyRow (K : Nat) : Cfg := { ty := lk tys, fn := lk [(63, sp_i_IsRelation (i_IsRelation K)), (66, sp_i_easyRow (i_easyRow K))], fs := lk [], prot := 0, nt := Tryz.f22.ntmps }
theorem e_i_EasyRow (K : Nat) (x : den as_i_EasyRow) : i_EasyRow K x = evFn (cf_i_EasyRow K) as_i_EasyRow [false] (.tup (.pair (.sl (.int .i64)) (.pair (.int .i64) .unit))) (en_i_EasyRow K K) Tryz.f22.results.toList (bodyOf Tryz.f22) x := by kernel_rfl
theorem ok_i_EasyRow (K : Nat) : FnOk Tryz.prog 22 (sp_i_EasyRow (i_EasyRow K)) :=
  fn_ok (cf := cf_i_EasyRow K) (en := en_i_EasyRow K K) (c := bodyOf Tryz.f22) Tryz.func22 (by kernel_rfl) (by kernel_rfl) tysOk (fns_ok (l := [(63, sp_i_IsRelation (i_IsRelation K)), (66, sp_i_easyRow (i_easyRow K))]) ⟨ok_i_IsRelation K, ⟨ok_i_easyRow K, trivial⟩⟩) (shs_ok (l := []) trivial) (by kernel_rfl) rfl (Nat.le_of_ble_eq_true (by kernel_rfl)) (by kernel_rfl) (of_decide_eq_true (by kernel_rfl)) (by decide) (fun C hP O => lpOk_of (en := en_i_EasyRow K K) (S := hasK su_i_EasyRow) (fun i => hasK_lk (sg_i_EasyRow K K) i) _ (by rw [show partsOf (hasK su_i_EasyRow) (bodyOf Tryz.f22) = [] from by kernel_rfl]; exact trivial)) (fun x y h => by rw [← e_i_EasyRow]; exact h)
noncomputable def as_i_copied : Ty := (.pair (.sl (.st (.pair (.st (.pair (.int .i64) (.pair (.int .i64) .unit))) (.pair (.sl (.int .i64)) .unit)))) .unit)
noncomputable def sp_i_copied (F : ((List ((Int × Int × Unit) × (List Int) × Unit)) × Unit) → Option (List ((Int × Int × Unit) × (List Int) × Unit))) : FnSpec := ⟨as_i_copied, [false], (.sl (.st (.pair (.st (.pair (.int .i64) (.pair (.int .i64) .unit))) (.pair (.sl (.int .i64)) .unit)))), F⟩
noncomputable def i_copied_l3 {R : Type} (K : Nat) : Nat → (List ((Int × Int × Unit) × (List Int) × Unit)) → (List ((Int × Int × Unit) × (List Int) × Unit)) → Int → Int → ((List ((Int × Int × Unit) × (List Int) × Unit)) → Option R) → Option R
  | 0, _, _, _, _, _ => none
  | k + 1, v3, v6, v7, v8, kx0 =>
    (if (decide (v8 < v7)) = true then
    (if (bnds v8 (v6.length : Int)) = true then
    let x1 := (v6.getD v8.toNat (((0 : Int), (0 : Int), ()), ([] : List Int), ()))
    (slices_Clone_int64 K (x1.2.1, ())).bind fun y2 =>
    let l3 := [(x1.1, y2, ())]
    (if (decide (v3.length + l3.length ≤ lim)) = true then
    let l4 := (v3 ++ l3)
    i_copied_l3 K k l4 v6 v7 (IntKind.i64.wrap (v8 + (1 : Int))) kx0
    else
    none)
    else
    none)
    else
    kx0 v3)
noncomputable def i_copied (K : Nat) (x : ((List ((Int × Int × Unit) × (List Int) × Unit)) × Unit)) : Option (List ((Int × Int × Unit) × (List Int) × Unit)) :=
    i_copied_l3 K K ([] : List ((Int × Int × Unit) × (List Int) × Unit)) x.1 (x.1.length : Int) (0 : Int) (fun z5 =>
    some z5)
noncomputable def lv_i_copied_L3 : Lv := [(3, (.r (.st (.pair (.st (.pair (.int .i64) (.pair (.int .i64) .unit))) (.pair (.sl (.int .i64)) .unit))))), (6, (.v (.sl (.st (.pair (.st (.pair (.int .i64) (.pair (.int .i64) .unit))) (.pair (.sl (.int .i64)) .unit)))))), (7, (.v (.int .i64))), (8, (.v (.int .i64)))]
noncomputable def lv_i_copied_X0 : Lv := [(3, (.r (.st (.pair (.st (.pair (.int .i64) (.pair (.int .i64) .unit))) (.pair (.sl (.int .i64)) .unit)))))]
noncomputable def rv_i_copied : Lv := [(2, (.r (.st (.pair (.st (.pair (.int .i64) (.pair (.int .i64) .unit))) (.pair (.sl (.int .i64)) .unit)))))]
noncomputable def gi_copied_l3 {R : Type} (K : Nat) (k : Nat) (x : den lv_i_copied_L3.ty) (kx : Nat → St → Option R) (kr : St → Option R) : Option R := i_copied_l3 K k x.1 x.2.1 x.2.2.1 x.2.2.2.1 (fun z0 => kx 0 (mkSt lv_i_copied_X0 (z0, ())))
noncomputable def sg_i_copied {R : Type} (K : Nat) (k : Nat) : List (Nat × SegS R) := []
noncomputable def su_i_copied : List (Nat × Unit) := []
noncomputable def en_i_copied {R : Type} (K : Nat) (k : Nat) : Env R := { L := lk [(3, mkLoop lv_i_copied_L3 (gi_copied_l3 K k))], X := lk [(0, lv_i_copied_X0)], S := lk (sg_i_copied K k), rv := rv_i_copied }
noncomputable def cf_i_copied (K : Nat) : Cfg := { ty := lk tys, fn := lk [(128, sp_slices_Clone_int64 (slices_Clone_int64 K))], fs := lk [], prot := 0, nt := Tryz.f67.ntmps }
noncomputable def c_i_copied_L3 : Code := nthC (partsOf (hasK su_i_copied) (bodyOf Tryz.f67)) 0
theorem ei_copied_l3 {R : Type} (K : Nat) (k : Nat) (x : den lv_i_copied_L3.ty) (kx : Nat → St → Option R) (kr : St → Option R) : gi_copied_l3 K (k + 1) x kx kr = evC (cf_i_copied K) (en_i_copied K k) c_i_copied_L3 (mkSt lv_i_copied_L3 x) (fun s => mkLoop lv_i_copied_L3 (gi_copied_l3 K k) s kx kr) kx kr := by kernel_rfl
theorem si_copied_l3 {R : Type} (K : Nat) (C : Cx) (hP : C.P = Tryz.prog) (O : CfgOk C (cf_i_copied K)) (k : Nat) : LpS C (R := R) (mkLoop lv_i_copied_L3 (gi_copied_l3 K k)) c_i_copied_L3 :=
  loop_sound O (by rw [hP]; kernel_rfl) (fun x kx kr => rfl) (ei_copied_l3 K) (fun k => lpOk_of (en := en_i_copied K k) (S := hasK su_i_copied) (fun i => hasK_lk (sg_i_copied K k) i) _ (by rw [show partsOf (hasK su_i_copied) c_i_copied_L3 = [] from by kernel_rfl]; exact trivial)) k
theorem e_i_copied (K : Nat) (x : den as_i_copied) : i_copied K x = evFn (cf_i_copied K) as_i_copied [false] (.sl (.st (.pair (.st (.pair (.int .i64) (.pair (.int .i64) .unit))) (.pair (.sl (.int .i64)) .unit)))) (en_i_copied K K) Tryz.f67.results.toList (bodyOf Tryz.f67) x := by kernel_rfl
theorem ok_i_copied (K : Nat) : FnOk Tryz.prog 67 (sp_i_copied (i_copied K)) :=
  fn_ok (cf := cf_i_copied K) (en := en_i_copied K K) (c := bodyOf Tryz.f67) Tryz.func67 (by kernel_rfl) (by kernel_rfl) tysOk (fns_ok (l := [(128, sp_slices_Clone_int64 (slices_Clone_int64 K))]) ⟨ok_slices_Clone_int64 K, trivial⟩) (shs_ok (l := []) trivial) (by kernel_rfl) rfl (Nat.le_of_ble_eq_true (by kernel_rfl)) (by kernel_rfl) (of_decide_eq_true (by kernel_rfl)) (by decide) (fun C hP O => lpOk_of (en := en_i_copied K K) (S := hasK su_i_copied) (fun i => hasK_lk (sg_i_copied K K) i) _ (by rw [show partsOf (hasK su_i_copied) (bodyOf Tryz.f67) = [(true, c_i_copied_L3)] from by kernel_rfl]; exact (lpL_loop (f := mkLoop lv_i_copied_L3 (gi_copied_l3 K K)) (by kernel_rfl) (si_copied_l3 K C hP O K) trivial))) (fun x y h => by rw [← e_i_copied]; exact h)
noncomputable def as_i_funcBy : Ty := (.pair (.int .i64) (.pair (.fn (.pair (.int .i64) .unit) (.int .i64)) .unit))
noncomputable def sp_i_funcBy (F : (Int × ((Int × Unit) → Option Int) × Unit) → Option (Int × Int × Unit)) : FnSpec := ⟨as_i_funcBy, [false, false], (.st (.pair (.int .i64) (.pair (.int .i64) .unit))), F⟩
noncomputable def i_funcBy_l3 {R : Type} (K : Nat) : Nat → ((Int × Unit) → Option Int) → (Int × Int × Unit) → (Int × Int × Unit) → Int → Int → ((Int × Int × Unit) → (Int × Int × Unit) → Option R) → Option R
  | 0, _, _, _, _, _, _ => none
  | k + 1, v1, v4, v5, v10, v11, kx0 =>
    (if (decide (v11 < v10)) = true then
    (v1 (v11, ())).bind fun y2 =>
    (if (decide ((0 : Int) ≤ v11)) = true then
    i_funcBy_l3 K k v1 v4 (v5.1, (bitI .or .i64 v5.2.1 (shlI .i64 y2 v11)), ()) v10 (IntKind.i64.wrap (v11 + (1 : Int))) kx0
    else
    none)
    else
    kx0 v4 v5)
noncomputable def i_funcBy (K : Nat) (x : (Int × ((Int × Unit) → Option Int) × Unit)) : Option (Int × Int × Unit) :=
    (i_rowsOf K (x.1, ())).bind fun y1 =>
    i_funcBy_l3 K K x.2.1 ((0 : Int), (0 : Int), ()) (x.1, ((0 : Int), (0 : Int), ()).2.1, ()) y1 (0 : Int) (fun z3 z4 =>
    some z4)
noncomputable def lv_i_funcBy_L3 : Lv := [(1, (.v (.fn (.pair (.int .i64) .unit) (.int .i64)))), (4, (.bx (.v (.st (.pair (.int .i64) (.pair (.int .i64) .unit)))))), (5, (.bx (.v (.st (.pair (.int .i64) (.pair (.int .i64) .unit)))))), (10, (.v (.int .i64))), (11, (.v (.int .i64)))]
noncomputable def lv_i_funcBy_X0 : Lv := [(4, (.bx (.v (.st (.pair (.int .i64) (.pair (.int .i64) .unit)))))), (5, (.bx (.v (.st (.pair (.int .i64) (.pair (.int .i64) .unit))))))]
noncomputable def rv_i_funcBy : Lv := [(4, (.bx (.v (.st (.pair (.int .i64) (.pair (.int .i64) .unit))))))]
noncomputable def gi_funcBy_l3 {R : Type} (K : Nat) (k : Nat) (x : den lv_i_funcBy_L3.ty) (kx : Nat → St → Option R) (kr : St → Option R) : Option R := i_funcBy_l3 K k x.1 x.2.1 x.2.2.1 x.2.2.2.1 x.2.2.2.2.1 (fun z0 z1 => kx 0 (mkSt lv_i_funcBy_X0 (z0, z1, ())))
noncomputable def sg_i_funcBy {R : Type} (K : Nat) (k : Nat) : List (Nat × SegS R) := []
noncomputable def su_i_funcBy : List (Nat × Unit) := []
noncomputable def en_i_funcBy {R : Type} (K : Nat) (k : Nat) : Env R := { L := lk [(3, mkLoop lv_i_funcBy_L3 (gi_funcBy_l3 K k))], X := lk [(0, lv_i_funcBy_X0)], S := lk (sg_i_funcBy K k), rv := rv_i_funcBy }
noncomputable def cf_i_funcBy (K : Nat) : Cfg := { ty := lk tys, fn := lk [(68, sp_i_rowsOf (i_rowsOf K))], fs := lk [], prot := 0, nt := Tryz.f129.ntmps }
noncomputable def c_i_funcBy_L3 : Code := nthC (partsOf (hasK su_i_funcBy) (bodyOf Tryz.f129)) 0
theorem ei_funcBy_l3 {R : Type} (K : Nat) (k : Nat) (x : den lv_i_funcBy_L3.ty) (kx : Nat → St → Option R) (kr : St → Option R) : gi_funcBy_l3 K (k + 1) x kx kr = evC (cf_i_funcBy K) (en_i_funcBy K k) c_i_funcBy_L3 (mkSt lv_i_funcBy_L3 x) (fun s => mkLoop lv_i_funcBy_L3 (gi_funcBy_l3 K k) s kx kr) kx kr := by kernel_rfl
theorem si_funcBy_l3 {R : Type} (K : Nat) (C : Cx) (hP : C.P = Tryz.prog) (O : CfgOk C (cf_i_funcBy K)) (k : Nat) : LpS C (R := R) (mkLoop lv_i_funcBy_L3 (gi_funcBy_l3 K k)) c_i_funcBy_L3 :=
  loop_sound O (by rw [hP]; kernel_rfl) (fun x kx kr => rfl) (ei_funcBy_l3 K) (fun k => lpOk_of (en := en_i_funcBy K k) (S := hasK su_i_funcBy) (fun i => hasK_lk (sg_i_funcBy K k) i) _ (by rw [show partsOf (hasK su_i_funcBy) c_i_funcBy_L3 = [] from by kernel_rfl]; exact trivial)) k
theorem e_i_funcBy (K : Nat) (x : den as_i_funcBy) : i_funcBy K x = evFn (cf_i_funcBy K) as_i_funcBy [false, false] (.st (.pair (.int .i64) (.pair (.int .i64) .unit))) (en_i_funcBy K K) Tryz.f129.results.toList (bodyOf Tryz.f129) x := by kernel_rfl
theorem ok_i_funcBy (K : Nat) : FnOk Tryz.prog 129 (sp_i_funcBy (i_funcBy K)) :=
  fn_ok (cf := cf_i_funcBy K) (en := en_i_funcBy K K) (c := bodyOf Tryz.f129) Tryz.func129 (by kernel_rfl) (by kernel_rfl) tysOk (fns_ok (l := [(68, sp_i_rowsOf (i_rowsOf K))]) ⟨ok_i_rowsOf K, trivial⟩) (shs_ok (l := []) trivial) (by kernel_rfl) rfl (Nat.le_of_ble_eq_true (by kernel_rfl)) (by kernel_rfl) (of_decide_eq_true (by kernel_rfl)) (by decide) (fun C hP O => lpOk_of (en := en_i_funcBy K K) (S := hasK su_i_funcBy) (fun i => hasK_lk (sg_i_funcBy K K) i) _ (by rw [show partsOf (hasK su_i_funcBy) (bodyOf Tryz.f129) = [(true, c_i_funcBy_L3)] from by kernel_rfl]; exact (lpL_loop (f := mkLoop lv_i_funcBy_L3 (gi_funcBy_l3 K K)) (by kernel_rfl) (si_funcBy_l3 K C hP O K) trivial))) (fun x y h => by rw [← e_i_funcBy]; exact h)
noncomputable def as_i_relationBy_c1 : Ty := (.pair (.int .i64) (.pair (.ptr (.fn (.pair (.int .i64) .unit) .bool)) .unit))
noncomputable def sp_i_relationBy_c1 (F : (Int × ((Int × Unit) → Option Bool) × Unit) → Option Int) : FnSpec := ⟨as_i_relationBy_c1, [false, false], (.int .i64), F⟩
noncomputable def i_relationBy_c1 (K : Nat) (x : (Int × ((Int × Unit) → Option Bool) × Unit)) : Option Int :=
    (x.2.1 (x.1, ())).bind fun y1 =>
    (i_one K (y1, ())).bind fun y2 =>
    some y2
noncomputable def rv_i_relationBy_c1 : Lv := [(3, (.v (.int .i64)))]
noncomputable def sg_i_relationBy_c1 {R : Type} (K : Nat) (k : Nat) : List (Nat × SegS R) := []
noncomputable def su_i_relationBy_c1 : List (Nat × Unit) := []
noncomputable def en_i_relationBy_c1 {R : Type} (K : Nat) (k : Nat) : Env R := { L := lk [], X := lk [], S := lk (sg_i_relationBy_c1 K k), rv := rv_i_relationBy_c1 }
noncomputable def cf_i_relationBy_c1 (K : Nat) : Cfg := { ty := lk tys, fn := lk [(125, sp_i_one (i_one K))], fs := lk [], prot := 0, nt := Tryz.f130.ntmps }
theorem e_i_relationBy_c1 (K : Nat) (x : den as_i_relationBy_c1) : i_relationBy_c1 K x = evFn (cf_i_relationBy_c1 K) as_i_relationBy_c1 [false, false] (.int .i64) (en_i_relationBy_c1 K K) Tryz.f130.results.toList (bodyOf Tryz.f130) x := by kernel_rfl
theorem ok_i_relationBy_c1 (K : Nat) : FnOk Tryz.prog 130 (sp_i_relationBy_c1 (i_relationBy_c1 K)) :=
  fn_ok (cf := cf_i_relationBy_c1 K) (en := en_i_relationBy_c1 K K) (c := bodyOf Tryz.f130) Tryz.func130 (by kernel_rfl) (by kernel_rfl) tysOk (fns_ok (l := [(125, sp_i_one (i_one K))]) ⟨ok_i_one K, trivial⟩) (shs_ok (l := []) trivial) (by kernel_rfl) rfl (Nat.le_of_ble_eq_true (by kernel_rfl)) (by kernel_rfl) (of_decide_eq_true (by kernel_rfl)) (by decide) (fun C hP O => lpOk_of (en := en_i_relationBy_c1 K K) (S := hasK su_i_relationBy_c1) (fun i => hasK_lk (sg_i_relationBy_c1 K K) i) _ (by rw [show partsOf (hasK su_i_relationBy_c1) (bodyOf Tryz.f130) = [] from by kernel_rfl]; exact trivial)) (fun x y h => by rw [← e_i_relationBy_c1]; exact h)
noncomputable def as_i_relationBy : Ty := (.pair (.int .i64) (.pair (.fn (.pair (.int .i64) .unit) .bool) .unit))
noncomputable def sp_i_relationBy (F : (Int × ((Int × Unit) → Option Bool) × Unit) → Option (Int × Int × Unit)) : FnSpec := ⟨as_i_relationBy, [false, false], (.st (.pair (.int .i64) (.pair (.int .i64) .unit))), F⟩
noncomputable def i_relationBy (K : Nat) (x : (Int × ((Int × Unit) → Option Bool) × Unit)) : Option (Int × Int × Unit) :=
    (i_funcBy K (x.1, (fun y2 => i_relationBy_c1 K (y2.1, x.2.1, ())), ())).bind fun y1 =>
    some ((x.1, ((0 : Int), (0 : Int), ()).2.1, ()).1, y1.2.1, ())
noncomputable def rv_i_relationBy : Lv := [(4, (.bx (.v (.st (.pair (.int .i64) (.pair (.int .i64) .unit))))))]
noncomputable def sg_i_relationBy {R : Type} (K : Nat) (k : Nat) : List (Nat × SegS R) := []
noncomputable def su_i_relationBy : List (Nat × Unit) := []
noncomputable def en_i_relationBy {R : Type} (K : Nat) (k : Nat) : Env R := { L := lk [], X := lk [], S := lk (sg_i_relationBy K k), rv := rv_i_relationBy }
noncomputable def cf_i_relationBy (K : Nat) : Cfg := { ty := lk tys, fn := lk [(129, sp_i_funcBy (i_funcBy K)), (130, sp_i_relationBy_c1 (i_relationBy_c1 K))], fs := lk [], prot := 0, nt := Tryz.f69.ntmps }
theorem e_i_relationBy (K : Nat) (x : den as_i_relationBy) : i_relationBy K x = evFn (cf_i_relationBy K) as_i_relationBy [false, false] (.st (.pair (.int .i64) (.pair (.int .i64) .unit))) (en_i_relationBy K K) Tryz.f69.results.toList (bodyOf Tryz.f69) x := by kernel_rfl
theorem ok_i_relationBy (K : Nat) : FnOk Tryz.prog 69 (sp_i_relationBy (i_relationBy K)) :=
  fn_ok (cf := cf_i_relationBy K) (en := en_i_relationBy K K) (c := bodyOf Tryz.f69) Tryz.func69 (by kernel_rfl) (by kernel_rfl) tysOk (fns_ok (l := [(129, sp_i_funcBy (i_funcBy K)), (130, sp_i_relationBy_c1 (i_relationBy_c1 K))]) ⟨ok_i_funcBy K, ⟨ok_i_relationBy_c1 K, trivial⟩⟩) (shs_ok (l := []) trivial) (by kernel_rfl) rfl (Nat.le_of_ble_eq_true (by kernel_rfl)) (by kernel_rfl) (of_decide_eq_true (by kernel_rfl)) (by decide) (fun C hP O => lpOk_of (en := en_i_relationBy K K) (S := hasK su_i_relationBy) (fun i => hasK_lk (sg_i_relationBy K K) i) _ (by rw [show partsOf (hasK su_i_relationBy) (bodyOf Tryz.f69) = [] from by kernel_rfl]; exact trivial)) (fun x y h => by rw [← e_i_relationBy]; exact h)
noncomputable def as_i_FlipInstance_c1 : Ty := (.pair (.int .i64) (.pair (.ptr (.st (.pair (.st (.pair (.int .i64) (.pair (.int .i64) .unit))) (.pair (.sl (.int .i64)) .unit)))) (.pair (.ptr (.int .i64)) .unit)))
noncomputable def sp_i_FlipInstance_c1 (F : (Int × ((Int × Int × Unit) × (List Int) × Unit) × Int × Unit) → Option Bool) : FnSpec := ⟨as_i_FlipInstance_c1, [false, false, false], .bool, F⟩
noncomputable def i_FlipInstance_c1 (K : Nat) (x : (Int × ((Int × Int × Unit) × (List Int) × Unit) × Int × Unit)) : Option Bool :=
    (i_Relation_has K (x.2.1.1, (IntKind.i64.wrap (x.2.2.1 - x.1)), ())).bind fun y1 =>
    some y1
noncomputable def rv_i_FlipInstance_c1 : Lv := [(4, (.v .bool))]
noncomputable def sg_i_FlipInstance_c1 {R : Type} (K : Nat) (k : Nat) : List (Nat × SegS R) := []
noncomputable def su_i_FlipInstance_c1 : List (Nat × Unit) := []
noncomputable def en_i_FlipInstance_c1 {R : Type} (K : Nat) (k : Nat) : Env R := { L := lk [], X := lk [], S := lk (sg_i_FlipInstance_c1 K k), rv := rv_i_FlipInstance_c1 }
noncomputable def cf_i_FlipInstance_c1 (K : Nat) : Cfg := { ty := lk tys, fn := lk [(71, sp_i_Relation_has (i_Relation_has K))], fs := lk [], prot := 0, nt := Tryz.f70.ntmps }
theorem e_i_FlipInstance_c1 (K : Nat) (x : den as_i_FlipInstance_c1) : i_FlipInstance_c1 K x = evFn (cf_i_FlipInstance_c1 K) as_i_FlipInstance_c1 [false, false, false] .bool (en_i_FlipInstance_c1 K K) Tryz.f70.results.toList (bodyOf Tryz.f70) x := by kernel_rfl
theorem ok_i_FlipInstance_c1 (K : Nat) : FnOk Tryz.prog 70 (sp_i_FlipInstance_c1 (i_FlipInstance_c1 K)) :=
  fn_ok (cf := cf_i_FlipInstance_c1 K) (en := en_i_FlipInstance_c1 K K) (c := bodyOf Tryz.f70) Tryz.func70 (by kernel_rfl) (by kernel_rfl) tysOk (fns_ok (l := [(71, sp_i_Relation_has (i_Relation_has K))]) ⟨ok_i_Relation_has K, trivial⟩) (shs_ok (l := []) trivial) (by kernel_rfl) rfl (Nat.le_of_ble_eq_true (by kernel_rfl)) (by kernel_rfl) (of_decide_eq_true (by kernel_rfl)) (by decide) (fun C hP O => lpOk_of (en := en_i_FlipInstance_c1 K K) (S := hasK su_i_FlipInstance_c1) (fun i => hasK_lk (sg_i_FlipInstance_c1 K K) i) _ (by rw [show partsOf (hasK su_i_FlipInstance_c1) (bodyOf Tryz.f70) = [] from by kernel_rfl]; exact trivial)) (fun x y h => by rw [← e_i_FlipInstance_c1]; exact h)
noncomputable def as_i_FlipInstance : Ty := (.pair (.st (.pair (.int .i64) (.pair (.sl (.st (.pair (.st (.pair (.int .i64) (.pair (.int .i64) .unit))) (.pair (.sl (.int .i64)) .unit)))) .unit))) .unit)
noncomputable def sp_i_FlipInstance (F : ((Int × (List ((Int × Int × Unit) × (List Int) × Unit)) × Unit) × Unit) → Option ((Int × (List ((Int × Int × Unit) × (List Int) × Unit)) × Unit) × Int × Unit)) : FnSpec := ⟨as_i_FlipInstance, [false], (.tup (.pair (.st (.pair (.int .i64) (.pair (.sl (.st (.pair (.st (.pair (.int .i64) (.pair (.int .i64) .unit))) (.pair (.sl (.int .i64)) .unit)))) .unit))) (.pair (.int .i64) .unit))), F⟩
noncomputable def i_FlipInstance_l5 {R : Type} (K : Nat) : Nat → Int → (List ((Int × Int × Unit) × (List Int) × Unit)) → Int → (List ((Int × Int × Unit) × (List Int) × Unit)) → Int → Int → (Int → (List ((Int × Int × Unit) × (List Int) × Unit)) → Int → (List ((Int × Int × Unit) × (List Int) × Unit)) → Option R) → Option R
  | 0, _, _, _, _, _, _, _ => none
  | k + 1, v2_0, v2_1, v4_0, v4_1, v20, v21, kx0 =>
    (if (decide (v21 < v20)) = true then
    (if (bnds v21 (v4_1.length : Int)) = true then
    let x3 := ((v4_1.getD v21.toNat (((0 : Int), (0 : Int), ()), ([] : List Int), ())).1).1
    (i_rowsOf K (x3, ())).bind fun y4 =>
    let x5 := ((v4_1.getD v21.toNat (((0 : Int), (0 : Int), ()), ([] : List Int), ())).1).1
    (i_relationBy K (x5, (fun y7 => i_FlipInstance_c1 K (y7.1, ((v4_1.getD v21.toNat (((0 : Int), (0 : Int), ()), ([] : List Int), ())).1, (v4_1.getD v21.toNat (((0 : Int), (0 : Int), ()), ([] : List Int), ())).2.1, ()), (IntKind.i64.wrap (y4 - (1 : Int))), ())), ())).bind fun y6 =>
    (if (bnds v21 (v4_1.length : Int)) = true then
    let l8 := (v4_1.set v21.toNat (y6, (v4_1.getD v21.toNat (((0 : Int), (0 : Int), ()), ([] : List Int), ())).2.1, ()))
    i_FlipInstance_l5 K k v2_0 v2_1 v4_0 l8 v20 (IntKind.i64.wrap (v21 + (1 : Int))) kx0
    else
    none)
    else
    none)
    else
    kx0 v2_0 v2_1 v4_0 v4_1)
noncomputable def i_FlipInstance (K : Nat) (x : ((Int × (List ((Int × Int × Unit) × (List Int) × Unit)) × Unit) × Unit)) : Option ((Int × (List ((Int × Int × Unit) × (List Int) × Unit)) × Unit) × Int × Unit) :=
    (i_IsInstance K (x.1, ())).bind fun y1 =>
    (if (!y1) = true then
    some (((0 : Int), ([] : List ((Int × Int × Unit) × (List Int) × Unit)), ()), (1 : Int), ())
    else
    (i_copied K (x.1.2.1, ())).bind fun y2 =>
    i_FlipInstance_l5 K K (0 : Int) ([] : List ((Int × Int × Unit) × (List Int) × Unit)) x.1.1 y2 (y2.length : Int) (0 : Int) (fun z9 z10 z11 z12 =>
    some ((z11, z12, ()), (0 : Int), ())))
noncomputable def lv_i_FlipInstance_L5 : Lv := [(2, (.bx (.st (.pair (.v (.int .i64)) (.pair (.r (.st (.pair (.st (.pair (.int .i64) (.pair (.int .i64) .unit))) (.pair (.sl (.int .i64)) .unit)))) .unit))))), (4, (.bx (.st (.pair (.v (.int .i64)) (.pair (.r (.st (.pair (.st (.pair (.int .i64) (.pair (.int .i64) .unit))) (.pair (.sl (.int .i64)) .unit)))) .unit))))), (20, (.v (.int .i64))), (21, (.v (.int .i64)))]
noncomputable def lv_i_FlipInstance_X0 : Lv := [(2, (.bx (.st (.pair (.v (.int .i64)) (.pair (.r (.st (.pair (.st (.pair (.int .i64) (.pair (.int .i64) .unit))) (.pair (.sl (.int .i64)) .unit)))) .unit))))), (4, (.bx (.st (.pair (.v (.int .i64)) (.pair (.r (.st (.pair (.st (.pair (.int .i64) (.pair (.int .i64) .unit))) (.pair (.sl (.int .i64)) .unit)))) .unit)))))]
noncomputable def rv_i_FlipInstance : Lv := [(2, (.bx (.st (.pair (.v (.int .i64)) (.pair (.r (.st (.pair (.st (.pair (.int .i64) (.pair (.int .i64) .unit))) (.pair (.sl (.int .i64)) .unit)))) .unit))))), (3, (.v (.int .i64)))]
noncomputable def gi_FlipInstance_l5 {R : Type} (K : Nat) (k : Nat) (x : den lv_i_FlipInstance_L5.ty) (kx : Nat → St → Option R) (kr : St → Option R) : Option R := i_FlipInstance_l5 K k x.1.1 x.1.2.1 x.2.1.1 x.2.1.2.1 x.2.2.1 x.2.2.2.1 (fun z0 z1 z2 z3 => kx 0 (mkSt lv_i_FlipInstance_X0 ((z0, z1, ()), (z2, z3, ()), ())))
noncomputable def sg_i_FlipInstance {R : Type} (K : Nat) (k : Nat) : List (Nat × SegS R) := []
noncomputable def su_i_FlipInstance : List (Nat × Unit) := []
noncomputable def en_i_FlipInstance {R : Type} (K : Nat) (k : Nat) : Env R := { L := lk [(5, mkLoopA lv_i_FlipInstance_L5 [(19, 33, (.st (.pair (.st (.pair (.int .i64) (.pair (.int .i64) .unit))) (.pair (.sl (.int .i64)) .unit))))] (gi_FlipInstance_l5 K k))], X := lk [(0, lv_i_FlipInstance_X0)], S := lk (sg_i_FlipInstance K k), rv := rv_i_FlipInstance }
noncomputable def cf_i_FlipInstance (K : Nat) : Cfg := { ty := lk tys, fn := lk [(10, sp_i_IsInstance (i_IsInstance K)), (67, sp_i_copied (i_copied K)), (68, sp_i_rowsOf (i_rowsOf K)), (69, sp_i_relationBy (i_relationBy K)), (70, sp_i_FlipInstance_c1 (i_FlipInstance_c1 K))], fs := lk [], prot := 0, nt := Tryz.f14.ntmps }
noncomputable def c_i_FlipInstance_L5 : Code := nthC (partsOf (hasK su_i_FlipInstance) (bodyOf Tryz.f14)) 0
theorem ei_FlipInstance_l5 {R : Type} (K : Nat) (k : Nat) (x : den lv_i_FlipInstance_L5.ty) (kx : Nat → St → Option R) (kr : St → Option R) : gi_FlipInstance_l5 K (k + 1) x kx kr = evC (cf_i_FlipInstance K) (en_i_FlipInstance K k) c_i_FlipInstance_L5 (mkStA lv_i_FlipInstance_L5 [(19, 33, (.st (.pair (.st (.pair (.int .i64) (.pair (.int .i64) .unit))) (.pair (.sl (.int .i64)) .unit))))] x) (fun s => mkLoopA lv_i_FlipInstance_L5 [(19, 33, (.st (.pair (.st (.pair (.int .i64) (.pair (.int .i64) .unit))) (.pair (.sl (.int .i64)) .unit))))] (gi_FlipInstance_l5 K k) s kx kr) kx kr := by kernel_rfl
theorem si_FlipInstance_l5 {R : Type} (K : Nat) (C : Cx) (hP : C.P = Tryz.prog) (O : CfgOk C (cf_i_FlipInstance K)) (k : Nat) : LpS C (R := R) (mkLoopA lv_i_FlipInstance_L5 [(19, 33, (.st (.pair (.st (.pair (.int .i64) (.pair (.int .i64) .unit))) (.pair (.sl (.int .i64)) .unit))))] (gi_FlipInstance_l5 K k)) c_i_FlipInstance_L5 :=
  loopA_sound O (by rw [hP]; kernel_rfl) (fun x kx kr => rfl) (ei_FlipInstance_l5 K) (fun k => lpOk_of (en := en_i_FlipInstance K k) (S := hasK su_i_FlipInstance) (fun i => hasK_lk (sg_i_FlipInstance K k) i) _ (by rw [show partsOf (hasK su_i_FlipInstance) c_i_FlipInstance_L5 = [] from by kernel_rfl]; exact trivial)) k
theorem e_i_FlipInstance (K : Nat) (x : den as_i_FlipInstance) : i_FlipInstance K x = evFn (cf_i_FlipInstance K) as_i_FlipInstance [false] (.tup (.pair (.st (.pair (.int .i64) (.pair (.sl (.st (.pair (.st (.pair (.int .i64) (.pair (.int .i64) .unit))) (.pair (.sl (.int .i64)) .unit)))) .unit))) (.pair (.int .i64) .unit))) (en_i_FlipInstance K K) Tryz.f14.results.toList (bodyOf Tryz.f14) x := by kernel_rfl
theorem ok_i_FlipInstance (K : Nat) : FnOk Tryz.prog 14 (sp_i_FlipInstance (i_FlipInstance K)) :=
  fn_ok (cf := cf_i_FlipInstance K) (en := en_i_FlipInstance K K) (c := bodyOf Tryz.f14) Tryz.func14 (by kernel_rfl) (by kernel_rfl) tysOk (fns_ok (l := [(10, sp_i_IsInstance (i_IsInstance K)), (67, sp_i_copied (i_copied K)), (68, sp_i_rowsOf (i_rowsOf K)), (69, sp_i_relationBy (i_relationBy K)), (70, sp_i_FlipInstance_c1 (i_FlipInstance_c1 K))]) ⟨ok_i_IsInstance K, ⟨ok_i_copied K, ⟨ok_i_rowsOf K, ⟨ok_i_relationBy K, ⟨ok_i_FlipInstance_c1 K, trivial⟩⟩⟩⟩⟩) (shs_ok (l := []) trivial) (by kernel_rfl) rfl (Nat.le_of_ble_eq_true (by kernel_rfl)) (by kernel_rfl) (of_decide_eq_true (by kernel_rfl)) (by decide) (fun C hP O => lpOk_of (en := en_i_FlipInstance K K) (S := hasK su_i_FlipInstance) (fun i => hasK_lk (sg_i_FlipInstance K K) i) _ (by rw [show partsOf (hasK su_i_FlipInstance) (bodyOf Tryz.f14) = [(true, c_i_FlipInstance_L5)] from by kernel_rfl]; exact (lpL_loop (f := mkLoopA lv_i_FlipInstance_L5 [(19, 33, (.st (.pair (.st (.pair (.int .i64) (.pair (.int .i64) .unit))) (.pair (.sl (.int .i64)) .unit))))] (gi_FlipInstance_l5 K K)) (by kernel_rfl) (si_FlipInstance_l5 K C hP O K) trivial))) (fun x y h => by rw [← e_i_FlipInstance]; exact h)
noncomputable def as_i_solved : Ty := (.pair (.st (.pair (.int .i64) (.pair (.sl (.st (.pair (.st (.pair (.int .i64) (.pair (.int .i64) .unit))) (.pair (.sl (.int .i64)) .unit)))) .unit))) .unit)
noncomputable def sp_i_solved (F : ((Int × (List ((Int × Int × Unit) × (List Int) × Unit)) × Unit) × Unit) → Option ((List Int) × Int × Unit)) : FnSpec := ⟨as_i_solved, [false], (.tup (.pair (.sl (.int .i64)) (.pair (.int .i64) .unit))), F⟩
noncomputable def i_solved_j4 {R : Type} (K : Nat) (k : Nat) (v4 : (List Int)) (v5 : Int) (kn : Option R) (kr : ((List Int) → Int → Option R)) : Option R :=
    kr v4 v5
noncomputable def i_solved (K : Nat) (x : ((Int × (List ((Int × Int × Unit) × (List Int) × Unit)) × Unit) × Unit)) : Option ((List Int) × Int × Unit) :=
    (i_SolutionsOf K (x.1, ())).bind fun y1 =>
    (if (decide (y1.2.1 = (0 : Int))) = true then
    (if (decide ((y1.1.length : Int) = (0 : Int))) = true then
    i_solved_j4 K K y1.1 (4 : Int) none (fun z2 z3 =>
    some (z2, z3, ()))
    else
    i_solved_j4 K K y1.1 y1.2.1 none (fun z4 z5 =>
    some (z4, z5, ())))
    else
    i_solved_j4 K K y1.1 y1.2.1 none (fun z6 z7 =>
    some (z6, z7, ())))
noncomputable def lv_i_solved_J4 : Lv := [(4, (.r (.int .i64))), (5, (.v (.int .i64)))]
noncomputable def lv_i_solved_N4 : Lv := []
noncomputable def rv_i_solved : Lv := [(2, (.r (.int .i64))), (3, (.v (.int .i64)))]
noncomputable def gi_solved_j4 {R : Type} (K : Nat) (k : Nat) (x : den lv_i_solved_J4.ty) (kn : den lv_i_solved_N4.ty → Option R) (kx : Nat → St → Option R) (kr : St → Option R) : Option R := i_solved_j4 K k x.1 x.2.1 (kn ()) (fun z0 z1 => kr (mkSt rv_i_solved (z0, z1, ())))
noncomputable def sg_i_solved {R : Type} (K : Nat) (k : Nat) : List (Nat × SegS R) := [(4, mkSeg lv_i_solved_J4 lv_i_solved_N4 (gi_solved_j4 K k))]
noncomputable def su_i_solved : List (Nat × Unit) := [(4, ())]
noncomputable def en_i_solved {R : Type} (K : Nat) (k : Nat) : Env R := { L := lk [], X := lk [], S := lk (sg_i_solved K k), rv := rv_i_solved }
noncomputable def cf_i_solved (K : Nat) : Cfg := { ty := lk tys, fn := lk [(7, sp_i_SolutionsOf (i_SolutionsOf K))], fs := lk [], prot := 0, nt := Tryz.f72.ntmps }
noncomputable def c_i_solved_J4 : Code := nthC (partsOf (hasK su_i_solved) (bodyOf Tryz.f72)) 0
theorem ei_solved_j4 {R : Type} (K : Nat) (k : Nat) (x : den lv_i_solved_J4.ty) (kn : den lv_i_solved_N4.ty → Option R) (kx : Nat → St → Option R) (kr : St → Option R) : gi_solved_j4 K k x kn kx kr = evC (cf_i_solved K) (en_i_solved K k) c_i_solved_J4 (mkSt lv_i_solved_J4 x) (cutK lv_i_solved_N4 kn) kx kr := by kernel_rfl
theorem si_solved_j4 {R : Type} (K : Nat) (C : Cx) (hP : C.P = Tryz.prog) (O : CfgOk C (cf_i_solved K)) (k : Nat) : SgS C (R := R) (mkSeg lv_i_solved_J4 lv_i_solved_N4 (gi_solved_j4 K k)) c_i_solved_J4 :=
  seg_sound O (by rw [hP]; kernel_rfl) (ei_solved_j4 K k) (lpOk_of (en := en_i_solved K k) (S := hasK su_i_solved) (fun i => hasK_lk (sg_i_solved K k) i) _ (by rw [show partsOf (hasK su_i_solved) c_i_solved_J4 = [] from by kernel_rfl]; exact trivial))
theorem e_i_solved (K : Nat) (x : den as_i_solved) : i_solved K x = evFn (cf_i_solved K) as_i_solved [false] (.tup (.pair (.sl (.int .i64)) (.pair (.int .i64) .unit))) (en_i_solved K K) Tryz.f72.results.toList (bodyOf Tryz.f72) x := by kernel_rfl
theorem ok_i_solved (K : Nat) : FnOk Tryz.prog 72 (sp_i_solved (i_solved K)) :=
  fn_ok (cf := cf_i_solved K) (en := en_i_solved K K) (c := bodyOf Tryz.f72) Tryz.func72 (by kernel_rfl) (by kernel_rfl) tysOk (fns_ok (l := [(7, sp_i_SolutionsOf (i_SolutionsOf K))]) ⟨ok_i_SolutionsOf K, trivial⟩) (shs_ok (l := []) trivial) (by kernel_rfl) rfl (Nat.le_of_ble_eq_true (by kernel_rfl)) (by kernel_rfl) (of_decide_eq_true (by kernel_rfl)) (by decide) (fun C hP O => lpOk_of (en := en_i_solved K K) (S := hasK su_i_solved) (fun i => hasK_lk (sg_i_solved K K) i) _ (by rw [show partsOf (hasK su_i_solved) (bodyOf Tryz.f72) = [(false, c_i_solved_J4)] from by kernel_rfl]; exact (lpL_seg (f := mkSeg lv_i_solved_J4 lv_i_solved_N4 (gi_solved_j4 K K)) (by kernel_rfl) (si_solved_j4 K C hP O K) trivial))) (fun x y h => by rw [← e_i_solved]; exact h)
noncomputable def as_math_bits_OnesCount64 : Ty := (.pair (.int .u64) .unit)
noncomputable def sp_math_bits_OnesCount64 (F : (Int × Unit) → Option Int) : FnSpec := ⟨as_math_bits_OnesCount64, [false], (.int .i64), F⟩
noncomputable def math_bits_OnesCount64 (K : Nat) (x : (Int × Unit)) : Option Int :=
    let x1 := (bitI .and .u64 (shrI .u64 x.1 (1 : Int)) (6148914691236517205 : Int))
    let x2 := (IntKind.u64.wrap (x1 + (bitI .and .u64 x.1 (6148914691236517205 : Int))))
    let x3 := (bitI .and .u64 (shrI .u64 x2 (2 : Int)) (3689348814741910323 : Int))
    let x4 := (IntKind.u64.wrap (x3 + (bitI .and .u64 x2 (3689348814741910323 : Int))))
    let x5 := (bitI .and .u64 (IntKind.u64.wrap ((shrI .u64 x4 (4 : Int)) + x4)) (1085102592571150095 : Int))
    let x6 := (shrI .u64 (IntKind.u64.wrap (x5 + (shrI .u64 x5 (8 : Int)))) (16 : Int))
    let x7 := (IntKind.u64.wrap ((IntKind.u64.wrap (x5 + (shrI .u64 x5 (8 : Int)))) + x6))
    let x8 := (IntKind.i64.wrap (IntKind.u64.wrap (x7 + (shrI .u64 x7 (32 : Int)))))
    some (bitI .and .i64 x8 (127 : Int))
noncomputable def rv_math_bits_OnesCount64 : Lv := [(2, (.v (.int .i64)))]
noncomputable def sg_math_bits_OnesCount64 {R : Type} (K : Nat) (k : Nat) : List (Nat × SegS R) := []
noncomputable def su_math_bits_OnesCount64 : List (Nat × Unit) := []
noncomputable def en_math_bits_OnesCount64 {R : Type} (K : Nat) (k : Nat) : Env R := { L := lk [], X := lk [], S := lk (sg_math_bits_OnesCount64 K k), rv := rv_math_bits_OnesCount64 }
noncomputable def cf_math_bits_OnesCount64 (K : Nat) : Cfg := { ty := lk tys, fn := lk [], fs := lk [], prot := 0, nt := Tryz.f132.ntmps }
theorem e_math_bits_OnesCount64 (K : Nat) (x : den as_math_bits_OnesCount64) : math_bits_OnesCount64 K x = evFn (cf_math_bits_OnesCount64 K) as_math_bits_OnesCount64 [false] (.int .i64) (en_math_bits_OnesCount64 K K) Tryz.f132.results.toList (bodyOf Tryz.f132) x := by kernel_rfl
theorem ok_math_bits_OnesCount64 (K : Nat) : FnOk Tryz.prog 132 (sp_math_bits_OnesCount64 (math_bits_OnesCount64 K)) :=
  fn_ok (cf := cf_math_bits_OnesCount64 K) (en := en_math_bits_OnesCount64 K K) (c := bodyOf Tryz.f132) Tryz.func132 (by kernel_rfl) (by kernel_rfl) tysOk (fns_ok (l := []) trivial) (shs_ok (l := []) trivial) (by kernel_rfl) rfl (Nat.le_of_ble_eq_true (by kernel_rfl)) (by kernel_rfl) (of_decide_eq_true (by kernel_rfl)) (by decide) (fun C hP O => lpOk_of (en := en_math_bits_OnesCount64 K K) (S := hasK su_math_bits_OnesCount64) (fun i => hasK_lk (sg_math_bits_OnesCount64 K K) i) _ (by rw [show partsOf (hasK su_math_bits_OnesCount64) (bodyOf Tryz.f132) = [] from by kernel_rfl]; exact trivial)) (fun x y h => by rw [← e_math_bits_OnesCount64]; exact h)
noncomputable def as_i_ones : Ty := (.pair (.int .i64) .unit)
noncomputable def sp_i_ones (F : (Int × Unit) → Option Int) : FnSpec := ⟨as_i_ones, [false], (.int .i64), F⟩
noncomputable def i_ones (K : Nat) (x : (Int × Unit)) : Option Int :=
    (math_bits_OnesCount64 K ((IntKind.u64.wrap x.1), ())).bind fun y1 =>
    some y1
noncomputable def rv_i_ones : Lv := [(2, (.v (.int .i64)))]
noncomputable def sg_i_ones {R : Type} (K : Nat) (k : Nat) : List (Nat × SegS R) := []
noncomputable def su_i_ones : List (Nat × Unit) := []
noncomputable def en_i_ones {R : Type} (K : Nat) (k : Nat) : Env R := { L := lk [], X := lk [], S := lk (sg_i_ones K k), rv := rv_i_ones }
noncomputable def cf_i_ones (K : Nat) : Cfg := { ty := lk tys, fn := lk [(132, sp_math_bits_OnesCount64 (math_bits_OnesCount64 K))], fs := lk [], prot := 0, nt := Tryz.f74.ntmps }
theorem e_i_ones (K : Nat) (x : den as_i_ones) : i_ones K x = evFn (cf_i_ones K) as_i_ones [false] (.int .i64) (en_i_ones K K) Tryz.f74.results.toList (bodyOf Tryz.f74) x := by kernel_rfl
theorem ok_i_ones (K : Nat) : FnOk Tryz.prog 74 (sp_i_ones (i_ones K)) :=
  fn_ok (cf := cf_i_ones K) (en := en_i_ones K K) (c := bodyOf Tryz.f74) Tryz.func74 (by kernel_rfl) (by kernel_rfl) tysOk (fns_ok (l := [(132, sp_math_bits_OnesCount64 (math_bits_OnesCount64 K))]) ⟨ok_math_bits_OnesCount64 K, trivial⟩) (shs_ok (l := []) trivial) (by kernel_rfl) rfl (Nat.le_of_ble_eq_true (by kernel_rfl)) (by kernel_rfl) (of_decide_eq_true (by kernel_rfl)) (by decide) (fun C hP O => lpOk_of (en := en_i_ones K K) (S := hasK su_i_ones) (fun i => hasK_lk (sg_i_ones K K) i) _ (by rw [show partsOf (hasK su_i_ones) (bodyOf Tryz.f74) = [] from by kernel_rfl]; exact trivial)) (fun x y h => by rw [← e_i_ones]; exact h)
noncomputable def as_i_LeastSolution : Ty := (.pair (.st (.pair (.int .i64) (.pair (.sl (.st (.pair (.st (.pair (.int .i64) (.pair (.int .i64) .unit))) (.pair (.sl (.int .i64)) .unit)))) .unit))) .unit)
noncomputable def sp_i_LeastSolution (F : ((Int × (List ((Int × Int × Unit) × (List Int) × Unit)) × Unit) × Unit) → Option (Int × Int × Unit)) : FnSpec := ⟨as_i_LeastSolution, [false], (.tup (.pair (.int .i64) (.pair (.int .i64) .unit))), F⟩
noncomputable def i_LeastSolution_l6 {R : Type} (K : Nat) : Nat → Int → (List Int) → Int → Int → (Int → Option R) → Option R
  | 0, _, _, _, _, _ => none
  | k + 1, v6, v20, v21, v22, kx0 =>
    (if (decide (v22 < v21)) = true then
    (if (bnds v22 (v20.length : Int)) = true then
    (i_ones K ((v20.getD v22.toNat (0 : Int)), ())).bind fun y2 =>
    (i_ones K (v6, ())).bind fun y3 =>
    (if (decide (y2 < y3)) = true then
    i_LeastSolution_l6 K k (v20.getD v22.toNat (0 : Int)) v20 v21 (IntKind.i64.wrap (v22 + (1 : Int))) kx0
    else
    i_LeastSolution_l6 K k v6 v20 v21 (IntKind.i64.wrap (v22 + (1 : Int))) kx0)
    else
    none)
    else
    kx0 v6)
noncomputable def i_LeastSolution (K : Nat) (x : ((Int × (List ((Int × Int × Unit) × (List Int) × Unit)) × Unit) × Unit)) : Option (Int × Int × Unit) :=
    (i_solved K (x.1, ())).bind fun y1 =>
    (if (!decide (y1.2.1 = (0 : Int))) = true then
    some ((0 : Int), y1.2.1, ())
    else
    (if (bnds (0 : Int) (y1.1.length : Int)) = true then
    i_LeastSolution_l6 K K (y1.1.getD (0 : Int).toNat (0 : Int)) y1.1 (y1.1.length : Int) (0 : Int) (fun z4 =>
    some (z4, (0 : Int), ()))
    else
    none))
noncomputable def lv_i_LeastSolution_L6 : Lv := [(6, (.v (.int .i64))), (20, (.r (.int .i64))), (21, (.v (.int .i64))), (22, (.v (.int .i64)))]
noncomputable def lv_i_LeastSolution_X0 : Lv := [(6, (.v (.int .i64)))]
noncomputable def rv_i_LeastSolution : Lv := [(2, (.v (.int .i64))), (3, (.v (.int .i64)))]
noncomputable def gi_LeastSolution_l6 {R : Type} (K : Nat) (k : Nat) (x : den lv_i_LeastSolution_L6.ty) (kx : Nat → St → Option R) (kr : St → Option R) : Option R := i_LeastSolution_l6 K k x.1 x.2.1 x.2.2.1 x.2.2.2.1 (fun z0 => kx 0 (mkSt lv_i_LeastSolution_X0 (z0, ())))
noncomputable def sg_i_LeastSolution {R : Type} (K : Nat) (k : Nat) : List (Nat × SegS R) := []
noncomputable def su_i_LeastSolution : List (Nat × Unit) := []
noncomputable def en_i_LeastSolution {R : Type} (K : Nat) (k : Nat) : Env R := { L := lk [(6, mkLoop lv_i_LeastSolution_L6 (gi_LeastSolution_l6 K k))], X := lk [(0, lv_i_LeastSolution_X0)], S := lk (sg_i_LeastSolution K k), rv := rv_i_LeastSolution }
noncomputable def cf_i_LeastSolution (K : Nat) : Cfg := { ty := lk tys, fn := lk [(72, sp_i_solved (i_solved K)), (74, sp_i_ones (i_ones K))], fs := lk [], prot := 0, nt := Tryz.f16.ntmps }
noncomputable def c_i_LeastSolution_L6 : Code := nthC (partsOf (hasK su_i_LeastSolution) (bodyOf Tryz.f16)) 0
theorem ei_LeastSolution_l6 {R : Type} (K : Nat) (k : Nat) (x : den lv_i_LeastSolution_L6.ty) (kx : Nat → St → Option R) (kr : St → Option R) : gi_LeastSolution_l6 K (k + 1) x kx kr = evC (cf_i_LeastSolution K) (en_i_LeastSolution K k) c_i_LeastSolution_L6 (mkSt lv_i_LeastSolution_L6 x) (fun s => mkLoop lv_i_LeastSolution_L6 (gi_LeastSolution_l6 K k) s kx kr) kx kr := by kernel_rfl
theorem si_LeastSolution_l6 {R : Type} (K : Nat) (C : Cx) (hP : C.P = Tryz.prog) (O : CfgOk C (cf_i_LeastSolution K)) (k : Nat) : LpS C (R := R) (mkLoop lv_i_LeastSolution_L6 (gi_LeastSolution_l6 K k)) c_i_LeastSolution_L6 :=
  loop_sound O (by rw [hP]; kernel_rfl) (fun x kx kr => rfl) (ei_LeastSolution_l6 K) (fun k => lpOk_of (en := en_i_LeastSolution K k) (S := hasK su_i_LeastSolution) (fun i => hasK_lk (sg_i_LeastSolution K k) i) _ (by rw [show partsOf (hasK su_i_LeastSolution) c_i_LeastSolution_L6 = [] from by kernel_rfl]; exact trivial)) k
theorem e_i_LeastSolution (K : Nat) (x : den as_i_LeastSolution) : i_LeastSolution K x = evFn (cf_i_LeastSolution K) as_i_LeastSolution [false] (.tup (.pair (.int .i64) (.pair (.int .i64) .unit))) (en_i_LeastSolution K K) Tryz.f16.results.toList (bodyOf Tryz.f16) x := by kernel_rfl
theorem ok_i_LeastSolution (K : Nat) : FnOk Tryz.prog 16 (sp_i_LeastSolution (i_LeastSolution K)) :=
  fn_ok (cf := cf_i_LeastSolution K) (en := en_i_LeastSolution K K) (c := bodyOf Tryz.f16) Tryz.func16 (by kernel_rfl) (by kernel_rfl) tysOk (fns_ok (l := [(72, sp_i_solved (i_solved K)), (74, sp_i_ones (i_ones K))]) ⟨ok_i_solved K, ⟨ok_i_ones K, trivial⟩⟩) (shs_ok (l := []) trivial) (by kernel_rfl) rfl (Nat.le_of_ble_eq_true (by kernel_rfl)) (by kernel_rfl) (of_decide_eq_true (by kernel_rfl)) (by decide) (fun C hP O => lpOk_of (en := en_i_LeastSolution K K) (S := hasK su_i_LeastSolution) (fun i => hasK_lk (sg_i_LeastSolution K K) i) _ (by rw [show partsOf (hasK su_i_LeastSolution) (bodyOf Tryz.f16) = [(true, c_i_LeastSolution_L6)] from by kernel_rfl]; exact (lpL_loop (f := mkLoop lv_i_LeastSolution_L6 (gi_LeastSolution_l6 K K)) (by kernel_rfl) (si_LeastSolution_l6 K C hP O K) trivial))) (fun x y h => by rw [← e_i_LeastSolution]; exact h)
noncomputable def as_i_meetOf : Ty := (.pair (.sl (.int .i64)) .unit)
noncomputable def sp_i_meetOf (F : ((List Int) × Unit) → Option Int) : FnSpec := ⟨as_i_meetOf, [false], (.int .i64), F⟩
noncomputable def i_meetOf_l3 {R : Type} (K : Nat) : Nat → Int → (List Int) → Int → Int → (Int → Option R) → Option R
  | 0, _, _, _, _, _ => none
  | k + 1, v3, v9, v10, v11, kx0 =>
    (if (decide (v11 < v10)) = true then
    (if (bnds v11 (v9.length : Int)) = true then
    i_meetOf_l3 K k (bitI .and .i64 v3 (v9.getD v11.toNat (0 : Int))) v9 v10 (IntKind.i64.wrap (v11 + (1 : Int))) kx0
    else
    none)
    else
    kx0 v3)
noncomputable def i_meetOf (K : Nat) (x : ((List Int) × Unit)) : Option Int :=
    (if (bnds (0 : Int) (x.1.length : Int)) = true then
    i_meetOf_l3 K K (x.1.getD (0 : Int).toNat (0 : Int)) x.1 (x.1.length : Int) (0 : Int) (fun z1 =>
    some z1)
    else
    none)
noncomputable def lv_i_meetOf_L3 : Lv := [(3, (.v (.int .i64))), (9, (.v (.sl (.int .i64)))), (10, (.v (.int .i64))), (11, (.v (.int .i64)))]
noncomputable def lv_i_meetOf_X0 : Lv := [(3, (.v (.int .i64)))]
noncomputable def rv_i_meetOf : Lv := [(2, (.v (.int .i64)))]
noncomputable def gi_meetOf_l3 {R : Type} (K : Nat) (k : Nat) (x : den lv_i_meetOf_L3.ty) (kx : Nat → St → Option R) (kr : St → Option R) : Option R := i_meetOf_l3 K k x.1 x.2.1 x.2.2.1 x.2.2.2.1 (fun z0 => kx 0 (mkSt lv_i_meetOf_X0 (z0, ())))
noncomputable def sg_i_meetOf {R : Type} (K : Nat) (k : Nat) : List (Nat × SegS R) := []
noncomputable def su_i_meetOf : List (Nat × Unit) := []
noncomputable def en_i_meetOf {R : Type} (K : Nat) (k : Nat) : Env R := { L := lk [(3, mkLoop lv_i_meetOf_L3 (gi_meetOf_l3 K k))], X := lk [(0, lv_i_meetOf_X0)], S := lk (sg_i_meetOf K k), rv := rv_i_meetOf }
noncomputable def cf_i_meetOf (K : Nat) : Cfg := { ty := lk tys, fn := lk [], fs := lk [], prot := 0, nt := Tryz.f73.ntmps }
noncomputable def c_i_meetOf_L3 : Code := nthC (partsOf (hasK su_i_meetOf) (bodyOf Tryz.f73)) 0
theorem ei_meetOf_l3 {R : Type} (K : Nat) (k : Nat) (x : den lv_i_meetOf_L3.ty) (kx : Nat → St → Option R) (kr : St → Option R) : gi_meetOf_l3 K (k + 1) x kx kr = evC (cf_i_meetOf K) (en_i_meetOf K k) c_i_meetOf_L3 (mkSt lv_i_meetOf_L3 x) (fun s => mkLoop lv_i_meetOf_L3 (gi_meetOf_l3 K k) s kx kr) kx kr := by kernel_rfl
theorem si_meetOf_l3 {R : Type} (K : Nat) (C : Cx) (hP : C.P = Tryz.prog) (O : CfgOk C (cf_i_meetOf K)) (k : Nat) : LpS C (R := R) (mkLoop lv_i_meetOf_L3 (gi_meetOf_l3 K k)) c_i_meetOf_L3 :=
  loop_sound O (by rw [hP]; kernel_rfl) (fun x kx kr => rfl) (ei_meetOf_l3 K) (fun k => lpOk_of (en := en_i_meetOf K k) (S := hasK su_i_meetOf) (fun i => hasK_lk (sg_i_meetOf K k) i) _ (by rw [show partsOf (hasK su_i_meetOf) c_i_meetOf_L3 = [] from by kernel_rfl]; exact trivial)) k
theorem e_i_meetOf (K : Nat) (x : den as_i_meetOf) : i_meetOf K x = evFn (cf_i_meetOf K) as_i_meetOf [false] (.int .i64) (en_i_meetOf K K) Tryz.f73.results.toList (bodyOf Tryz.f73) x := by kernel_rfl
theorem ok_i_meetOf (K : Nat) : FnOk Tryz.prog 73 (sp_i_meetOf (i_meetOf K)) :=
  fn_ok (cf := cf_i_meetOf K) (en := en_i_meetOf K K) (c := bodyOf Tryz.f73) Tryz.func73 (by kernel_rfl) (by kernel_rfl) tysOk (fns_ok (l := []) trivial) (shs_ok (l := []) trivial) (by kernel_rfl) rfl (Nat.le_of_ble_eq_true (by kernel_rfl)) (by kernel_rfl) (of_decide_eq_true (by kernel_rfl)) (by decide) (fun C hP O => lpOk_of (en := en_i_meetOf K K) (S := hasK su_i_meetOf) (fun i => hasK_lk (sg_i_meetOf K K) i) _ (by rw [show partsOf (hasK su_i_meetOf) (bodyOf Tryz.f73) = [(true, c_i_meetOf_L3)] from by kernel_rfl]; exact (lpL_loop (f := mkLoop lv_i_meetOf_L3 (gi_meetOf_l3 K K)) (by kernel_rfl) (si_meetOf_l3 K C hP O K) trivial))) (fun x y h => by rw [← e_i_meetOf]; exact h)
noncomputable def as_i_MeetOfSolutions : Ty := (.pair (.st (.pair (.int .i64) (.pair (.sl (.st (.pair (.st (.pair (.int .i64) (.pair (.int .i64) .unit))) (.pair (.sl (.int .i64)) .unit)))) .unit))) .unit)
noncomputable def sp_i_MeetOfSolutions (F : ((Int × (List ((Int × Int × Unit) × (List Int) × Unit)) × Unit) × Unit) → Option (Int × Int × Unit)) : FnSpec := ⟨as_i_MeetOfSolutions, [false], (.tup (.pair (.int .i64) (.pair (.int .i64) .unit))), F⟩
noncomputable def i_MeetOfSolutions (K : Nat) (x : ((Int × (List ((Int × Int × Unit) × (List Int) × Unit)) × Unit) × Unit)) : Option (Int × Int × Unit) :=
    (i_solved K (x.1, ())).bind fun y1 =>
    (if (!decide (y1.2.1 = (0 : Int))) = true then
    some ((0 : Int), y1.2.1, ())
    else
    (i_meetOf K (y1.1, ())).bind fun y2 =>
    some (y2, (0 : Int), ()))
noncomputable def rv_i_MeetOfSolutions : Lv := [(2, (.v (.int .i64))), (3, (.v (.int .i64)))]
noncomputable def sg_i_MeetOfSolutions {R : Type} (K : Nat) (k : Nat) : List (Nat × SegS R) := []
noncomputable def su_i_MeetOfSolutions : List (Nat × Unit) := []
noncomputable def en_i_MeetOfSolutions {R : Type} (K : Nat) (k : Nat) : Env R := { L := lk [], X := lk [], S := lk (sg_i_MeetOfSolutions K k), rv := rv_i_MeetOfSolutions }
noncomputable def cf_i_MeetOfSolutions (K : Nat) : Cfg := { ty := lk tys, fn := lk [(72, sp_i_solved (i_solved K)), (73, sp_i_meetOf (i_meetOf K))], fs := lk [], prot := 0, nt := Tryz.f15.ntmps }
theorem e_i_MeetOfSolutions (K : Nat) (x : den as_i_MeetOfSolutions) : i_MeetOfSolutions K x = evFn (cf_i_MeetOfSolutions K) as_i_MeetOfSolutions [false] (.tup (.pair (.int .i64) (.pair (.int .i64) .unit))) (en_i_MeetOfSolutions K K) Tryz.f15.results.toList (bodyOf Tryz.f15) x := by kernel_rfl
theorem ok_i_MeetOfSolutions (K : Nat) : FnOk Tryz.prog 15 (sp_i_MeetOfSolutions (i_MeetOfSolutions K)) :=
  fn_ok (cf := cf_i_MeetOfSolutions K) (en := en_i_MeetOfSolutions K K) (c := bodyOf Tryz.f15) Tryz.func15 (by kernel_rfl) (by kernel_rfl) tysOk (fns_ok (l := [(72, sp_i_solved (i_solved K)), (73, sp_i_meetOf (i_meetOf K))]) ⟨ok_i_solved K, ⟨ok_i_meetOf K, trivial⟩⟩) (shs_ok (l := []) trivial) (by kernel_rfl) rfl (Nat.le_of_ble_eq_true (by kernel_rfl)) (by kernel_rfl) (of_decide_eq_true (by kernel_rfl)) (by decide) (fun C hP O => lpOk_of (en := en_i_MeetOfSolutions K K) (S := hasK su_i_MeetOfSolutions) (fun i => hasK_lk (sg_i_MeetOfSolutions K K) i) _ (by rw [show partsOf (hasK su_i_MeetOfSolutions) (bodyOf Tryz.f15) = [] from by kernel_rfl]; exact trivial)) (fun x y h => by rw [← e_i_MeetOfSolutions]; exact h)
noncomputable def as_s_l01In : Ty := (.pair (.int .i64) (.pair (.int .i64) (.pair (.int .i64) .unit)))
noncomputable def sp_s_l01In (F : (Int × Int × Int × Unit) → Option Bool) : FnSpec := ⟨as_s_l01In, [false, false, false], .bool, F⟩
noncomputable def s_l01In (K : Nat) (x : (Int × Int × Int × Unit)) : Option Bool :=
    (if (decide (x.1 ≥ x.2.1)) = true then
    some (decide (x.1 ≤ x.2.2.1))
    else
    some false)
noncomputable def rv_s_l01In : Lv := [(6, (.v .bool))]
noncomputable def sg_s_l01In {R : Type} (K : Nat) (k : Nat) : List (Nat × SegS R) := []
noncomputable def su_s_l01In : List (Nat × Unit) := []
noncomputable def en_s_l01In {R : Type} (K : Nat) (k : Nat) : Env R := { L := lk [], X := lk [], S := lk (sg_s_l01In K k), rv := rv_s_l01In }
noncomputable def cf_s_l01In (K : Nat) : Cfg := { ty := lk tys, fn := lk [], fs := lk [], prot := 0, nt := Tryz.f93.ntmps }
theorem e_s_l01In (K : Nat) (x : den as_s_l01In) : s_l01In K x = evFn (cf_s_l01In K) as_s_l01In [false, false, false] .bool (en_s_l01In K K) Tryz.f93.results.toList (bodyOf Tryz.f93) x := by kernel_rfl
theorem ok_s_l01In (K : Nat) : FnOk Tryz.prog 93 (sp_s_l01In (s_l01In K)) :=
  fn_ok (cf := cf_s_l01In K) (en := en_s_l01In K K) (c := bodyOf Tryz.f93) Tryz.func93 (by kernel_rfl) (by kernel_rfl) tysOk (fns_ok (l := []) trivial) (shs_ok (l := []) trivial) (by kernel_rfl) rfl (Nat.le_of_ble_eq_true (by kernel_rfl)) (by kernel_rfl) (of_decide_eq_true (by kernel_rfl)) (by decide) (fun C hP O => lpOk_of (en := en_s_l01In K K) (S := hasK su_s_l01In) (fun i => hasK_lk (sg_s_l01In K K) i) _ (by rw [show partsOf (hasK su_s_l01In) (bodyOf Tryz.f93) = [] from by kernel_rfl]; exact trivial)) (fun x y h => by rw [← e_s_l01In]; exact h)
noncomputable def as_s_l01Rows : Ty := (.pair (.int .i64) .unit)
noncomputable def sp_s_l01Rows (F : (Int × Unit) → Option Int) : FnSpec := ⟨as_s_l01Rows, [false], (.int .i64), F⟩
noncomputable def s_l01Rows (K : Nat) (x : (Int × Unit)) : Option Int :=
    (if (decide ((0 : Int) ≤ (IntKind.u64.wrap x.1))) = true then
    some (shlI .i64 (1 : Int) (IntKind.u64.wrap x.1))
    else
    none)
noncomputable def rv_s_l01Rows : Lv := [(2, (.v (.int .i64)))]
noncomputable def sg_s_l01Rows {R : Type} (K : Nat) (k : Nat) : List (Nat × SegS R) := []
noncomputable def su_s_l01Rows : List (Nat × Unit) := []
noncomputable def en_s_l01Rows {R : Type} (K : Nat) (k : Nat) : Env R := { L := lk [], X := lk [], S := lk (sg_s_l01Rows K k), rv := rv_s_l01Rows }
noncomputable def cf_s_l01Rows (K : Nat) : Cfg := { ty := lk tys, fn := lk [], fs := lk [], prot := 0, nt := Tryz.f120.ntmps }
theorem e_s_l01Rows (K : Nat) (x : den as_s_l01Rows) : s_l01Rows K x = evFn (cf_s_l01Rows K) as_s_l01Rows [false] (.int .i64) (en_s_l01Rows K K) Tryz.f120.results.toList (bodyOf Tryz.f120) x := by kernel_rfl
theorem ok_s_l01Rows (K : Nat) : FnOk Tryz.prog 120 (sp_s_l01Rows (s_l01Rows K)) :=
  fn_ok (cf := cf_s_l01Rows K) (en := en_s_l01Rows K K) (c := bodyOf Tryz.f120) Tryz.func120 (by kernel_rfl) (by kernel_rfl) tysOk (fns_ok (l := []) trivial) (shs_ok (l := []) trivial) (by kernel_rfl) rfl (Nat.le_of_ble_eq_true (by kernel_rfl)) (by kernel_rfl) (of_decide_eq_true (by kernel_rfl)) (by decide) (fun C hP O => lpOk_of (en := en_s_l01Rows K K) (S := hasK su_s_l01Rows) (fun i => hasK_lk (sg_s_l01Rows K K) i) _ (by rw [show partsOf (hasK su_s_l01Rows) (bodyOf Tryz.f120) = [] from by kernel_rfl]; exact trivial)) (fun x y h => by rw [← e_s_l01Rows]; exact h)
noncomputable def as_s_l01All : Ty := (.pair (.int .i64) .unit)
noncomputable def sp_s_l01All (F : (Int × Unit) → Option Int) : FnSpec := ⟨as_s_l01All, [false], (.int .i64), F⟩
noncomputable def s_l01All (K : Nat) (x : (Int × Unit)) : Option Int :=
    (s_l01Rows K (x.1, ())).bind fun y1 =>
    (if (decide ((0 : Int) ≤ (IntKind.u64.wrap y1))) = true then
    let x2 := (IntKind.i64.wrap ((shlI .i64 (1 : Int) (IntKind.u64.wrap y1)) - (1 : Int)))
    some x2
    else
    none)
noncomputable def rv_s_l01All : Lv := [(2, (.v (.int .i64)))]
noncomputable def sg_s_l01All {R : Type} (K : Nat) (k : Nat) : List (Nat × SegS R) := []
noncomputable def su_s_l01All : List (Nat × Unit) := []
noncomputable def en_s_l01All {R : Type} (K : Nat) (k : Nat) : Env R := { L := lk [], X := lk [], S := lk (sg_s_l01All K k), rv := rv_s_l01All }
noncomputable def cf_s_l01All (K : Nat) : Cfg := { ty := lk tys, fn := lk [(120, sp_s_l01Rows (s_l01Rows K))], fs := lk [], prot := 0, nt := Tryz.f138.ntmps }
theorem e_s_l01All (K : Nat) (x : den as_s_l01All) : s_l01All K x = evFn (cf_s_l01All K) as_s_l01All [false] (.int .i64) (en_s_l01All K K) Tryz.f138.results.toList (bodyOf Tryz.f138) x := by kernel_rfl
theorem ok_s_l01All (K : Nat) : FnOk Tryz.prog 138 (sp_s_l01All (s_l01All K)) :=
  fn_ok (cf := cf_s_l01All K) (en := en_s_l01All K K) (c := bodyOf Tryz.f138) Tryz.func138 (by kernel_rfl) (by kernel_rfl) tysOk (fns_ok (l := [(120, sp_s_l01Rows (s_l01Rows K))]) ⟨ok_s_l01Rows K, trivial⟩) (shs_ok (l := []) trivial) (by kernel_rfl) rfl (Nat.le_of_ble_eq_true (by kernel_rfl)) (by kernel_rfl) (of_decide_eq_true (by kernel_rfl)) (by decide) (fun C hP O => lpOk_of (en := en_s_l01All K K) (S := hasK su_s_l01All) (fun i => hasK_lk (sg_s_l01All K K) i) _ (by rw [show partsOf (hasK su_s_l01All) (bodyOf Tryz.f138) = [] from by kernel_rfl]; exact trivial)) (fun x y h => by rw [← e_s_l01All]; exact h)
noncomputable def as_s_l06Is : Ty := (.pair (.st (.pair (.int .i64) (.pair (.int .i64) .unit))) .unit)
noncomputable def sp_s_l06Is (F : ((Int × Int × Unit) × Unit) → Option Bool) : FnSpec := ⟨as_s_l06Is, [false], .bool, F⟩
noncomputable def s_l06Is (K : Nat) (x : ((Int × Int × Unit) × Unit)) : Option Bool :=
    (s_l01In K (x.1.1, (1 : Int), (4 : Int), ())).bind fun y1 =>
    (if y1 = true then
    (s_l01All K (x.1.1, ())).bind fun y2 =>
    (s_l01In K (x.1.2.1, (0 : Int), y2, ())).bind fun y3 =>
    some y3
    else
    some false)
noncomputable def rv_s_l06Is : Lv := [(2, (.v .bool))]
noncomputable def sg_s_l06Is {R : Type} (K : Nat) (k : Nat) : List (Nat × SegS R) := []
noncomputable def su_s_l06Is : List (Nat × Unit) := []
noncomputable def en_s_l06Is {R : Type} (K : Nat) (k : Nat) : Env R := { L := lk [], X := lk [], S := lk (sg_s_l06Is K k), rv := rv_s_l06Is }
noncomputable def cf_s_l06Is (K : Nat) : Cfg := { ty := lk tys, fn := lk [(93, sp_s_l01In (s_l01In K)), (138, sp_s_l01All (s_l01All K))], fs := lk [], prot := 0, nt := Tryz.f81.ntmps }
theorem e_s_l06Is (K : Nat) (x : den as_s_l06Is) : s_l06Is K x = evFn (cf_s_l06Is K) as_s_l06Is [false] .bool (en_s_l06Is K K) Tryz.f81.results.toList (bodyOf Tryz.f81) x := by kernel_rfl
theorem ok_s_l06Is (K : Nat) : FnOk Tryz.prog 81 (sp_s_l06Is (s_l06Is K)) :=
  fn_ok (cf := cf_s_l06Is K) (en := en_s_l06Is K K) (c := bodyOf Tryz.f81) Tryz.func81 (by kernel_rfl) (by kernel_rfl) tysOk (fns_ok (l := [(93, sp_s_l01In (s_l01In K)), (138, sp_s_l01All (s_l01All K))]) ⟨ok_s_l01In K, ⟨ok_s_l01All K, trivial⟩⟩) (shs_ok (l := []) trivial) (by kernel_rfl) rfl (Nat.le_of_ble_eq_true (by kernel_rfl)) (by kernel_rfl) (of_decide_eq_true (by kernel_rfl)) (by decide) (fun C hP O => lpOk_of (en := en_s_l06Is K K) (S := hasK su_s_l06Is) (fun i => hasK_lk (sg_s_l06Is K K) i) _ (by rw [show partsOf (hasK su_s_l06Is) (bodyOf Tryz.f81) = [] from by kernel_rfl]; exact trivial)) (fun x y h => by rw [← e_s_l06Is]; exact h)
noncomputable def as_s_l09Is : Ty := (.pair (.st (.pair (.int .i64) (.pair (.sl (.st (.pair (.st (.pair (.int .i64) (.pair (.int .i64) .unit))) (.pair (.sl (.int .i64)) .unit)))) .unit))) .unit)
noncomputable def sp_s_l09Is (F : ((Int × (List ((Int × Int × Unit) × (List Int) × Unit)) × Unit) × Unit) → Option Bool) : FnSpec := ⟨as_s_l09Is, [false], .bool, F⟩
noncomputable def s_l09Is_l10 {R : Type} (K : Nat) : Nat → (Int × (List ((Int × Int × Unit) × (List Int) × Unit)) × Unit) → Int → ((Int × Int × Unit) × (List Int) × Unit) → Int → ((Int × (List ((Int × Int × Unit) × (List Int) × Unit)) × Unit) → Int → Option R) → (Bool → Option R) → Option R
  | 0, _, _, _, _, _, _ => none
  | k + 1, v1, v3, v4, v5, kx2, kr =>
    (if (decide (v5 < (v4.2.1.length : Int))) = true then
    (if (bnds v5 (v4.2.1.length : Int)) = true then
    (s_l01In K ((v4.2.1.getD v5.toNat (0 : Int)), (0 : Int), (IntKind.i64.wrap (v1.1 - (1 : Int))), ())).bind fun y4 =>
    (if (!y4) = true then
    kr false
    else
    s_l09Is_l10 K k v1 v3 v4 (IntKind.i64.wrap (v5 + (1 : Int))) kx2 kr)
    else
    none)
    else
    kx2 v1 v3)
noncomputable def s_l09Is_j9 {R : Type} (K : Nat) (k : Nat) (v1 : (Int × (List ((Int × Int × Unit) × (List Int) × Unit)) × Unit)) (v3 : Int) (v4 : ((Int × Int × Unit) × (List Int) × Unit)) (kn : (Int × (List ((Int × Int × Unit) × (List Int) × Unit)) × Unit) → Int → Option R) (kr : (Bool → Option R)) : Option R :=
    s_l09Is_l10 K k v1 v3 v4 (0 : Int) (fun z5 z6 =>
    kn z5 z6) (fun z7 =>
    kr z7)
noncomputable def s_l09Is_l4 {R : Type} (K : Nat) : Nat → (Int × (List ((Int × Int × Unit) × (List Int) × Unit)) × Unit) → Int → (Option R) → (Bool → Option R) → Option R
  | 0, _, _, _, _ => none
  | k + 1, v1, v3, kx0, kr =>
    (if (decide (v3 < (v1.2.1.length : Int))) = true then
    (if (bnds v3 (v1.2.1.length : Int)) = true then
    let x2 := (v1.2.1.getD v3.toNat (((0 : Int), (0 : Int), ()), ([] : List Int), ()))
    (s_l06Is K (x2.1, ())).bind fun y3 =>
    (if (!y3) = true then
    kr false
    else
    (if (!decide ((x2.2.1.length : Int) = x2.1.1)) = true then
    kr false
    else
    s_l09Is_j9 K k v1 v3 x2 (fun z8 z9 =>
    s_l09Is_l4 K k z8 (IntKind.i64.wrap (z9 + (1 : Int))) kx0 kr) (fun z10 =>
    kr z10)))
    else
    none)
    else
    kx0)
noncomputable def s_l09Is_j3 {R : Type} (K : Nat) (k : Nat) (v1 : (Int × (List ((Int × Int × Unit) × (List Int) × Unit)) × Unit)) (kn : Option R) (kr : (Bool → Option R)) : Option R :=
    s_l09Is_l4 K k v1 (0 : Int) (kr true) (fun z11 =>
    kr z11)
noncomputable def s_l09Is (K : Nat) (x : ((Int × (List ((Int × Int × Unit) × (List Int) × Unit)) × Unit) × Unit)) : Option Bool :=
    (s_l01In K (x.1.1, (0 : Int), (8 : Int), ())).bind fun y1 =>
    (if (!y1) = true then
    some false
    else
    (if (decide ((x.1.2.1.length : Int) > (12 : Int))) = true then
    some false
    else
    s_l09Is_j3 K K x.1 none (fun z12 =>
    some z12)))
noncomputable def lv_s_l09Is_J3 : Lv := [(1, (.bx (.v (.st (.pair (.int .i64) (.pair (.sl (.st (.pair (.st (.pair (.int .i64) (.pair (.int .i64) .unit))) (.pair (.sl (.int .i64)) .unit)))) .unit))))))]
noncomputable def lv_s_l09Is_J9 : Lv := [(1, (.bx (.v (.st (.pair (.int .i64) (.pair (.sl (.st (.pair (.st (.pair (.int .i64) (.pair (.int .i64) .unit))) (.pair (.sl (.int .i64)) .unit)))) .unit)))))), (3, (.v (.int .i64))), (4, (.bx (.v (.st (.pair (.st (.pair (.int .i64) (.pair (.int .i64) .unit))) (.pair (.sl (.int .i64)) .unit))))))]
noncomputable def lv_s_l09Is_L4 : Lv := [(1, (.bx (.v (.st (.pair (.int .i64) (.pair (.sl (.st (.pair (.st (.pair (.int .i64) (.pair (.int .i64) .unit))) (.pair (.sl (.int .i64)) .unit)))) .unit)))))), (3, (.v (.int .i64)))]
noncomputable def lv_s_l09Is_L10 : Lv := [(1, (.bx (.v (.st (.pair (.int .i64) (.pair (.sl (.st (.pair (.st (.pair (.int .i64) (.pair (.int .i64) .unit))) (.pair (.sl (.int .i64)) .unit)))) .unit)))))), (3, (.v (.int .i64))), (4, (.bx (.v (.st (.pair (.st (.pair (.int .i64) (.pair (.int .i64) .unit))) (.pair (.sl (.int .i64)) .unit)))))), (5, (.v (.int .i64)))]
noncomputable def lv_s_l09Is_N3 : Lv := []
noncomputable def lv_s_l09Is_N9 : Lv := [(1, (.bx (.v (.st (.pair (.int .i64) (.pair (.sl (.st (.pair (.st (.pair (.int .i64) (.pair (.int .i64) .unit))) (.pair (.sl (.int .i64)) .unit)))) .unit)))))), (3, (.v (.int .i64)))]
noncomputable def lv_s_l09Is_X0 : Lv := []
noncomputable def lv_s_l09Is_X2 : Lv := [(1, (.bx (.v (.st (.pair (.int .i64) (.pair (.sl (.st (.pair (.st (.pair (.int .i64) (.pair (.int .i64) .unit))) (.pair (.sl (.int .i64)) .unit)))) .unit)))))), (3, (.v (.int .i64)))]
noncomputable def rv_s_l09Is : Lv := [(2, (.v .bool))]
noncomputable def gs_l09Is_l10 {R : Type} (K : Nat) (k : Nat) (x : den lv_s_l09Is_L10.ty) (kx : Nat → St → Option R) (kr : St → Option R) : Option R := s_l09Is_l10 K k x.1 x.2.1 x.2.2.1 x.2.2.2.1 (fun z0 z1 => kx 2 (mkSt lv_s_l09Is_X2 (z0, z1, ()))) (fun z0 => kr (mkSt rv_s_l09Is (z0, ())))
noncomputable def gs_l09Is_j9 {R : Type} (K : Nat) (k : Nat) (x : den lv_s_l09Is_J9.ty) (kn : den lv_s_l09Is_N9.ty → Option R) (kx : Nat → St → Option R) (kr : St → Option R) : Option R := s_l09Is_j9 K k x.1 x.2.1 x.2.2.1 (fun z0 z1 => kn (z0, z1, ())) (fun z0 => kr (mkSt rv_s_l09Is (z0, ())))
noncomputable def gs_l09Is_l4 {R : Type} (K : Nat) (k : Nat) (x : den lv_s_l09Is_L4.ty) (kx : Nat → St → Option R) (kr : St → Option R) : Option R := s_l09Is_l4 K k x.1 x.2.1 (kx 0 (mkSt lv_s_l09Is_X0 ())) (fun z0 => kr (mkSt rv_s_l09Is (z0, ())))
noncomputable def gs_l09Is_j3 {R : Type} (K : Nat) (k : Nat) (x : den lv_s_l09Is_J3.ty) (kn : den lv_s_l09Is_N3.ty → Option R) (kx : Nat → St → Option R) (kr : St → Option R) : Option R := s_l09Is_j3 K k x.1 (kn ()) (fun z0 => kr (mkSt rv_s_l09Is (z0, ())))
noncomputable def sg_s_l09Is {R : Type} (K : Nat) (k : Nat) : List (Nat × SegS R) := [(9, mkSeg lv_s_l09Is_J9 lv_s_l09Is_N9 (gs_l09Is_j9 K k)), (3, mkSeg lv_s_l09Is_J3 lv_s_l09Is_N3 (gs_l09Is_j3 K k))]
noncomputable def su_s_l09Is : List (Nat × Unit) := [(9, ()), (3, ())]
noncomputable def en_s_l09Is {R : Type} (K : Nat) (k : Nat) : Env R := { L := lk [(10, mkLoop lv_s_l09Is_L10 (gs_l09Is_l10 K k)), (4, mkLoop lv_s_l09Is_L4 (gs_l09Is_l4 K k))], X := lk [(0, lv_s_l09Is_X0), (2, lv_s_l09Is_X2)], S := lk (sg_s_l09Is K k), rv := rv_s_l09Is }
noncomputable def cf_s_l09Is (K : Nat) : Cfg := { ty := lk tys, fn := lk [(81, sp_s_l06Is (s_l06Is K)), (93, sp_s_l01In (s_l01In K))], fs := lk [], prot := 0, nt := Tryz.f58.ntmps }
noncomputable def c_s_l09Is_J3 : Code := nthC (partsOf (hasK su_s_l09Is) (bodyOf Tryz.f58)) 0
noncomputable def c_s_l09Is_L4 : Code := nthC (partsOf (hasK su_s_l09Is) c_s_l09Is_J3) 0
noncomputable def c_s_l09Is_J9 : Code := nthC (partsOf (hasK su_s_l09Is) c_s_l09Is_L4) 0
noncomputable def c_s_l09Is_L10 : Code := nthC (partsOf (hasK su_s_l09Is) c_s_l09Is_J9) 0
theorem es_l09Is_l10 {R : Type} (K : Nat) (k : Nat) (x : den lv_s_l09Is_L10.ty) (kx : Nat → St → Option R) (kr : St → Option R) : gs_l09Is_l10 K (k + 1) x kx kr = evC (cf_s_l09Is K) (en_s_l09Is K k) c_s_l09Is_L10 (mkSt lv_s_l09Is_L10 x) (fun s => mkLoop lv_s_l09Is_L10 (gs_l09Is_l10 K k) s kx kr) kx kr := by kernel_rfl
theorem ss_l09Is_l10 {R : Type} (K : Nat) (C : Cx) (hP : C.P = Tryz.prog) (O : CfgOk C (cf_s_l09Is K)) (k : Nat) : LpS C (R := R) (mkLoop lv_s_l09Is_L10 (gs_l09Is_l10 K k)) c_s_l09Is_L10 :=
  loop_sound O (by rw [hP]; kernel_rfl) (fun x kx kr => rfl) (es_l09Is_l10 K) (fun k => lpOk_of (en := en_s_l09Is K k) (S := hasK su_s_l09Is) (fun i => hasK_lk (sg_s_l09Is K k) i) _ (by rw [show partsOf (hasK su_s_l09Is) c_s_l09Is_L10 = [] from by kernel_rfl]; exact trivial)) k
theorem es_l09Is_j9 {R : Type} (K : Nat) (k : Nat) (x : den lv_s_l09Is_J9.ty) (kn : den lv_s_l09Is_N9.ty → Option R) (kx : Nat → St → Option R) (kr : St → Option R) : gs_l09Is_j9 K k x kn kx kr = evC (cf_s_l09Is K) (en_s_l09Is K k) c_s_l09Is_J9 (mkSt lv_s_l09Is_J9 x) (cutK lv_s_l09Is_N9 kn) kx kr := by kernel_rfl
theorem ss_l09Is_j9 {R : Type} (K : Nat) (C : Cx) (hP : C.P = Tryz.prog) (O : CfgOk C (cf_s_l09Is K)) (k : Nat) : SgS C (R := R) (mkSeg lv_s_l09Is_J9 lv_s_l09Is_N9 (gs_l09Is_j9 K k)) c_s_l09Is_J9 :=
  seg_sound O (by rw [hP]; kernel_rfl) (es_l09Is_j9 K k) (lpOk_of (en := en_s_l09Is K k) (S := hasK su_s_l09Is) (fun i => hasK_lk (sg_s_l09Is K k) i) _ (by rw [show partsOf (hasK su_s_l09Is) c_s_l09Is_J9 = [(true, c_s_l09Is_L10)] from by kernel_rfl]; exact (lpL_loop (f := mkLoop lv_s_l09Is_L10 (gs_l09Is_l10 K k)) (by kernel_rfl) (ss_l09Is_l10 K C hP O k) trivial)))
theorem es_l09Is_l4 {R : Type} (K : Nat) (k : Nat) (x : den lv_s_l09Is_L4.ty) (kx : Nat → St → Option R) (kr : St → Option R) : gs_l09Is_l4 K (k + 1) x kx kr = evC (cf_s_l09Is K) (en_s_l09Is K k) c_s_l09Is_L4 (mkSt lv_s_l09Is_L4 x) (fun s => mkLoop lv_s_l09Is_L4 (gs_l09Is_l4 K k) s kx kr) kx kr := by kernel_rfl
theorem ss_l09Is_l4 {R : Type} (K : Nat) (C : Cx) (hP : C.P = Tryz.prog) (O : CfgOk C (cf_s_l09Is K)) (k : Nat) : LpS C (R := R) (mkLoop lv_s_l09Is_L4 (gs_l09Is_l4 K k)) c_s_l09Is_L4 :=
  loop_sound O (by rw [hP]; kernel_rfl) (fun x kx kr => rfl) (es_l09Is_l4 K) (fun k => lpOk_of (en := en_s_l09Is K k) (S := hasK su_s_l09Is) (fun i => hasK_lk (sg_s_l09Is K k) i) _ (by rw [show partsOf (hasK su_s_l09Is) c_s_l09Is_L4 = [(false, c_s_l09Is_J9)] from by kernel_rfl]; exact (lpL_seg (f := mkSeg lv_s_l09Is_J9 lv_s_l09Is_N9 (gs_l09Is_j9 K k)) (by kernel_rfl) (ss_l09Is_j9 K C hP O k) trivial))) k
theorem es_l09Is_j3 {R : Type} (K : Nat) (k : Nat) (x : den lv_s_l09Is_J3.ty) (kn : den lv_s_l09Is_N3.ty → Option R) (kx : Nat → St → Option R) (kr : St → Option R) : gs_l09Is_j3 K k x kn kx kr = evC (cf_s_l09Is K) (en_s_l09Is K k) c_s_l09Is_J3 (mkSt lv_s_l09Is_J3 x) (cutK lv_s_l09Is_N3 kn) kx kr := by kernel_rfl
theorem ss_l09Is_j3 {R : Type} (K : Nat) (C : Cx) (hP : C.P = Tryz.prog) (O : CfgOk C (cf_s_l09Is K)) (k : Nat) : SgS C (R := R) (mkSeg lv_s_l09Is_J3 lv_s_l09Is_N3 (gs_l09Is_j3 K k)) c_s_l09Is_J3 :=
  seg_sound O (by rw [hP]; kernel_rfl) (es_l09Is_j3 K k) (lpOk_of (en := en_s_l09Is K k) (S := hasK su_s_l09Is) (fun i => hasK_lk (sg_s_l09Is K k) i) _ (by rw [show partsOf (hasK su_s_l09Is) c_s_l09Is_J3 = [(true, c_s_l09Is_L4)] from by kernel_rfl]; exact (lpL_loop (f := mkLoop lv_s_l09Is_L4 (gs_l09Is_l4 K k)) (by kernel_rfl) (ss_l09Is_l4 K C hP O k) trivial)))
theorem e_s_l09Is (K : Nat) (x : den as_s_l09Is) : s_l09Is K x = evFn (cf_s_l09Is K) as_s_l09Is [false] .bool (en_s_l09Is K K) Tryz.f58.results.toList (bodyOf Tryz.f58) x := by kernel_rfl
theorem ok_s_l09Is (K : Nat) : FnOk Tryz.prog 58 (sp_s_l09Is (s_l09Is K)) :=
  fn_ok (cf := cf_s_l09Is K) (en := en_s_l09Is K K) (c := bodyOf Tryz.f58) Tryz.func58 (by kernel_rfl) (by kernel_rfl) tysOk (fns_ok (l := [(81, sp_s_l06Is (s_l06Is K)), (93, sp_s_l01In (s_l01In K))]) ⟨ok_s_l06Is K, ⟨ok_s_l01In K, trivial⟩⟩) (shs_ok (l := []) trivial) (by kernel_rfl) rfl (Nat.le_of_ble_eq_true (by kernel_rfl)) (by kernel_rfl) (of_decide_eq_true (by kernel_rfl)) (by decide) (fun C hP O => lpOk_of (en := en_s_l09Is K K) (S := hasK su_s_l09Is) (fun i => hasK_lk (sg_s_l09Is K K) i) _ (by rw [show partsOf (hasK su_s_l09Is) (bodyOf Tryz.f58) = [(false, c_s_l09Is_J3)] from by kernel_rfl]; exact (lpL_seg (f := mkSeg lv_s_l09Is_J3 lv_s_l09Is_N3 (gs_l09Is_j3 K K)) (by kernel_rfl) (ss_l09Is_j3 K C hP O K) trivial))) (fun x y h => by rw [← e_s_l09Is]; exact h)
noncomputable def as_s_l09Has : Ty := (.pair (.st (.pair (.int .i64) (.pair (.int .i64) .unit))) (.pair (.int .i64) .unit))
noncomputable def sp_s_l09Has (F : ((Int × Int × Unit) × Int × Unit) → Option Bool) : FnSpec := ⟨as_s_l09Has, [false, false], .bool, F⟩
noncomputable def s_l09Has (K : Nat) (x : ((Int × Int × Unit) × Int × Unit)) : Option Bool :=
    (if (decide ((0 : Int) ≤ (IntKind.u64.wrap x.2.1))) = true then
    let x1 := (bitI .and .i64 (shrI .i64 x.1.2.1 (IntKind.u64.wrap x.2.1)) (1 : Int))
    some (decide (x1 = (1 : Int)))
    else
    none)
noncomputable def rv_s_l09Has : Lv := [(4, (.v .bool))]
noncomputable def sg_s_l09Has {R : Type} (K : Nat) (k : Nat) : List (Nat × SegS R) := []
noncomputable def su_s_l09Has : List (Nat × Unit) := []
noncomputable def en_s_l09Has {R : Type} (K : Nat) (k : Nat) : Env R := { L := lk [], X := lk [], S := lk (sg_s_l09Has K k), rv := rv_s_l09Has }
noncomputable def cf_s_l09Has (K : Nat) : Cfg := { ty := lk tys, fn := lk [], fs := lk [], prot := 0, nt := Tryz.f134.ntmps }
theorem e_s_l09Has (K : Nat) (x : den as_s_l09Has) : s_l09Has K x = evFn (cf_s_l09Has K) as_s_l09Has [false, false] .bool (en_s_l09Has K K) Tryz.f134.results.toList (bodyOf Tryz.f134) x := by kernel_rfl
theorem ok_s_l09Has (K : Nat) : FnOk Tryz.prog 134 (sp_s_l09Has (s_l09Has K)) :=
  fn_ok (cf := cf_s_l09Has K) (en := en_s_l09Has K K) (c := bodyOf Tryz.f134) Tryz.func134 (by kernel_rfl) (by kernel_rfl) tysOk (fns_ok (l := []) trivial) (shs_ok (l := []) trivial) (by kernel_rfl) rfl (Nat.le_of_ble_eq_true (by kernel_rfl)) (by kernel_rfl) (of_decide_eq_true (by kernel_rfl)) (by decide) (fun C hP O => lpOk_of (en := en_s_l09Has K K) (S := hasK su_s_l09Has) (fun i => hasK_lk (sg_s_l09Has K K) i) _ (by rw [show partsOf (hasK su_s_l09Has) (bodyOf Tryz.f134) = [] from by kernel_rfl]; exact trivial)) (fun x y h => by rw [← e_s_l09Has]; exact h)
noncomputable def as_s_l09Tuple : Ty := (.pair (.st (.pair (.st (.pair (.int .i64) (.pair (.int .i64) .unit))) (.pair (.sl (.int .i64)) .unit))) (.pair (.int .i64) .unit))
noncomputable def sp_s_l09Tuple (F : (((Int × Int × Unit) × (List Int) × Unit) × Int × Unit) → Option Int) : FnSpec := ⟨as_s_l09Tuple, [false, false], (.int .i64), F⟩
noncomputable def s_l09Tuple_l3 {R : Type} (K : Nat) : Nat → Int → ((Int × Int × Unit) × (List Int) × Unit) → Int → Int → (Int → Option R) → Option R
  | 0, _, _, _, _, _ => none
  | k + 1, v1, v2, v5, v6, kx0 =>
    (if (decide (v6 < (v2.2.1.length : Int))) = true then
    (if (bnds v6 (v2.2.1.length : Int)) = true then
    (if (decide ((0 : Int) ≤ (IntKind.u64.wrap (v2.2.1.getD v6.toNat (0 : Int))))) = true then
    let x1 := (shrI .i64 v1 (IntKind.u64.wrap (v2.2.1.getD v6.toNat (0 : Int))))
    (if (decide ((0 : Int) ≤ (IntKind.u64.wrap v6))) = true then
    let x2 := (shlI .i64 (bitI .and .i64 x1 (1 : Int)) (IntKind.u64.wrap v6))
    s_l09Tuple_l3 K k v1 v2 (IntKind.i64.wrap (v5 + x2)) (IntKind.i64.wrap (v6 + (1 : Int))) kx0
    else
    none)
    else
    none)
    else
    none)
    else
    kx0 v5)
noncomputable def s_l09Tuple (K : Nat) (x : (((Int × Int × Unit) × (List Int) × Unit) × Int × Unit)) : Option Int :=
    s_l09Tuple_l3 K K x.2.1 x.1 (0 : Int) (0 : Int) (fun z3 =>
    some z3)
noncomputable def lv_s_l09Tuple_L3 : Lv := [(1, (.v (.int .i64))), (2, (.bx (.v (.st (.pair (.st (.pair (.int .i64) (.pair (.int .i64) .unit))) (.pair (.sl (.int .i64)) .unit)))))), (5, (.v (.int .i64))), (6, (.v (.int .i64)))]
noncomputable def lv_s_l09Tuple_X0 : Lv := [(5, (.v (.int .i64)))]
noncomputable def rv_s_l09Tuple : Lv := [(4, (.v (.int .i64)))]
noncomputable def gs_l09Tuple_l3 {R : Type} (K : Nat) (k : Nat) (x : den lv_s_l09Tuple_L3.ty) (kx : Nat → St → Option R) (kr : St → Option R) : Option R := s_l09Tuple_l3 K k x.1 x.2.1 x.2.2.1 x.2.2.2.1 (fun z0 => kx 0 (mkSt lv_s_l09Tuple_X0 (z0, ())))
noncomputable def sg_s_l09Tuple {R : Type} (K : Nat) (k : Nat) : List (Nat × SegS R) := []
noncomputable def su_s_l09Tuple : List (Nat × Unit) := []
noncomputable def en_s_l09Tuple {R : Type} (K : Nat) (k : Nat) : Env R := { L := lk [(3, mkLoop lv_s_l09Tuple_L3 (gs_l09Tuple_l3 K k))], X := lk [(0, lv_s_l09Tuple_X0)], S := lk (sg_s_l09Tuple K k), rv := rv_s_l09Tuple }
noncomputable def cf_s_l09Tuple (K : Nat) : Cfg := { ty := lk tys, fn := lk [], fs := lk [], prot := 0, nt := Tryz.f162.ntmps }
noncomputable def c_s_l09Tuple_L3 : Code := nthC (partsOf (hasK su_s_l09Tuple) (bodyOf Tryz.f162)) 0
theorem es_l09Tuple_l3 {R : Type} (K : Nat) (k : Nat) (x : den lv_s_l09Tuple_L3.ty) (kx : Nat → St → Option R) (kr : St → Option R) : gs_l09Tuple_l3 K (k + 1) x kx kr = evC (cf_s_l09Tuple K) (en_s_l09Tuple K k) c_s_l09Tuple_L3 (mkSt lv_s_l09Tuple_L3 x) (fun s => mkLoop lv_s_l09Tuple_L3 (gs_l09Tuple_l3 K k) s kx kr) kx kr := by kernel_rfl
theorem ss_l09Tuple_l3 {R : Type} (K : Nat) (C : Cx) (hP : C.P = Tryz.prog) (O : CfgOk C (cf_s_l09Tuple K)) (k : Nat) : LpS C (R := R) (mkLoop lv_s_l09Tuple_L3 (gs_l09Tuple_l3 K k)) c_s_l09Tuple_L3 :=
  loop_sound O (by rw [hP]; kernel_rfl) (fun x kx kr => rfl) (es_l09Tuple_l3 K) (fun k => lpOk_of (en := en_s_l09Tuple K k) (S := hasK su_s_l09Tuple) (fun i => hasK_lk (sg_s_l09Tuple K k) i) _ (by rw [show partsOf (hasK su_s_l09Tuple) c_s_l09Tuple_L3 = [] from by kernel_rfl]; exact trivial)) k
theorem e_s_l09Tuple (K : Nat) (x : den as_s_l09Tuple) : s_l09Tuple K x = evFn (cf_s_l09Tuple K) as_s_l09Tuple [false, false] (.int .i64) (en_s_l09Tuple K K) Tryz.f162.results.toList (bodyOf Tryz.f162) x := by kernel_rfl
theorem ok_s_l09Tuple (K : Nat) : FnOk Tryz.prog 162 (sp_s_l09Tuple (s_l09Tuple K)) :=
  fn_ok (cf := cf_s_l09Tuple K) (en := en_s_l09Tuple K K) (c := bodyOf Tryz.f162) Tryz.func162 (by kernel_rfl) (by kernel_rfl) tysOk (fns_ok (l := []) trivial) (shs_ok (l := []) trivial) (by kernel_rfl) rfl (Nat.le_of_ble_eq_true (by kernel_rfl)) (by kernel_rfl) (of_decide_eq_true (by kernel_rfl)) (by decide) (fun C hP O => lpOk_of (en := en_s_l09Tuple K K) (S := hasK su_s_l09Tuple) (fun i => hasK_lk (sg_s_l09Tuple K K) i) _ (by rw [show partsOf (hasK su_s_l09Tuple) (bodyOf Tryz.f162) = [(true, c_s_l09Tuple_L3)] from by kernel_rfl]; exact (lpL_loop (f := mkLoop lv_s_l09Tuple_L3 (gs_l09Tuple_l3 K K)) (by kernel_rfl) (ss_l09Tuple_l3 K C hP O K) trivial))) (fun x y h => by rw [← e_s_l09Tuple]; exact h)
noncomputable def as_s_l09Solves : Ty := (.pair (.st (.pair (.int .i64) (.pair (.sl (.st (.pair (.st (.pair (.int .i64) (.pair (.int .i64) .unit))) (.pair (.sl (.int .i64)) .unit)))) .unit))) (.pair (.int .i64) .unit))
noncomputable def sp_s_l09Solves (F : ((Int × (List ((Int × Int × Unit) × (List Int) × Unit)) × Unit) × Int × Unit) → Option Bool) : FnSpec := ⟨as_s_l09Solves, [false, false], .bool, F⟩
noncomputable def s_l09Solves_l2 {R : Type} (K : Nat) : Nat → Int → (Int × (List ((Int × Int × Unit) × (List Int) × Unit)) × Unit) → Int → (Option R) → (Bool → Option R) → Option R
  | 0, _, _, _, _, _ => none
  | k + 1, v1, v2, v5, kx0, kr =>
    (if (decide (v5 < (v2.2.1.length : Int))) = true then
    (if (bnds v5 (v2.2.1.length : Int)) = true then
    let x1 := (v2.2.1.getD v5.toNat (((0 : Int), (0 : Int), ()), ([] : List Int), ()))
    (if (bnds v5 (v2.2.1.length : Int)) = true then
    let x2 := (v2.2.1.getD v5.toNat (((0 : Int), (0 : Int), ()), ([] : List Int), ()))
    (s_l09Tuple K (x2, v1, ())).bind fun y3 =>
    (s_l09Has K (x1.1, y3, ())).bind fun y4 =>
    (if (!y4) = true then
    kr false
    else
    s_l09Solves_l2 K k v1 v2 (IntKind.i64.wrap (v5 + (1 : Int))) kx0 kr)
    else
    none)
    else
    none)
    else
    kx0)
noncomputable def s_l09Solves (K : Nat) (x : ((Int × (List ((Int × Int × Unit) × (List Int) × Unit)) × Unit) × Int × Unit)) : Option Bool :=
    s_l09Solves_l2 K K x.2.1 x.1 (0 : Int) (some true) (fun z5 =>
    some z5)
noncomputable def lv_s_l09Solves_L2 : Lv := [(1, (.v (.int .i64))), (2, (.bx (.v (.st (.pair (.int .i64) (.pair (.sl (.st (.pair (.st (.pair (.int .i64) (.pair (.int .i64) .unit))) (.pair (.sl (.int .i64)) .unit)))) .unit)))))), (5, (.v (.int .i64)))]
noncomputable def lv_s_l09Solves_X0 : Lv := []
noncomputable def rv_s_l09Solves : Lv := [(4, (.v .bool))]
noncomputable def gs_l09Solves_l2 {R : Type} (K : Nat) (k : Nat) (x : den lv_s_l09Solves_L2.ty) (kx : Nat → St → Option R) (kr : St → Option R) : Option R := s_l09Solves_l2 K k x.1 x.2.1 x.2.2.1 (kx 0 (mkSt lv_s_l09Solves_X0 ())) (fun z0 => kr (mkSt rv_s_l09Solves (z0, ())))
noncomputable def sg_s_l09Solves {R : Type} (K : Nat) (k : Nat) : List (Nat × SegS R) := []
noncomputable def su_s_l09Solves : List (Nat × Unit) := []
noncomputable def en_s_l09Solves {R : Type} (K : Nat) (k : Nat) : Env R := { L := lk [(2, mkLoop lv_s_l09Solves_L2 (gs_l09Solves_l2 K k))], X := lk [(0, lv_s_l09Solves_X0)], S := lk (sg_s_l09Solves K k), rv := rv_s_l09Solves }
noncomputable def cf_s_l09Solves (K : Nat) : Cfg := { ty := lk tys, fn := lk [(134, sp_s_l09Has (s_l09Has K)), (162, sp_s_l09Tuple (s_l09Tuple K))], fs := lk [], prot := 0, nt := Tryz.f121.ntmps }
noncomputable def c_s_l09Solves_L2 : Code := nthC (partsOf (hasK su_s_l09Solves) (bodyOf Tryz.f121)) 0
theorem es_l09Solves_l2 {R : Type} (K : Nat) (k : Nat) (x : den lv_s_l09Solves_L2.ty) (kx : Nat → St → Option R) (kr : St → Option R) : gs_l09Solves_l2 K (k + 1) x kx kr = evC (cf_s_l09Solves K) (en_s_l09Solves K k) c_s_l09Solves_L2 (mkSt lv_s_l09Solves_L2 x) (fun s => mkLoop lv_s_l09Solves_L2 (gs_l09Solves_l2 K k) s kx kr) kx kr := by kernel_rfl
theorem ss_l09Solves_l2 {R : Type} (K : Nat) (C : Cx) (hP : C.P = Tryz.prog) (O : CfgOk C (cf_s_l09Solves K)) (k : Nat) : LpS C (R := R) (mkLoop lv_s_l09Solves_L2 (gs_l09Solves_l2 K k)) c_s_l09Solves_L2 :=
  loop_sound O (by rw [hP]; kernel_rfl) (fun x kx kr => rfl) (es_l09Solves_l2 K) (fun k => lpOk_of (en := en_s_l09Solves K k) (S := hasK su_s_l09Solves) (fun i => hasK_lk (sg_s_l09Solves K k) i) _ (by rw [show partsOf (hasK su_s_l09Solves) c_s_l09Solves_L2 = [] from by kernel_rfl]; exact trivial)) k
theorem e_s_l09Solves (K : Nat) (x : den as_s_l09Solves) : s_l09Solves K x = evFn (cf_s_l09Solves K) as_s_l09Solves [false, false] .bool (en_s_l09Solves K K) Tryz.f121.results.toList (bodyOf Tryz.f121) x := by kernel_rfl
theorem ok_s_l09Solves (K : Nat) : FnOk Tryz.prog 121 (sp_s_l09Solves (s_l09Solves K)) :=
  fn_ok (cf := cf_s_l09Solves K) (en := en_s_l09Solves K K) (c := bodyOf Tryz.f121) Tryz.func121 (by kernel_rfl) (by kernel_rfl) tysOk (fns_ok (l := [(134, sp_s_l09Has (s_l09Has K)), (162, sp_s_l09Tuple (s_l09Tuple K))]) ⟨ok_s_l09Has K, ⟨ok_s_l09Tuple K, trivial⟩⟩) (shs_ok (l := []) trivial) (by kernel_rfl) rfl (Nat.le_of_ble_eq_true (by kernel_rfl)) (by kernel_rfl) (of_decide_eq_true (by kernel_rfl)) (by decide) (fun C hP O => lpOk_of (en := en_s_l09Solves K K) (S := hasK su_s_l09Solves) (fun i => hasK_lk (sg_s_l09Solves K K) i) _ (by rw [show partsOf (hasK su_s_l09Solves) (bodyOf Tryz.f121) = [(true, c_s_l09Solves_L2)] from by kernel_rfl]; exact (lpL_loop (f := mkLoop lv_s_l09Solves_L2 (gs_l09Solves_l2 K K)) (by kernel_rfl) (ss_l09Solves_l2 K C hP O K) trivial))) (fun x y h => by rw [← e_s_l09Solves]; exact h)
noncomputable def as_s_l09Solutions : Ty := (.pair (.st (.pair (.int .i64) (.pair (.sl (.st (.pair (.st (.pair (.int .i64) (.pair (.int .i64) .unit))) (.pair (.sl (.int .i64)) .unit)))) .unit))) .unit)
noncomputable def sp_s_l09Solutions (F : ((Int × (List ((Int × Int × Unit) × (List Int) × Unit)) × Unit) × Unit) → Option (List Int)) : FnSpec := ⟨as_s_l09Solutions, [false], (.sl (.int .i64)), F⟩
noncomputable def s_l09Solutions_l3 {R : Type} (K : Nat) : Nat → (Int × (List ((Int × Int × Unit) × (List Int) × Unit)) × Unit) → (List Int) → Int → ((List Int) → Option R) → Option R
  | 0, _, _, _, _ => none
  | k + 1, v1, v3, v4, kx0 =>
    (s_l01Rows K (v1.1, ())).bind fun y2 =>
    (if (decide (v4 < y2)) = true then
    (s_l09Solves K (v1, v4, ())).bind fun y3 =>
    (if y3 = true then
    (if (decide (v3.length + ([v4]).length ≤ lim)) = true then
    let l4 := (v3 ++ [v4])
    s_l09Solutions_l3 K k v1 l4 (IntKind.i64.wrap (v4 + (1 : Int))) kx0
    else
    none)
    else
    s_l09Solutions_l3 K k v1 v3 (IntKind.i64.wrap (v4 + (1 : Int))) kx0)
    else
    kx0 v3)
noncomputable def s_l09Solutions (K : Nat) (x : ((Int × (List ((Int × Int × Unit) × (List Int) × Unit)) × Unit) × Unit)) : Option (List Int) :=
    let l1 := ([] : List Int)
    s_l09Solutions_l3 K K x.1 l1 (0 : Int) (fun z5 =>
    some z5)
noncomputable def lv_s_l09Solutions_L3 : Lv := [(1, (.bx (.v (.st (.pair (.int .i64) (.pair (.sl (.st (.pair (.st (.pair (.int .i64) (.pair (.int .i64) .unit))) (.pair (.sl (.int .i64)) .unit)))) .unit)))))), (3, (.r (.int .i64))), (4, (.v (.int .i64)))]
noncomputable def lv_s_l09Solutions_X0 : Lv := [(3, (.r (.int .i64)))]
noncomputable def rv_s_l09Solutions : Lv := [(2, (.r (.int .i64)))]
noncomputable def gs_l09Solutions_l3 {R : Type} (K : Nat) (k : Nat) (x : den lv_s_l09Solutions_L3.ty) (kx : Nat → St → Option R) (kr : St → Option R) : Option R := s_l09Solutions_l3 K k x.1 x.2.1 x.2.2.1 (fun z0 => kx 0 (mkSt lv_s_l09Solutions_X0 (z0, ())))
noncomputable def sg_s_l09Solutions {R : Type} (K : Nat) (k : Nat) : List (Nat × SegS R) := []
noncomputable def su_s_l09Solutions : List (Nat × Unit) := []
noncomputable def en_s_l09Solutions {R : Type} (K : Nat) (k : Nat) : Env R := { L := lk [(3, mkLoop lv_s_l09Solutions_L3 (gs_l09Solutions_l3 K k))], X := lk [(0, lv_s_l09Solutions_X0)], S := lk (sg_s_l09Solutions K k), rv := rv_s_l09Solutions }
noncomputable def cf_s_l09Solutions (K : Nat) : Cfg := { ty := lk tys, fn := lk [(120, sp_s_l01Rows (s_l01Rows K)), (121, sp_s_l09Solves (s_l09Solves K))], fs := lk [], prot := 0, nt := Tryz.f59.ntmps }
noncomputable def c_s_l09Solutions_L3 : Code := nthC (partsOf (hasK su_s_l09Solutions) (bodyOf Tryz.f59)) 0
theorem es_l09Solutions_l3 {R : Type} (K : Nat) (k : Nat) (x : den lv_s_l09Solutions_L3.ty) (kx : Nat → St → Option R) (kr : St → Option R) : gs_l09Solutions_l3 K (k + 1) x kx kr = evC (cf_s_l09Solutions K) (en_s_l09Solutions K k) c_s_l09Solutions_L3 (mkSt lv_s_l09Solutions_L3 x) (fun s => mkLoop lv_s_l09Solutions_L3 (gs_l09Solutions_l3 K k) s kx kr) kx kr := by kernel_rfl
theorem ss_l09Solutions_l3 {R : Type} (K : Nat) (C : Cx) (hP : C.P = Tryz.prog) (O : CfgOk C (cf_s_l09Solutions K)) (k : Nat) : LpS C (R := R) (mkLoop lv_s_l09Solutions_L3 (gs_l09Solutions_l3 K k)) c_s_l09Solutions_L3 :=
  loop_sound O (by rw [hP]; kernel_rfl) (fun x kx kr => rfl) (es_l09Solutions_l3 K) (fun k => lpOk_of (en := en_s_l09Solutions K k) (S := hasK su_s_l09Solutions) (fun i => hasK_lk (sg_s_l09Solutions K k) i) _ (by rw [show partsOf (hasK su_s_l09Solutions) c_s_l09Solutions_L3 = [] from by kernel_rfl]; exact trivial)) k
theorem e_s_l09Solutions (K : Nat) (x : den as_s_l09Solutions) : s_l09Solutions K x = evFn (cf_s_l09Solutions K) as_s_l09Solutions [false] (.sl (.int .i64)) (en_s_l09Solutions K K) Tryz.f59.results.toList (bodyOf Tryz.f59) x := by kernel_rfl
theorem ok_s_l09Solutions (K : Nat) : FnOk Tryz.prog 59 (sp_s_l09Solutions (s_l09Solutions K)) :=
  fn_ok (cf := cf_s_l09Solutions K) (en := en_s_l09Solutions K K) (c := bodyOf Tryz.f59) Tryz.func59 (by kernel_rfl) (by kernel_rfl) tysOk (fns_ok (l := [(120, sp_s_l01Rows (s_l01Rows K)), (121, sp_s_l09Solves (s_l09Solves K))]) ⟨ok_s_l01Rows K, ⟨ok_s_l09Solves K, trivial⟩⟩) (shs_ok (l := []) trivial) (by kernel_rfl) rfl (Nat.le_of_ble_eq_true (by kernel_rfl)) (by kernel_rfl) (of_decide_eq_true (by kernel_rfl)) (by decide) (fun C hP O => lpOk_of (en := en_s_l09Solutions K K) (S := hasK su_s_l09Solutions) (fun i => hasK_lk (sg_s_l09Solutions K K) i) _ (by rw [show partsOf (hasK su_s_l09Solutions) (bodyOf Tryz.f59) = [(true, c_s_l09Solutions_L3)] from by kernel_rfl]; exact (lpL_loop (f := mkLoop lv_s_l09Solutions_L3 (gs_l09Solutions_l3 K K)) (by kernel_rfl) (ss_l09Solutions_l3 K C hP O K) trivial))) (fun x y h => by rw [← e_s_l09Solutions]; exact h)
noncomputable def as_s_CountSolutions : Ty := (.pair (.st (.pair (.int .i64) (.pair (.sl (.st (.pair (.st (.pair (.int .i64) (.pair (.int .i64) .unit))) (.pair (.sl (.int .i64)) .unit)))) .unit))) .unit)
noncomputable def sp_s_CountSolutions (F : ((Int × (List ((Int × Int × Unit) × (List Int) × Unit)) × Unit) × Unit) → Option (Int × Int × Unit)) : FnSpec := ⟨as_s_CountSolutions, [false], (.tup (.pair (.int .i64) (.pair (.int .i64) .unit))), F⟩
noncomputable def s_CountSolutions (K : Nat) (x : ((Int × (List ((Int × Int × Unit) × (List Int) × Unit)) × Unit) × Unit)) : Option (Int × Int × Unit) :=
    (s_l09Is K (x.1, ())).bind fun y1 =>
    (if (!y1) = true then
    some ((0 : Int), (1 : Int), ())
    else
    (s_l09Solutions K (x.1, ())).bind fun y2 =>
    some ((y2.length : Int), (0 : Int), ()))
noncomputable def rv_s_CountSolutions : Lv := [(2, (.v (.int .i64))), (3, (.v (.int .i64)))]
noncomputable def sg_s_CountSolutions {R : Type} (K : Nat) (k : Nat) : List (Nat × SegS R) := []
noncomputable def su_s_CountSolutions : List (Nat × Unit) := []
noncomputable def en_s_CountSolutions {R : Type} (K : Nat) (k : Nat) : Env R := { L := lk [], X := lk [], S := lk (sg_s_CountSolutions K k), rv := rv_s_CountSolutions }
noncomputable def cf_s_CountSolutions (K : Nat) : Cfg := { ty := lk tys, fn := lk [(58, sp_s_l09Is (s_l09Is K)), (59, sp_s_l09Solutions (s_l09Solutions K))], fs := lk [], prot := 0, nt := Tryz.f29.ntmps }
theorem e_s_CountSolutions (K : Nat) (x : den as_s_CountSolutions) : s_CountSolutions K x = evFn (cf_s_CountSolutions K) as_s_CountSolutions [false] (.tup (.pair (.int .i64) (.pair (.int .i64) .unit))) (en_s_CountSolutions K K) Tryz.f29.results.toList (bodyOf Tryz.f29) x := by kernel_rfl
theorem ok_s_CountSolutions (K : Nat) : FnOk Tryz.prog 29 (sp_s_CountSolutions (s_CountSolutions K)) :=
  fn_ok (cf := cf_s_CountSolutions K) (en := en_s_CountSolutions K K) (c := bodyOf Tryz.f29) Tryz.func29 (by kernel_rfl) (by kernel_rfl) tysOk (fns_ok (l := [(58, sp_s_l09Is (s_l09Is K)), (59, sp_s_l09Solutions (s_l09Solutions K))]) ⟨ok_s_l09Is K, ⟨ok_s_l09Solutions K, trivial⟩⟩) (shs_ok (l := []) trivial) (by kernel_rfl) rfl (Nat.le_of_ble_eq_true (by kernel_rfl)) (by kernel_rfl) (of_decide_eq_true (by kernel_rfl)) (by decide) (fun C hP O => lpOk_of (en := en_s_CountSolutions K K) (S := hasK su_s_CountSolutions) (fun i => hasK_lk (sg_s_CountSolutions K K) i) _ (by rw [show partsOf (hasK su_s_CountSolutions) (bodyOf Tryz.f29) = [] from by kernel_rfl]; exact trivial)) (fun x y h => by rw [← e_s_CountSolutions]; exact h)
noncomputable def as_s_l01Own : Ty := (.pair (.sl (.int .i64)) .unit)
noncomputable def sp_s_l01Own (F : ((List Int) × Unit) → Option (List Int)) : FnSpec := ⟨as_s_l01Own, [false], (.sl (.int .i64)), F⟩
noncomputable def s_l01Own (K : Nat) (x : ((List Int) × Unit)) : Option (List Int) :=
    let l1 := ([] : List Int)
    (if (decide (l1.length + x.1.length ≤ lim)) = true then
    let l2 := (l1 ++ x.1)
    some l2
    else
    none)
noncomputable def rv_s_l01Own : Lv := [(2, (.r (.int .i64)))]
noncomputable def sg_s_l01Own {R : Type} (K : Nat) (k : Nat) : List (Nat × SegS R) := []
noncomputable def su_s_l01Own : List (Nat × Unit) := []
noncomputable def en_s_l01Own {R : Type} (K : Nat) (k : Nat) : Env R := { L := lk [], X := lk [], S := lk (sg_s_l01Own K k), rv := rv_s_l01Own }
noncomputable def cf_s_l01Own (K : Nat) : Cfg := { ty := lk tys, fn := lk [], fs := lk [], prot := 0, nt := Tryz.f133.ntmps }
theorem e_s_l01Own (K : Nat) (x : den as_s_l01Own) : s_l01Own K x = evFn (cf_s_l01Own K) as_s_l01Own [false] (.sl (.int .i64)) (en_s_l01Own K K) Tryz.f133.results.toList (bodyOf Tryz.f133) x := by kernel_rfl
theorem ok_s_l01Own (K : Nat) : FnOk Tryz.prog 133 (sp_s_l01Own (s_l01Own K)) :=
  fn_ok (cf := cf_s_l01Own K) (en := en_s_l01Own K K) (c := bodyOf Tryz.f133) Tryz.func133 (by kernel_rfl) (by kernel_rfl) tysOk (fns_ok (l := []) trivial) (shs_ok (l := []) trivial) (by kernel_rfl) rfl (Nat.le_of_ble_eq_true (by kernel_rfl)) (by kernel_rfl) (of_decide_eq_true (by kernel_rfl)) (by decide) (fun C hP O => lpOk_of (en := en_s_l01Own K K) (S := hasK su_s_l01Own) (fun i => hasK_lk (sg_s_l01Own K K) i) _ (by rw [show partsOf (hasK su_s_l01Own) (bodyOf Tryz.f133) = [] from by kernel_rfl]; exact trivial)) (fun x y h => by rw [← e_s_l01Own]; exact h)
noncomputable def as_s_l09Copy : Ty := (.pair (.st (.pair (.int .i64) (.pair (.sl (.st (.pair (.st (.pair (.int .i64) (.pair (.int .i64) .unit))) (.pair (.sl (.int .i64)) .unit)))) .unit))) .unit)
noncomputable def sp_s_l09Copy (F : ((Int × (List ((Int × Int × Unit) × (List Int) × Unit)) × Unit) × Unit) → Option (List ((Int × Int × Unit) × (List Int) × Unit))) : FnSpec := ⟨as_s_l09Copy, [false], (.sl (.st (.pair (.st (.pair (.int .i64) (.pair (.int .i64) .unit))) (.pair (.sl (.int .i64)) .unit)))), F⟩
noncomputable def s_l09Copy_l3 {R : Type} (K : Nat) : Nat → (Int × (List ((Int × Int × Unit) × (List Int) × Unit)) × Unit) → (List ((Int × Int × Unit) × (List Int) × Unit)) → Int → ((List ((Int × Int × Unit) × (List Int) × Unit)) → Option R) → Option R
  | 0, _, _, _, _ => none
  | k + 1, v1, v3, v4, kx0 =>
    (if (decide (v4 < (v1.2.1.length : Int))) = true then
    (if (bnds v4 (v1.2.1.length : Int)) = true then
    let x2 := (v1.2.1.getD v4.toNat (((0 : Int), (0 : Int), ()), ([] : List Int), ()))
    (if (bnds v4 (v1.2.1.length : Int)) = true then
    let x3 := (v1.2.1.getD v4.toNat (((0 : Int), (0 : Int), ()), ([] : List Int), ()))
    (s_l01Own K (x3.2.1, ())).bind fun y4 =>
    let l5 := [(x2.1, y4, ())]
    (if (decide (v3.length + l5.length ≤ lim)) = true then
    let l6 := (v3 ++ l5)
    s_l09Copy_l3 K k v1 l6 (IntKind.i64.wrap (v4 + (1 : Int))) kx0
    else
    none)
    else
    none)
    else
    none)
    else
    kx0 v3)
noncomputable def s_l09Copy (K : Nat) (x : ((Int × (List ((Int × Int × Unit) × (List Int) × Unit)) × Unit) × Unit)) : Option (List ((Int × Int × Unit) × (List Int) × Unit)) :=
    let l1 := ([] : List ((Int × Int × Unit) × (List Int) × Unit))
    s_l09Copy_l3 K K x.1 l1 (0 : Int) (fun z7 =>
    some z7)
noncomputable def lv_s_l09Copy_L3 : Lv := [(1, (.bx (.v (.st (.pair (.int .i64) (.pair (.sl (.st (.pair (.st (.pair (.int .i64) (.pair (.int .i64) .unit))) (.pair (.sl (.int .i64)) .unit)))) .unit)))))), (3, (.r (.st (.pair (.st (.pair (.int .i64) (.pair (.int .i64) .unit))) (.pair (.sl (.int .i64)) .unit))))), (4, (.v (.int .i64)))]
noncomputable def lv_s_l09Copy_X0 : Lv := [(3, (.r (.st (.pair (.st (.pair (.int .i64) (.pair (.int .i64) .unit))) (.pair (.sl (.int .i64)) .unit)))))]
noncomputable def rv_s_l09Copy : Lv := [(2, (.r (.st (.pair (.st (.pair (.int .i64) (.pair (.int .i64) .unit))) (.pair (.sl (.int .i64)) .unit)))))]
noncomputable def gs_l09Copy_l3 {R : Type} (K : Nat) (k : Nat) (x : den lv_s_l09Copy_L3.ty) (kx : Nat → St → Option R) (kr : St → Option R) : Option R := s_l09Copy_l3 K k x.1 x.2.1 x.2.2.1 (fun z0 => kx 0 (mkSt lv_s_l09Copy_X0 (z0, ())))
noncomputable def sg_s_l09Copy {R : Type} (K : Nat) (k : Nat) : List (Nat × SegS R) := []
noncomputable def su_s_l09Copy : List (Nat × Unit) := []
noncomputable def en_s_l09Copy {R : Type} (K : Nat) (k : Nat) : Env R := { L := lk [(3, mkLoop lv_s_l09Copy_L3 (gs_l09Copy_l3 K k))], X := lk [(0, lv_s_l09Copy_X0)], S := lk (sg_s_l09Copy K k), rv := rv_s_l09Copy }
noncomputable def cf_s_l09Copy (K : Nat) : Cfg := { ty := lk tys, fn := lk [(133, sp_s_l01Own (s_l01Own K))], fs := lk [], prot := 0, nt := Tryz.f75.ntmps }
noncomputable def c_s_l09Copy_L3 : Code := nthC (partsOf (hasK su_s_l09Copy) (bodyOf Tryz.f75)) 0
theorem es_l09Copy_l3 {R : Type} (K : Nat) (k : Nat) (x : den lv_s_l09Copy_L3.ty) (kx : Nat → St → Option R) (kr : St → Option R) : gs_l09Copy_l3 K (k + 1) x kx kr = evC (cf_s_l09Copy K) (en_s_l09Copy K k) c_s_l09Copy_L3 (mkSt lv_s_l09Copy_L3 x) (fun s => mkLoop lv_s_l09Copy_L3 (gs_l09Copy_l3 K k) s kx kr) kx kr := by kernel_rfl
theorem ss_l09Copy_l3 {R : Type} (K : Nat) (C : Cx) (hP : C.P = Tryz.prog) (O : CfgOk C (cf_s_l09Copy K)) (k : Nat) : LpS C (R := R) (mkLoop lv_s_l09Copy_L3 (gs_l09Copy_l3 K k)) c_s_l09Copy_L3 :=
  loop_sound O (by rw [hP]; kernel_rfl) (fun x kx kr => rfl) (es_l09Copy_l3 K) (fun k => lpOk_of (en := en_s_l09Copy K k) (S := hasK su_s_l09Copy) (fun i => hasK_lk (sg_s_l09Copy K k) i) _ (by rw [show partsOf (hasK su_s_l09Copy) c_s_l09Copy_L3 = [] from by kernel_rfl]; exact trivial)) k
theorem e_s_l09Copy (K : Nat) (x : den as_s_l09Copy) : s_l09Copy K x = evFn (cf_s_l09Copy K) as_s_l09Copy [false] (.sl (.st (.pair (.st (.pair (.int .i64) (.pair (.int .i64) .unit))) (.pair (.sl (.int .i64)) .unit)))) (en_s_l09Copy K K) Tryz.f75.results.toList (bodyOf Tryz.f75) x := by kernel_rfl
theorem ok_s_l09Copy (K : Nat) : FnOk Tryz.prog 75 (sp_s_l09Copy (s_l09Copy K)) :=
  fn_ok (cf := cf_s_l09Copy K) (en := en_s_l09Copy K K) (c := bodyOf Tryz.f75) Tryz.func75 (by kernel_rfl) (by kernel_rfl) tysOk (fns_ok (l := [(133, sp_s_l01Own (s_l01Own K))]) ⟨ok_s_l01Own K, trivial⟩) (shs_ok (l := []) trivial) (by kernel_rfl) rfl (Nat.le_of_ble_eq_true (by kernel_rfl)) (by kernel_rfl) (of_decide_eq_true (by kernel_rfl)) (by decide) (fun C hP O => lpOk_of (en := en_s_l09Copy K K) (S := hasK su_s_l09Copy) (fun i => hasK_lk (sg_s_l09Copy K K) i) _ (by rw [show partsOf (hasK su_s_l09Copy) (bodyOf Tryz.f75) = [(true, c_s_l09Copy_L3)] from by kernel_rfl]; exact (lpL_loop (f := mkLoop lv_s_l09Copy_L3 (gs_l09Copy_l3 K K)) (by kernel_rfl) (ss_l09Copy_l3 K C hP O K) trivial))) (fun x y h => by rw [← e_s_l09Copy]; exact h)
noncomputable def ps_s_l01Next : Lv := [(0, (.bx (.v (.st (.pair (.sl (.int .u8)) (.pair (.int .i64) (.pair (.int .u64) .unit))))))), (1, (.v (.int .i64)))]
noncomputable def rl_s_l01Next : Lv := [(0, (.v (.int .i64)))]
noncomputable def sp_s_l01Next (F : (((List Int) × Int × Int × Unit) × Int × Unit) → Option ((Int × Unit) × (((List Int) × Int × Int × Unit) × Unit))) : ShSpec := ⟨ps_s_l01Next, rl_s_l01Next, F⟩
noncomputable def s_l01Next (K : Nat) (x : (((List Int) × Int × Int × Unit) × Int × Unit)) : Option ((Int × Unit) × (((List Int) × Int × Int × Unit) × Unit)) :=
    (if (decide (x.2.1 < (1 : Int))) = true then
    some (((0 : Int), ()), (x.1, ()))
    else
    let x1 := (IntKind.u64.wrap ((IntKind.u64.wrap (x.1.2.2.1 * (6364136223846793005 : Int))) + (1442695040888963407 : Int)))
    let x2 := (bitI .and .u64 (shrI .u64 ((x.1.1, x.1.2.1, x1, ()).2.2.1) (33 : Int)) (16777215 : Int))
    let x3 := (decide ((x.1.1, x.1.2.1, x1, ()).2.1 < (((x.1.1, x.1.2.1, x1, ()).1).length : Int)))
    (if x3 = true then
    (if (bnds ((x.1.1, x.1.2.1, x1, ()).2.1) (((x.1.1, x.1.2.1, x1, ()).1).length : Int)) = true then
    let x4 := (((x.1.1, x.1.2.1, x1, ()).1).getD ((x.1.1, x.1.2.1, x1, ()).2.1).toNat (0 : Int))
    let x5 := (IntKind.i64.wrap ((IntKind.i64.wrap x2) + (IntKind.i64.wrap x4)))
    let x6 := (IntKind.i64.wrap ((x.1.1, x.1.2.1, x1, ()).2.1 + (1 : Int)))
    (if (!decide (x.2.1 = 0)) = true then
    some (((Int.tmod x5 x.2.1), ()), (((x.1.1, x.1.2.1, x1, ()).1, x6, (x.1.1, x.1.2.1, x1, ()).2.2.1, ()), ()))
    else
    none)
    else
    none)
    else
    (if (!decide (x.2.1 = 0)) = true then
    some (((Int.tmod (IntKind.i64.wrap x2) x.2.1), ()), ((x.1.1, x.1.2.1, x1, ()), ()))
    else
    none)))
noncomputable def rv_s_l01Next : Lv := [(0, (.bx (.v (.st (.pair (.sl (.int .u8)) (.pair (.int .i64) (.pair (.int .u64) .unit))))))), (4, (.v (.int .i64)))]
noncomputable def sg_s_l01Next {R : Type} (K : Nat) (k : Nat) : List (Nat × SegS R) := []
noncomputable def su_s_l01Next : List (Nat × Unit) := []
noncomputable def en_s_l01Next {R : Type} (K : Nat) (k : Nat) : Env R := { L := lk [], X := lk [], S := lk (sg_s_l01Next K k), rv := rv_s_l01Next }
noncomputable def cf_s_l01Next (K : Nat) : Cfg := { ty := lk tys, fn := lk [], fs := lk [], prot := 1, nt := Tryz.f78.ntmps }
theorem e_s_l01Next (K : Nat) (x : den ps_s_l01Next.ty) : s_l01Next K x = evFnS (cf_s_l01Next K) ps_s_l01Next rl_s_l01Next (en_s_l01Next K K) Tryz.f78.results.toList (bodyOf Tryz.f78) x := by kernel_rfl
theorem ok_s_l01Next (K : Nat) : ShOk Tryz.prog 78 (sp_s_l01Next (s_l01Next K)) :=
  sh_ok (cf := cf_s_l01Next K) (en := en_s_l01Next K K) (c := bodyOf Tryz.f78) Tryz.func78 (by kernel_rfl) (by kernel_rfl) tysOk (fns_ok (l := []) trivial) (shs_ok (l := []) trivial) (by kernel_rfl) rfl (Nat.le_of_ble_eq_true (by kernel_rfl)) (by kernel_rfl) (Nat.le_of_ble_eq_true (by kernel_rfl)) (by kernel_rfl) (fun C hP O => lpOk_of (en := en_s_l01Next K K) (S := hasK su_s_l01Next) (fun i => hasK_lk (sg_s_l01Next K K) i) _ (by rw [show partsOf (hasK su_s_l01Next) (bodyOf Tryz.f78) = [] from by kernel_rfl]; exact trivial)) (fun x y h => by rw [← e_s_l01Next]; exact h)
noncomputable def ps_s_l01Pick : Lv := [(0, (.bx (.v (.st (.pair (.sl (.int .u8)) (.pair (.int .i64) (.pair (.int .u64) .unit))))))), (1, (.v (.sl (.int .i64))))]
noncomputable def rl_s_l01Pick : Lv := [(0, (.v (.int .i64)))]
noncomputable def sp_s_l01Pick (F : (((List Int) × Int × Int × Unit) × (List Int) × Unit) → Option ((Int × Unit) × (((List Int) × Int × Int × Unit) × Unit))) : ShSpec := ⟨ps_s_l01Pick, rl_s_l01Pick, F⟩
noncomputable def s_l01Pick (K : Nat) (x : (((List Int) × Int × Int × Unit) × (List Int) × Unit)) : Option ((Int × Unit) × (((List Int) × Int × Int × Unit) × Unit)) :=
    (s_l01Next K (x.1, (x.2.1.length : Int), ())).bind fun y1 =>
    (if (bnds y1.1.1 (x.2.1.length : Int)) = true then
    some (((x.2.1.getD y1.1.1.toNat (0 : Int)), ()), (y1.2.1, ()))
    else
    none)
noncomputable def rv_s_l01Pick : Lv := [(0, (.bx (.v (.st (.pair (.sl (.int .u8)) (.pair (.int .i64) (.pair (.int .u64) .unit))))))), (4, (.v (.int .i64)))]
noncomputable def sg_s_l01Pick {R : Type} (K : Nat) (k : Nat) : List (Nat × SegS R) := []
noncomputable def su_s_l01Pick : List (Nat × Unit) := []
noncomputable def en_s_l01Pick {R : Type} (K : Nat) (k : Nat) : Env R := { L := lk [], X := lk [], S := lk (sg_s_l01Pick K k), rv := rv_s_l01Pick }
noncomputable def cf_s_l01Pick (K : Nat) : Cfg := { ty := lk tys, fn := lk [], fs := lk [(78, sp_s_l01Next (s_l01Next K))], prot := 1, nt := Tryz.f85.ntmps }
theorem e_s_l01Pick (K : Nat) (x : den ps_s_l01Pick.ty) : s_l01Pick K x = evFnS (cf_s_l01Pick K) ps_s_l01Pick rl_s_l01Pick (en_s_l01Pick K K) Tryz.f85.results.toList (bodyOf Tryz.f85) x := by kernel_rfl
theorem ok_s_l01Pick (K : Nat) : ShOk Tryz.prog 85 (sp_s_l01Pick (s_l01Pick K)) :=
  sh_ok (cf := cf_s_l01Pick K) (en := en_s_l01Pick K K) (c := bodyOf Tryz.f85) Tryz.func85 (by kernel_rfl) (by kernel_rfl) tysOk (fns_ok (l := []) trivial) (shs_ok (l := [(78, sp_s_l01Next (s_l01Next K))]) ⟨ok_s_l01Next K, trivial⟩) (by kernel_rfl) rfl (Nat.le_of_ble_eq_true (by kernel_rfl)) (by kernel_rfl) (Nat.le_of_ble_eq_true (by kernel_rfl)) (by kernel_rfl) (fun C hP O => lpOk_of (en := en_s_l01Pick K K) (S := hasK su_s_l01Pick) (fun i => hasK_lk (sg_s_l01Pick K K) i) _ (by rw [show partsOf (hasK su_s_l01Pick) (bodyOf Tryz.f85) = [] from by kernel_rfl]; exact trivial)) (fun x y h => by rw [← e_s_l01Pick]; exact h)
end Go.Proofs.YtjbpdhfoeomabaaGreat.E
