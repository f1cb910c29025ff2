/-
  States cut to a list of live slots: the invariant stands. Conditions: those of each theorem.
-/
import Derived.Test.YtckkagmccbkfbaaCFnIdentities3
namespace Go.Proofs.Ytckkagmccbkfbaa.E
open Go Go.RowKit
set_option linter.unusedVariables false
set_option linter.unusedSimpArgs false
section
variable {C : Cx} {cf : Cfg} {st st' : St} {a : Act} {w w' : World} {G G' : Gh} {us : U}
theorem ext_notup {sh : Shp} {v : SV} {d : Nat} {r} (h : extS st sh v d = some r) : ∀ b, v ≠ .tup b := by
  intro b e
  subst e
  cases sh <;> cases h
structure ExtLK (st : St) (l : Lv) (x : den l.ty) (rs : List (Nat × Option Nat)) (bs : List (Nat × Nat)) : Prop where
  ents : ∀ q ∈ mkL l x, (∃ i ∈ l.map (·.1), ∃ v, q = (sk i, .sv v)) ∨ (∃ i ∈ l.map (·.1), EntK st rs bs (8 * i) (8 * i + 8) q)
  keys : ((mkL l x).map (·.1)).Nodup
  rsd : ∀ q ∈ rs, ∃ i ∈ l.map (·.1), 8 * i ≤ q.1 ∧ q.1 < 8 * i + 8
  bsd : ∀ q ∈ bs, ∃ i ∈ l.map (·.1), 8 * i ≤ q.1 ∧ q.1 < 8 * i + 8
  rsn : (rs.map (·.1)).Nodup
  bsn : (bs.map (·.1)).Nodup
theorem extL_cons {i : Nat} {sh : Shp} {l : Lv} {x : den (Lv.ty ((i, sh) :: l))} {rs : List (Nat × Option Nat)} {bs : List (Nat × Nat)} (h : extL st ((i, sh) :: l) = some (x, rs, bs)) :
    ∃ v x1 rs1 bs1 d x2 rs2 bs2, st (sk i) = .sv v ∧ extS st sh v (8 * i) = some (x1, rs1, bs1, d) ∧ d ≤ 8 * i + 8 ∧ extL st l = some (x2, rs2, bs2) ∧ x = (x1, x2) ∧ rs = rs1 ++ rs2 ∧ bs = bs1 ++ bs2 := by
  unfold extL at h
  split at h
  case h_2 => cases h
  rename_i v hv
  split at h
  case h_2 => cases h
  rename_i x1 rs1 bs1 d he
  cases hb : Nat.ble d (8 * i + 8)
  · rw [hb] at h; cases h
  rw [hb] at h
  simp only [cond_true] at h
  split at h
  case h_2 => cases h
  rename_i x2 rs2 bs2 hl
  cases h
  exact ⟨v, x1, rs1, bs1, d, x2, rs2, bs2, hv, he, Nat.le_of_ble_eq_true hb, hl, rfl, rfl, rfl⟩
theorem extL_keys : ∀ (l : Lv) {x : den l.ty} {rs : List (Nat × Option Nat)} {bs : List (Nat × Nat)}, extL st l = some (x, rs, bs) → (l.map (·.1)).Nodup → ExtLK st l x rs bs
  | [], x, rs, bs, h, hn => by
    cases h
    exact ⟨fun q hq => (by cases hq), List.nodup_nil, fun q hq => (by cases hq), fun q hq => (by cases hq), List.nodup_nil, List.nodup_nil⟩
  | (i, sh) :: l, x, rs, bs, h, hn => by
    obtain ⟨v, x1, rs1, bs1, d, x2, rs2, bs2, hv, he, hd, hl, rfl, rfl, rfl⟩ := extL_cons h
    rw [List.map_cons, List.nodup_cons] at hn
    have K := ext_keys sh v (8 * i) he
    have L := extL_keys l hl hn.2
    have far : ∀ j ∈ l.map (·.1), j ≠ i := fun j hj e => hn.1 (e ▸ hj)
    refine ⟨fun q hq => ?_, ?_, fun q hq => ?_, fun q hq => ?_, ?_, ?_⟩
    · have hq : q ∈ (sk i, Cell.sv (mkS sh x1 (8 * i)).1) :: ((mkS sh x1 (8 * i)).2.1 ++ mkL l x2) := hq
      rcases List.mem_cons.1 hq with hq | hq
      · exact .inl ⟨i, by simp, _, hq⟩
      · rcases List.mem_append.1 hq with hq | hq
        · exact .inr ⟨i, by simp, (K.ents q hq).mono (fun _ h => List.mem_append_left _ h) (fun _ h => List.mem_append_left _ h) (Nat.le_refl _) hd⟩
        · rcases L.ents q hq with ⟨j, hj, h⟩ | ⟨j, hj, h⟩
          · exact .inl ⟨j, List.mem_cons_of_mem _ hj, h⟩
          · exact .inr ⟨j, List.mem_cons_of_mem _ hj, h.mono (fun _ h => List.mem_append_right _ h) (fun _ h => List.mem_append_right _ h) (Nat.le_refl _) (Nat.le_refl _)⟩
    · show (((sk i, Cell.sv (mkS sh x1 (8 * i)).1) :: ((mkS sh x1 (8 * i)).2.1 ++ mkL l x2)).map (·.1)).Nodup
      rw [List.map_cons, List.nodup_cons, List.map_append]
      refine ⟨fun hm => ?_, nodup_app K.keys L.keys fun k h1 h2 => ?_⟩
      · rcases List.mem_append.1 hm with hm | hm
        · obtain ⟨q, hq, e⟩ := List.mem_map.1 hm
          obtain ⟨d0, _, _, h3⟩ := entK_rng (K.ents q hq)
          have e : q.1 = sk i := e
          rw [e] at h3
          unfold sk rk bk at h3; omega
        · obtain ⟨q, hq, e⟩ := List.mem_map.1 hm
          have e : q.1 = sk i := e
          rcases L.ents q hq with ⟨j, hj, v', hv'⟩ | ⟨j, hj, h3⟩
          · rw [hv'] at e
            exact far j hj (sk_inj e)
          · obtain ⟨d0, _, _, h3⟩ := entK_rng h3
            rw [e] at h3
            unfold sk rk bk at h3; omega
      · obtain ⟨q, hq, rfl⟩ := List.mem_map.1 h1
        obtain ⟨q', hq', e⟩ := List.mem_map.1 h2
        have e : q'.1 = q.1 := e
        have r1 := rng_mono (entK_rng (K.ents q hq)) (Nat.le_refl _) hd
        rcases L.ents q' hq' with ⟨j, hj, v', hv'⟩ | ⟨j, hj, h3⟩
        · obtain ⟨d0, _, _, h3⟩ := r1
          rw [hv'] at e
          rw [← e] at h3
          unfold sk rk bk at h3; simp only at h3; omega
        · have r2 := entK_rng h3
          rw [e] at r2
          have := far j hj
          exact rng_dis r1 r2 (by omega)
    · rcases List.mem_append.1 hq with hq | hq
      · have := K.rsd q hq; exact ⟨i, by simp, by omega, by omega⟩
      · obtain ⟨j, hj, h1, h2⟩ := L.rsd q hq; exact ⟨j, List.mem_cons_of_mem _ hj, h1, h2⟩
    · rcases List.mem_append.1 hq with hq | hq
      · have := K.bsd q hq; exact ⟨i, by simp, by omega, by omega⟩
      · obtain ⟨j, hj, h1, h2⟩ := L.bsd q hq; exact ⟨j, List.mem_cons_of_mem _ hj, h1, h2⟩
    · rw [List.map_append]
      refine nodup_app K.rsn L.rsn fun k h1 h2 => ?_
      obtain ⟨q, hq, rfl⟩ := List.mem_map.1 h1
      obtain ⟨q', hq', e⟩ := List.mem_map.1 h2
      have e : q'.1 = q.1 := e
      have := K.rsd q hq
      obtain ⟨j, hj, h1, h2⟩ := L.rsd q' hq'
      have := far j hj
      omega
    · rw [List.map_append]
      refine nodup_app K.bsn L.bsn fun k h1 h2 => ?_
      obtain ⟨q, hq, rfl⟩ := List.mem_map.1 h1
      obtain ⟨q', hq', e⟩ := List.mem_map.1 h2
      have e : q'.1 = q.1 := e
      have := K.bsd q hq
      obtain ⟨j, hj, h1, h2⟩ := L.bsd q' hq'
      have := far j hj
      omega
theorem extL_vals (I : Inv C st a w G) (hS : ∀ b, Fz st G w b → Fz st' G' w b) : ∀ (l : Lv) {x : den l.ty} {rs : List (Nat × Option Nat)} {bs : List (Nat × Nat)}, extL st l = some (x, rs, bs) → (∀ q ∈ mkL l x, st' q.1 = q.2) → Mapd G G' rs bs →
    (∀ i v, (sk i, Cell.sv v) ∈ mkL l x → SW C.P st' G' w (Fz st' G' w) v (a.tmps.getD i undef)) ∧ ∀ k g T u, (k, Cell.box g T u) ∈ mkL l x → u.hasTy T = true ∧ ∃ arr ty, w.heap[G'.bx k]? = some (.cells arr ty (0, 0)) ∧ SX C.P st' G' w (Fz st' G' w) u false arr.toList
  | [], x, rs, bs, h, hst, hM => ⟨fun i v hv => (by cases hv), fun k g T u hq => (by cases hq)⟩
  | (i, sh) :: l, x, rs, bs, h, hst, hM => by
    obtain ⟨v, x1, rs1, bs1, d, x2, rs2, bs2, hv, he, hd, hl, rfl, rfl, rfl⟩ := extL_cons h
    have hmk : mkL ((i, sh) :: l) (x1, x2) = (sk i, Cell.sv (mkS sh x1 (8 * i)).1) :: ((mkS sh x1 (8 * i)).2.1 ++ mkL l x2) := rfl
    rw [hmk] at hst ⊢
    obtain ⟨cs, hc1, hc2⟩ := SW_cells (I.sl i v hv) (ext_notup he)
    obtain ⟨k1, k2, k3, k4⟩ := ext_vals (G' := G') I.toInvM hS sh v (8 * i) he hc2 (fun q hq => hst q (List.mem_cons_of_mem _ (List.mem_append_left _ hq))) (hM.mono (fun _ h => List.mem_append_left _ h) (fun _ h => List.mem_append_left _ h))
    obtain ⟨j1, j2⟩ := extL_vals I hS l hl (fun q hq => hst q (List.mem_cons_of_mem _ (List.mem_append_right _ hq))) (hM.mono (fun _ h => List.mem_append_right _ h) (fun _ h => List.mem_append_right _ h))
    have K := ext_keys sh v (8 * i) he
    refine ⟨fun j u hj => ?_, fun k g T u hq => ?_⟩
    · rcases List.mem_cons.1 hj with hj | hj
      · simp only [Prod.mk.injEq, Cell.sv.injEq] at hj
        obtain ⟨e, rfl⟩ := hj
        have e := sk_inj e
        subst e
        rw [hc1, ← k3]
        exact SW_of k1
      · rcases List.mem_append.1 hj with hj | hj
        · exfalso
          rcases K.ents _ hj with ⟨_, _, _, _, e, _⟩ | ⟨_, _, _, _, e, _⟩ <;> simp at e
        · exact j1 j u hj
    · rcases List.mem_cons.1 hq with hq | hq
      · simp at hq
      · rcases List.mem_append.1 hq with hq | hq
        · exact k4 k g T u hq
        · exact j2 k g T u hq
theorem lookup_mem {β : Type} : ∀ (l : List (Nat × β)) {d : Nat} {o : β}, (l.map (·.1)).Nodup → (d, o) ∈ l → l.lookup d = some o
  | [], _, _, _, h => by cases h
  | (e, p) :: l, d, o, hn, h => by
    rw [List.map_cons, List.nodup_cons] at hn
    rw [List.lookup_cons]
    rcases List.mem_cons.1 h with h | h
    · simp only [Prod.mk.injEq] at h
      obtain ⟨rfl, rfl⟩ := h
      simp
    · have hne : d ≠ e := fun e' => hn.1 (List.mem_map.2 ⟨(d, o), h, e'⟩)
      have : (d == e) = false := by simpa using hne
      rw [this]
      exact lookup_mem l hn.2 h
theorem cut1_ok {l : Lv} {x' : den l.ty} {rs : List (Nat × Option Nat)} {bs : List (Nat × Nat)} (he : extL st l = some (x', rs, bs)) (hrn : (rs.filterMap (·.2)).Nodup) (hbn : (bs.map (·.2)).Nodup) (hln : (l.map (·.1)).Nodup) (I : Inv C st a w G) :
    ∃ G', Inv C (mkSt l x') a w G' ∧ ∀ d t, (d, some t) ∈ rs → G'.hd (rk d) = G.hd (rk t) := by
  have K := extL_keys l he hln
  -- the new ghosts
  let G' : Gh := ⟨fun k => match rs.lookup (k / 3) with | some (some t) => G.hd (rk t) | _ => .slice none 0 0, fun k => match rs.lookup (k / 3) with | some (some t) => G.bl (rk t) | _ => [], fun k => match bs.lookup (k / 3) with | some b => G.bx (bk b) | none => 0, G.s0⟩
  have hrd : ∀ d, rk d / 3 = d := fun d => by unfold rk; omega
  have hbd : ∀ d, bk d / 3 = d := fun d => by unfold bk; omega
  have hM : Mapd G G' rs bs := by
    refine ⟨fun d t hm => ?_, fun d hm => ?_, fun d b hm => ?_⟩
    · show (match rs.lookup (rk d / 3) with | some (some t) => G.hd (rk t) | _ => .slice none 0 0) = _
      rw [hrd, lookup_mem rs K.rsn hm]
    · show (match rs.lookup (rk d / 3) with | some (some t) => G.hd (rk t) | _ => .slice none 0 0) = _
      rw [hrd, lookup_mem rs K.rsn hm]
    · show (match bs.lookup (bk d / 3) with | some b => G.bx (bk b) | none => 0) = _
      rw [hbd, lookup_mem bs K.bsn hm]
  have hbl : ∀ d t, (d, some t) ∈ rs → G'.bl (rk d) = G.bl (rk t) := fun d t hm => by
    show (match rs.lookup (rk d / 3) with | some (some t) => G.bl (rk t) | _ => []) = _
    rw [hrd, lookup_mem rs K.rsn hm]
  have hblz : ∀ d, (d, none) ∈ rs → G'.bl (rk d) = [] := fun d hm => by
    show (match rs.lookup (rk d / 3) with | some (some t) => G.bl (rk t) | _ => []) = _
    rw [hrd, lookup_mem rs K.rsn hm]
  have hin : ∀ q ∈ mkL l x', mkSt l x' q.1 = q.2 := fun q hq => upds_in _ _ K.keys (by simpa using hq)
  have hout : ∀ k, mkSt l x' k = .none ∨ ∃ q ∈ mkL l x', q.1 = k := fun k => by
    by_cases hk : ∃ q ∈ mkL l x', q.1 = k
    · exact .inr hk
    · left
      have : mkSt l x' k = st0 k := upds_out _ _ _ fun p hp e => hk ⟨p, hp, e⟩
      rw [this]; rfl
  have hent : ∀ k c, mkSt l x' k = c → c ≠ .none → (k, c) ∈ mkL l x' := fun k c h1 h2 => by
    rcases hout k with h | ⟨q, hq, rfl⟩
    · rw [h] at h1; exact absurd h1.symm h2
    · have := hin q hq
      rw [this] at h1; subst h1
      simpa using hq
  have hroot : ∀ k g h e ll, mkSt l x' k = .root g h e ll → ∃ d o, k = rk d ∧ (d, o) ∈ rs ∧ (∀ t, o = some t → ∃ g h, st (rk t) = .root g h e ll) ∧ (o = none → ll = []) := fun k g h e ll hr => by
    have hm := hent k _ hr (by simp)
    rcases K.ents _ hm with ⟨i, _, v, e'⟩ | ⟨i, _, hE⟩
    · simp at e'
    · rcases hE with ⟨e0, l0, d, o, k1, k2, _, _, k5, k6⟩ | ⟨T, v, d, b, k1, _⟩
      · simp only [Prod.mk.injEq, Cell.root.injEq] at k1
        obtain ⟨rfl, _, _, rfl, k7⟩ := k1
        cases k7
        exact ⟨d, o, rfl, k2, k5, k6⟩
      · simp at k1
  have hboxs : ∀ k g T u, mkSt l x' k = .box g T u → ∃ d b, k = bk d ∧ (d, b) ∈ bs ∧ ∃ g c, st (bk b) = .box g T c := fun k g T u hr => by
    have hm := hent k _ hr (by simp)
    rcases K.ents _ hm with ⟨i, _, v, e'⟩ | ⟨i, _, hE⟩
    · simp at e'
    · rcases hE with ⟨e0, l0, d, o, k1, k2, _, _, k5, k6⟩ | ⟨T', v, d, b, k1, k2, _, _, k5⟩
      · simp at k1
      · simp only [Prod.mk.injEq, Cell.box.injEq] at k1
        obtain ⟨rfl, _, rfl, _⟩ := k1
        exact ⟨d, b, rfl, k2, k5⟩
  -- who owns what
  have own : ∀ k b, b ∈ ownB (mkSt l x') G' k → (∃ d t, k = rk d ∧ (d, some t) ∈ rs ∧ b ∈ ownB st G (rk t)) ∨ (∃ d c, k = bk d ∧ (d, c) ∈ bs ∧ b ∈ ownB st G (bk c)) := fun k b hb => by
    unfold ownB at hb
    split at hb
    · rename_i g h e ll hr
      obtain ⟨d, o, rfl, k1, k2, k3⟩ := hroot _ _ _ _ _ hr
      cases o with
      | none => rw [hblz d k1] at hb; cases hb
      | some t =>
        rw [hbl d t k1] at hb
        obtain ⟨g', h', k4⟩ := k2 t rfl
        refine .inl ⟨d, t, rfl, k1, ?_⟩
        unfold ownB; rw [k4]; exact hb
    · rename_i g T u hr
      obtain ⟨d, c, rfl, k1, g', u', k2⟩ := hboxs _ _ _ _ hr
      rw [hM.bsm d c k1] at hb
      refine .inr ⟨d, c, rfl, k1, ?_⟩
      unfold ownB; rw [k2]; exact hb
    · cases hb
  have injr : ∀ (l : List (Nat × Option Nat)), (l.filterMap (·.2)).Nodup → ∀ d d' t, (d, some t) ∈ l → (d', some t) ∈ l → d = d' := by
    intro l
    induction l with
    | nil => intro _ d d' t h; cases h
    | cons q l ih =>
      intro hn d d' t h h'
      have hmem : ∀ d t, (d, some t) ∈ l → t ∈ l.filterMap (·.2) := fun d t hm => List.mem_filterMap.2 ⟨_, hm, rfl⟩
      have hn' : (l.filterMap (·.2)).Nodup := by
        obtain ⟨q1, q2⟩ := q
        cases q2 with
        | none => simpa [List.filterMap_cons] using hn
        | some t =>
          have hn2 : (t :: l.filterMap (·.2)).Nodup := hn
          exact (List.nodup_cons.1 hn2).2
      rcases List.mem_cons.1 h with k | k <;> rcases List.mem_cons.1 h' with k' | k'
      · rw [← k'] at k; simp only [Prod.mk.injEq] at k; exact k.1
      · subst k
        have hn2 : (t :: l.filterMap (·.2)).Nodup := hn
        exact absurd (hmem _ _ k') (List.nodup_cons.1 hn2).1
      · subst k'
        have hn2 : (t :: l.filterMap (·.2)).Nodup := hn
        exact absurd (hmem _ _ k) (List.nodup_cons.1 hn2).1
      · exact ih hn' d d' t k k'
  have injb : ∀ (l : List (Nat × Nat)), (l.map (·.2)).Nodup → ∀ d d' t, (d, t) ∈ l → (d', t) ∈ l → d = d' := by
    intro l
    induction l with
    | nil => intro _ d d' t h; cases h
    | cons q l ih =>
      intro hn d d' t h h'
      rw [List.map_cons, List.nodup_cons] at hn
      rcases List.mem_cons.1 h with k | k <;> rcases List.mem_cons.1 h' with k' | k'
      · rw [← k'] at k; simp only [Prod.mk.injEq] at k; exact k.1
      · subst k; exact absurd (List.mem_map.2 ⟨_, k', rfl⟩) hn.1
      · subst k'; exact absurd (List.mem_map.2 ⟨_, k, rfl⟩) hn.1
      · exact ih hn.2 d d' t k k'
  have hFz : ∀ b, Fz st G w b → Fz (mkSt l x') G' w b := fun b hb => ⟨hb.1, fun k hm => by
    rcases own k b hm with ⟨d, t, _, _, h⟩ | ⟨d, c, _, _, h⟩
    · exact hb.2.1 _ h
    · exact hb.2.1 _ h, hb.2.2⟩
  obtain ⟨V1, V2⟩ := extL_vals (G' := G') I hFz l he hin hM
  refine ⟨G', { rt := fun k g h e ll hr => ?_, sc := fun i => ?_, bx := fun k g T u hr => ?_, nd := fun k => ?_, dj := fun k k' b h1 h2 => ?_, lt := fun k b hb => ?_, os := I.os, tape := I.tape, output := I.output, size := I.size, block := I.block, s0 := I.s0, m0 := I.m0, sl := fun i v hv => ?_, df := I.df, sz := I.sz, pa := I.pa }, hM.rsm⟩
  · obtain ⟨d, o, rfl, k1, k2, k3⟩ := hroot _ _ _ _ _ hr
    cases o with
    | none =>
      rw [hM.rsz d k1, hblz d k1]
      exact .inl ⟨rfl, k3 rfl, rfl⟩
    | some t =>
      rw [hM.rsm d t k1, hbl d t k1]
      obtain ⟨g', h', k4⟩ := k2 t rfl
      exact I.rt _ _ _ _ _ k4
  · rcases hout (sk i) with h | ⟨q, hq, e⟩
    · exact .inr h
    · left
      have h1 := hin q hq
      rw [e] at h1
      rcases K.ents q hq with ⟨j, _, v, e'⟩ | ⟨j, _, hE⟩
      · exact ⟨v, by rw [h1, e']⟩
      · obtain ⟨d, _, _, h3⟩ := entK_rng hE
        rw [e] at h3
        unfold sk rk bk at h3; omega
  · exact V2 k g T u (hent k _ hr (by simp))
  · unfold ownB
    split
    · rename_i g h e ll hr
      obtain ⟨d, o, rfl, k1, k2, k3⟩ := hroot _ _ _ _ _ hr
      cases o with
      | none => rw [hblz d k1]; exact List.nodup_nil
      | some t =>
        rw [hbl d t k1]
        have := I.nd (rk t)
        rwa [root_own (let ⟨g', h', k4⟩ := k2 t rfl; ⟨g', h', _, _, k4⟩)] at this
    · simp
    · exact List.nodup_nil
  · rcases own k b h1 with ⟨d, t, rfl, k1, k2⟩ | ⟨d, c, rfl, k1, k2⟩ <;> rcases own k' b h2 with ⟨d', t', rfl, j1, j2⟩ | ⟨d', c', rfl, j1, j2⟩
    · have := rk_inj (I.dj _ _ _ k2 j2)
      subst this
      rw [injr rs hrn d d' t k1 j1]
    · exact absurd (I.dj _ _ _ k2 j2) (rk_ne_bk _ _)
    · exact absurd (I.dj _ _ _ k2 j2).symm (rk_ne_bk _ _)
    · have := bk_inj (I.dj _ _ _ k2 j2)
      subst this
      rw [injb bs hbn d d' c k1 j1]
  · rcases own k b hb with ⟨d, t, _, _, h⟩ | ⟨d, c, _, _, h⟩
    · exact I.lt _ _ h
    · exact I.lt _ _ h
  · exact V1 i v (hent _ _ hv (by simp))
theorem cut0_ok {l : Lv} {x : den l.ty} (h : cut0 l st = some x) (I : Inv C st a w G) : ∃ G', Inv C (mkSt l x) a w G' := by
  unfold cut0 at h
  split at h
  case h_2 => cases h
  rename_i x' rs bs he
  cases hb : (nodupB (rs.filterMap (·.2)) && nodupB (bs.map (·.2)) && nodupB (l.map (·.1)))
  · rw [hb] at h; cases h
  rw [hb] at h
  simp only [cond_true, Option.some.injEq] at h
  subst h
  simp only [Bool.and_eq_true, nodupB_iff] at hb
  obtain ⟨⟨hrn, hbn⟩, hln⟩ := hb
  obtain ⟨G', I', _⟩ := cut1_ok he hrn hbn hln I
  exact ⟨G', I'⟩
def SlotV (P : Program) (a : Act) (w : World) (S : Nat → Prop) (q : Nat × Cell) : Prop := ∃ (i : Nat) (T : Ty) (x : den T) (c : List Value), q = (sk i, .sv (.val T x)) ∧ a.tmps.getD i undef = valOf T c ∧ RX P T false w S c x
theorem reslots : ∀ (u : U) {st : St}, Inv C st a w G → (∀ q ∈ u, SlotV C.P a w (Fz st G w) q) → Inv C (upds st u) a w G
  | [], st, I, _ => I
  | q :: u, st, I, h => by
    obtain ⟨i, T, x, c, rfl, h2, h3⟩ := h q List.mem_cons_self
    have hs := upd_slotStep I.toInvM i (.sv (.val T x)) (.inl ⟨_, rfl⟩)
    have I' : Inv C (upd st (sk i) (.sv (.val T x))) a w G := by
      refine { toInvM := hs.invM I.toInvM, sl := fun j v hv => ?_, df := I.df, sz := I.sz, pa := I.pa }
      by_cases hj : j = i
      · subst hj
        rw [upd_same] at hv; injection hv with hv; subst hv
        refine hs.sw I.toInvM ⟨c, h2, h3⟩
      · rw [upd_ne _ _ (fun e => hj (sk_inj e))] at hv
        exact hs.sw I.toInvM (I.sl j v hv)
    exact reslots u I' fun q hq => by rw [hs.fz I.toInvM]; exact h q (List.mem_cons_of_mem _ hq)
theorem frzL_ok (I : Inv C st a w G) {S : Nat → Prop} (hS : ∀ b, Fz st G w b → S b) (hSl : ∀ b, S b → b < w.heap.size) : ∀ (l : Lv) {u : U} {ts : List (Nat × Nat)}, frzL st l = some (u, ts) → (∀ p ∈ ts, RT st p) ∧ ((∀ p ∈ ts, ∀ b ∈ G.bl (rk p.1), S b) → ∀ q ∈ u, SlotV C.P a w S q)
  | [], u, ts, h => by cases h; exact ⟨fun p hp => (by cases hp), fun _ q hq => (by cases hq)⟩
  | (i, sh) :: l, u, ts, h => by
    unfold frzL at h
    split at h
    · rename_i T v hv
      cases hb : isV v
      · rw [hb] at h
        simp only [cond_false] at h
        split at h
        case h_2 => cases h
        rename_i x ts1 h1
        split at h
        case h_2 => cases h
        rename_i u2 ts2 h2
        cases h
        obtain ⟨c, hc1, hc2⟩ := SW_cells (I.sl i v hv) (fun b e => by subst e; cases T <;> cases h1)
        obtain ⟨k1, k2, k3⟩ := frz_run I.toInvM hS hSl 8 T v h1 hc2
        obtain ⟨j1, j2⟩ := frzL_ok I hS hSl l h2
        refine ⟨fun p hp => (List.mem_append.1 hp).elim (k1 p) (j1 p), fun hb q hq => ?_⟩
        rcases List.mem_cons.1 hq with hq | hq
        · exact ⟨i, T, x, c, hq, by rw [hc1, k3], k2 fun p hp => hb p (List.mem_append_left _ hp)⟩
        · exact j2 (fun p hp => hb p (List.mem_append_right _ hp)) q hq
      · rw [hb] at h
        exact frzL_ok I hS hSl l h
    · exact frzL_ok I hS hSl l h
theorem frz_inv {l : Lv} {u : U} {ts : List (Nat × Nat)} (hf : frzL st l = some (u, ts)) (I : Inv C st a w G) : Inv C (upds (upds st (goneU ts)) u) a w G := by
  have hRT := (frzL_ok I (S := Fz st G w) (fun _ h => h) (fun _ h => h.1) l hf).1
  have I1 := gone_inv I hRT
  have sub : ∀ k b, b ∈ ownB (upds st (goneU ts)) G k → b ∈ ownB st G k ∧ ∀ p ∈ ts, k ≠ rk p.1 := fun k b hb => by
    have hne : ∀ p ∈ ts, k ≠ rk p.1 := fun p hp e => by
      subst e
      unfold ownB at hb; rw [gone_at hRT hp] at hb; cases hb
    refine ⟨?_, hne⟩
    unfold ownB at hb ⊢
    rw [goneU_out fun p hp e => hne p hp e.symm] at hb
    exact hb
  have hS1 : ∀ b, Fz st G w b → Fz (upds st (goneU ts)) G w b := fun b hb => ⟨hb.1, fun k hk => hb.2.1 k (sub k b hk).1, hb.2.2⟩
  have hS2 : ∀ p ∈ ts, ∀ b ∈ G.bl (rk p.1), Fz (upds st (goneU ts)) G w b := fun p hp b hb => by
    have ho : b ∈ ownB st G (rk p.1) := by rw [own_of_RT (hRT p hp)]; exact hb
    refine ⟨(I.lt _ _ ho).1, fun k hk => ?_, I.m0 _ (I.lt _ _ ho).2⟩
    obtain ⟨h1, h2⟩ := sub k b hk
    exact h2 p hp (I.dj _ _ _ h1 ho)
  exact reslots u I1 ((frzL_ok I hS1 (fun _ h => h.1) l hf).2 hS2)
theorem cut_ok {l : Lv} {x : den l.ty} (h : cutTo l st = some x) (I : Inv C st a w G) : ∃ G', Inv C (mkSt l x) a w G' := by
  unfold cutTo at h
  split at h
  case h_2 => cases h
  rename_i u ts hf
  exact cut0_ok h (frz_inv hf I)
theorem lookup_some {β : Type} : ∀ (l : List (Nat × β)) {d : Nat} {o : β}, l.lookup d = some o → (d, o) ∈ l
  | [], _, _, h => by cases h
  | (k, v) :: l, d, o, h => by
    rw [List.lookup_cons] at h
    cases hk : d == k
    · rw [hk] at h; exact List.mem_cons_of_mem _ (lookup_some l h)
    · rw [hk] at h; cases h
      have : d = k := by simpa using hk
      rw [this]; exact List.mem_cons_self
/-- Slots that lead to roots. -/
theorem alslots : ∀ (al : Al) {st : St}, Inv C st a w G → (∀ p ∈ al, (∃ g h l, st (rk p.2.1) = .root g h p.2.2 l) ∧ a.tmps.getD p.1 undef = G.hd (rk p.2.1) ∧ (G.hd (rk p.2.1)).oneCell' = true) → Inv C (upds st (alU al)) a w G
  | [], st, I, _ => I
  | p :: al, st, I, h => by
    obtain ⟨⟨g, hh, ll, h1⟩, h2, h3⟩ := h p List.mem_cons_self
    have hs := upd_slotStep I.toInvM p.1 (.sv (.ref p.2.1 0 p.2.2)) (.inl ⟨_, rfl⟩)
    have I' : Inv C (upd st (sk p.1) (.sv (.ref p.2.1 0 p.2.2))) a w G := by
      refine { toInvM := hs.invM I.toInvM, sl := fun j v hv => ?_, df := I.df, sz := I.sz, pa := I.pa }
      by_cases hj : j = p.1
      · subst hj
        rw [upd_same] at hv; injection hv with hv; subst hv
        refine hs.sw I.toInvM ⟨[G.hd (rk p.2.1)], h2, G.hd (rk p.2.1), rfl, h3, Nat.zero_le _, fun h' e' l' hr => ?_⟩
        rw [h1] at hr; cases hr; exact ⟨rfl, rfl⟩
      · rw [upd_ne _ _ (fun e => hj (sk_inj e))] at hv
        exact hs.sw I.toInvM (I.sl j v hv)
    refine alslots al I' fun q hq => ?_
    obtain ⟨⟨g', hh', ll', k1⟩, k2, k3⟩ := h q (List.mem_cons_of_mem _ hq)
    exact ⟨⟨g', hh', ll', by rw [upd_ne _ _ (sk_ne_rk _ _).symm]; exact k1⟩, k2, k3⟩
theorem cutA_ok {l : Lv} {al : Al} {x : den l.ty} (h : cutA l al st = some x) (I : Inv C st a w G) : ∃ G', Inv C (mkStA l al x) a w G' := by
  unfold cutA at h
  split at h
  case h_2 => cases h
  rename_i u ts hf
  have I2 := frz_inv hf I
  split at h
  case h_2 => cases h
  rename_i x' rs bs he
  cases hb : (nodupB (rs.filterMap (·.2)) && nodupB (bs.map (·.2)) && nodupB (l.map (·.1)) && al.all (alOk (upds (upds st (goneU ts)) u) rs (mkSt l x')))
  · rw [hb] at h; cases h
  rw [hb] at h
  simp only [cond_true, Option.some.injEq] at h
  subst h
  simp only [Bool.and_eq_true, nodupB_iff, List.all_eq_true] at hb
  obtain ⟨⟨⟨hrn, hbn⟩, hln⟩, hal⟩ := hb
  obtain ⟨G', I', hM⟩ := cut1_ok he hrn hbn hln I2
  refine ⟨G', alslots al I' fun p hp => ?_⟩
  have hk := hal p hp
  unfold alOk at hk
  split at hk
  case h_2 => cases hk
  rename_i t g e0 hs
  split at hk
  case h_2 => cases hk
  rename_i g' h0 e0' l0 g1 h1 e1 l1 t' hr hr1 hlk
  simp only [Bool.and_eq_true, Nat.beq_eq_true_eq, decide_eq_true_eq, Nat.beq_eq] at hk
  obtain ⟨⟨⟨k1, k2⟩, k3⟩, k4⟩ := hk
  subst k1; subst k2; subst k3; subst k4
  obtain ⟨c, c1, v, c2, c3, c4, c5⟩ := I2.sl p.1 _ hs
  have hv := (c5 _ _ _ hr).1
  have hm : (p.2.1, some t) ∈ rs := lookup_some rs hlk
  have he : G'.hd (rk p.2.1) = v := by rw [hM _ _ hm, hv]
  refine ⟨⟨_, _, _, hr1⟩, ?_, by rw [he]; exact c3⟩
  rw [c1, c2, he]; rfl
end
end Go.Proofs.Ytckkagmccbkfbaa.E
namespace Go.Proofs.Ytckkagmccbkfbaa.E
open Go Go.RowKit
set_option linter.unusedVariables false
set_option linter.unusedSimpArgs false
/-- A loop that goes down in steps of a number. -/
theorem wp_loop_ix {P : Program} {Q : Exit → Act → World → Prop} {c : Code} (I : Nat → Act → World → Prop) (round : ∀ n a w, I n a w → c.wp P (Exit.then (fun a' w' => ∃ m, m < n ∧ I m a' w') Q) a w) {n : Nat} {a : Act} {w : World} (h₀ : I n a w) : (Code.loop c).wp P Q a w := by
  intro b k cs
  have key : ∀ n a w, I n a w → ∃ e a' w', Q e a' w' ∧ Arrives P (lone (b.at a (.code c :: .inLoop c :: k)) cs w) b k cs e a' w' := by
    intro n
    induction n using Nat.strongRecOn with
    | _ n ih =>
      intro a w hI
      obtain ⟨e, a₁, w₁, hq, harr⟩ := round n a w hI b (.inLoop c :: k) cs
      cases e with
      | normal =>
        obtain ⟨m, hlt, hI₁⟩ := hq
        obtain ⟨e₂, a₂, w₂, hq₂, harr₂⟩ := ih m hlt a₁ w₁ hI₁
        exact ⟨e₂, a₂, w₂, hq₂, .of_steps (Steps.trans harr (.one step_inLoop)) harr₂⟩
      | exit id => exact ⟨_, a₁, w₁, hq, .pass (x := .inLoop c) rfl (fun _ _ => .inl (by simp)) harr⟩
      | goto l => exact ⟨_, a₁, w₁, hq, .pass (x := .inLoop c) rfl (fun _ _ => .inl (by simp)) harr⟩
      | ret => exact ⟨_, a₁, w₁, hq, .pass (x := .inLoop c) rfl (fun _ _ => .inl (by simp)) harr⟩
      | panic ch => exact ⟨_, a₁, w₁, hq, .pass (x := .inLoop c) rfl (fun _ _ => .inl (by simp)) harr⟩
      | outgrown => exact ⟨_, a₁, w₁, hq, .pass (x := .inLoop c) rfl (fun _ _ => .inl (by simp)) harr⟩
  obtain ⟨e, a', w', hq, harr⟩ := key n a w h₀
  exact ⟨e, a', w', hq, .of_steps (.one step_loop) harr⟩
/-- A loop's plain function is what the loop does. -/
def LpS (C : Cx) {R : Type} (f : LoopS R) (c : Code) : Prop := ∀ (r : R) (st : St) (kx : Nat → St → Option R) (kr : St → Option R) (a : Act) (w : World) (G : Gh) (Q : Exit → Act → World → Prop), f st kx kr = some r → Inv C st a w G →
  (∀ i st' a' w' G', kx i st' = some r → Inv C st' a' w' G' → Q (.exit i) a' w') → (∀ st' a' w' G', kr st' = some r → Inv C st' a' w' G' → Q .ret a' w') → (Code.loop c).wp C.P Q a w
def SgS (C : Cx) {R : Type} (J : SegS R) (c : Code) : Prop := ∀ (r : R) (st : St) (kn : St → Option R) (kx : Nat → St → Option R) (kr : St → Option R) (a : Act) (w : World) (G : Gh) (Q : Exit → Act → World → Prop), J st kn kx kr = some r → Inv C st a w G →
  (∀ st' a' w' G', kn st' = some r → Inv C st' a' w' G' → Q .normal a' w') → (∀ i st' a' w' G', kx i st' = some r → Inv C st' a' w' G' → Q (.exit i) a' w') → (∀ st' a' w' G', kr st' = some r → Inv C st' a' w' G' → Q .ret a' w') → c.wp C.P Q a w
def LpOk (C : Cx) {R : Type} (en : Env R) : Code → Prop
  | .seq x y => LpOk C en x ∧ (∀ J, en.S (rid y) = some J → SgS C J y) ∧ (en.S (rid y) = none → LpOk C en y)
  | .cond _ x y => LpOk C en x ∧ LpOk C en y
  | .block _ c => LpOk C en c
  | .loop c => ∀ f, en.L (rid c) = some f → LpS C f c
  | _ => True
theorem evC_sound {C : Cx} {cf : Cfg} {R : Type} {en : Env R} (O : CfgOk C cf) (hmix : C.P.follows .mixedOrders = true) {r : R} : ∀ (c : Code) {st : St} {kn : St → Option R} {kx : Nat → St → Option R} {kr : St → Option R} {a : Act} {w : World} {G : Gh} {Q : Exit → Act → World → Prop},
    LpOk C en c → evC cf en c st kn kx kr = some r → Inv C st a w G → (∀ st' a' w' G', kn st' = some r → Inv C st' a' w' G' → Q .normal a' w') → (∀ i st' a' w' G', kx i st' = some r → Inv C st' a' w' G' → Q (.exit i) a' w') →
    (∀ st' a' w' G', kr st' = some r → Inv C st' a' w' G' → Q .ret a' w') → c.wp C.P Q a w
  | .skip, st, kn, kx, kr, a, w, G, Q, hl, h, I, hn, hx, hr => wp_skip (hn _ _ _ _ h I)
  | .region id ops draw, st, kn, kx, kr, a, w, G, Q, hl, h, I, hn, hx, hr => evR_sound O hmix h I hn
  | .seq x y, st, kn, kx, kr, a, w, G, Q, hl, h, I, hn, hx, hr => by
    simp only [evC] at h
    split at h
    · rename_i J hJ
      exact wp_seq (evC_sound O hmix x hl.1 h I (fun st' a' w' G' h' I' => hl.2.1 J hJ r st' kn kx kr a' w' G' Q h' I' hn hx hr) hx hr)
    · rename_i hJ
      exact wp_seq (evC_sound O hmix x hl.1 h I (fun st' a' w' G' h' I' => evC_sound O hmix y (hl.2.2 hJ) h' I' hn hx hr) hx hr)
  | .cond c x y, st, kn, kx, kr, a, w, G, Q, hl, h, I, hn, hx, hr => by
    simp only [evC] at h
    split at h
    · rename_i t
      split at h
      case h_2 => cases h
      rename_i b hv
      have hc : a.eval (.tmp t) = .bool b := SW_bool (I.sl t _ hv)
      refine wp_cond_split hc (fun e => ?_) (fun e => ?_)
      · subst e
        rw [if_pos rfl] at h
        exact evC_sound O hmix x hl.1 h I hn hx hr
      · subst e
        rw [if_neg (by simp)] at h
        exact evC_sound O hmix y hl.2 h I hn hx hr
    · rename_i b
      have hc : a.eval (.const (.bool b)) = .bool b := rfl
      refine wp_cond_split hc (fun e => ?_) (fun e => ?_)
      · subst e
        rw [if_pos rfl] at h
        exact evC_sound O hmix x hl.1 h I hn hx hr
      · subst e
        rw [if_neg (by simp)] at h
        exact evC_sound O hmix y hl.2 h I hn hx hr
    · cases h
  | .block id c, st, kn, kx, kr, a, w, G, Q, hl, h, I, hn, hx, hr => by
    refine wp_block (evC_sound O hmix c hl h I hn (fun i st' a' w' G' h' I' => ?_) hr)
    show if i = id then Q .normal a' w' else Q (.exit i) a' w'
    by_cases e : i = id
    · subst e
      rw [Nat.beq_refl] at h'
      rw [if_pos rfl]; exact hn _ _ _ _ h' I'
    · have : Nat.beq i id = false := by
        cases hb : Nat.beq i id
        · rfl
        · exact absurd (Nat.eq_of_beq_eq_true hb) e
      rw [this] at h'
      rw [if_neg e]; exact hx _ _ _ _ _ h' I'
  | .loop c, st, kn, kx, kr, a, w, G, Q, hl, h, I, hn, hx, hr => by
    simp only [evC] at h
    split at h
    · rename_i f hf
      exact hl f hf r st kx kr a w G Q h I hx hr
    · cases h
  | .exit id, st, kn, kx, kr, a, w, G, Q, hl, h, I, hn, hx, hr => by
    simp only [evC] at h
    split at h
    · rename_i l _
      split at h
      · rename_i x hc
        obtain ⟨G', I'⟩ := cut_ok hc I
        exact wp_exit (hx _ _ _ _ _ h I')
      · cases h
    · exact wp_exit (hx _ _ _ _ _ h I)
  | .ret, st, kn, kx, kr, a, w, G, Q, hl, h, I, hn, hx, hr => by
    simp only [evC] at h
    split at h
    · rename_i x hc
      obtain ⟨G', I'⟩ := cut_ok hc I
      exact wp_ret (hr _ _ _ _ h I')
    · cases h
  | .goto _, st, kn, kx, kr, a, w, G, Q, hl, h, I, hn, hx, hr => by simp [evC] at h
  | .label _, st, kn, kx, kr, a, w, G, Q, hl, h, I, hn, hx, hr => by simp [evC] at h
  | .rangeFunc _ _ _ _, st, kn, kx, kr, a, w, G, Q, hl, h, I, hn, hx, hr => by simp [evC] at h
  | .scope _, st, kn, kx, kr, a, w, G, Q, hl, h, I, hn, hx, hr => by simp [evC] at h
/-- The loop's own theorem: its plain function, by fuel, against one round of the evaluator. -/
theorem loop_sound {C : Cx} {cf : Cfg} {R : Type} (O : CfgOk C cf) (hmix : C.P.follows .mixedOrders = true) {lv : Lv} {f : Nat → den lv.ty → (Nat → St → Option R) → (St → Option R) → Option R} {en : Nat → Env R} {c : Code}
    (h0 : ∀ x kx kr, f 0 x kx kr = none) (hs : ∀ k x kx kr, f (k + 1) x kx kr = evC cf (en k) c (mkSt lv x) (fun s => mkLoop lv (f k) s kx kr) kx kr) (hl : ∀ k, LpOk C (en k) c) (k : Nat) : LpS C (mkLoop lv (f k)) c := by
  intro r st kx kr a w G Q h I hx hr
  have one : ∀ k st a w G, mkLoop lv (f k) st kx kr = some r → Inv C st a w G → ∃ x G', f k x kx kr = some r ∧ Inv C (mkSt lv x) a w G' := fun k st a w G h I => by
    unfold mkLoop at h
    split at h
    · rename_i x hc
      obtain ⟨G', I'⟩ := cut_ok hc I
      exact ⟨x, G', h, I'⟩
    · cases h
  obtain ⟨x, G', h', I'⟩ := one k st a w G h I
  refine wp_loop_ix (fun n a w => ∃ x G, f n x kx kr = some r ∧ Inv C (mkSt lv x) a w G) (fun n a w hI => ?_) (n := k) ⟨x, G', h', I'⟩
  obtain ⟨x, G, h, I⟩ := hI
  cases n with
  | zero => rw [h0] at h; cases h
  | succ n =>
    rw [hs] at h
    exact evC_sound O hmix c (hl n) h I (fun st' a' w' G' h1 I1 => by
      obtain ⟨y, G2, h2, I2⟩ := one n st' a' w' G' h1 I1
      exact ⟨n, Nat.lt_succ_self n, y, G2, h2, I2⟩) hx hr
/-- The same where slots share roots: the loop's plain function, by fuel, against one round of the evaluator. -/
theorem loopA_sound {C : Cx} {cf : Cfg} {R : Type} (O : CfgOk C cf) (hmix : C.P.follows .mixedOrders = true) {lv : Lv} {al : Al} {f : Nat → den lv.ty → (Nat → St → Option R) → (St → Option R) → Option R} {en : Nat → Env R} {c : Code}
    (h0 : ∀ x kx kr, f 0 x kx kr = none) (hs : ∀ k x kx kr, f (k + 1) x kx kr = evC cf (en k) c (mkStA lv al x) (fun s => mkLoopA lv al (f k) s kx kr) kx kr) (hl : ∀ k, LpOk C (en k) c) (k : Nat) : LpS C (mkLoopA lv al (f k)) c := by
  intro r st kx kr a w G Q h I hx hr
  have one : ∀ k st a w G, mkLoopA lv al (f k) st kx kr = some r → Inv C st a w G → ∃ x G', f k x kx kr = some r ∧ Inv C (mkStA lv al x) a w G' := fun k st a w G h I => by
    unfold mkLoopA at h
    split at h
    · rename_i x hc
      obtain ⟨G', I'⟩ := cutA_ok hc I
      exact ⟨x, G', h, I'⟩
    · cases h
  obtain ⟨x, G', h', I'⟩ := one k st a w G h I
  refine wp_loop_ix (fun n a w => ∃ x G, f n x kx kr = some r ∧ Inv C (mkStA lv al x) a w G) (fun n a w hI => ?_) (n := k) ⟨x, G', h', I'⟩
  obtain ⟨x, G, h, I⟩ := hI
  cases n with
  | zero => rw [h0] at h; cases h
  | succ n =>
    rw [hs] at h
    exact evC_sound O hmix c (hl n) h I (fun st' a' w' G' h1 I1 => by
      obtain ⟨y, G2, h2, I2⟩ := one n st' a' w' G' h1 I1
      exact ⟨n, Nat.lt_succ_self n, y, G2, h2, I2⟩) hx hr
/-- A segment's own theorem. -/
theorem seg_sound {C : Cx} {cf : Cfg} {R : Type} (O : CfgOk C cf) (hmix : C.P.follows .mixedOrders = true) {l ln : Lv} {f : den l.ty → (den ln.ty → Option R) → (Nat → St → Option R) → (St → Option R) → Option R} {en : Env R} {c : Code}
    (hs : ∀ x kn kx kr, f x kn kx kr = evC cf en c (mkSt l x) (cutK ln kn) kx kr) (hl : LpOk C en c) : SgS C (mkSeg l ln f) c := by
  intro r st kn kx kr a w G Q h I hn hx hr
  unfold mkSeg at h
  split at h
  case h_2 => cases h
  rename_i x hc
  obtain ⟨G', I'⟩ := cut_ok hc I
  rw [hs] at h
  refine evC_sound O hmix c hl h I' (fun st' a' w' G2 h' I2 => ?_) hx hr
  unfold cutK at h'
  split at h'
  case h_2 => cases h'
  rename_i y hy
  obtain ⟨G3, I3⟩ := cut_ok hy I2
  exact hn _ _ _ _ h' I3
end Go.Proofs.Ytckkagmccbkfbaa.E
namespace Go.Proofs.Ytckkagmccbkfbaa.E
open Go Go.RowKit
set_option linter.unusedVariables false
set_option linter.unusedSimpArgs false
section
variable {P : Program} {w : World}
structure EntOk (P : Program) (w : World) (S : Nat → Prop) (A : Ty) (i : Nat) (U0 : U) (vals : List Value) (bs : List Nat) (hd : Nat → Value) (bl : Nat → List Nat) : Prop where
  ents : ∀ p ∈ U0, (∃ j v, i ≤ j ∧ j < i + A.len ∧ p = (sk j, Cell.sv v)) ∨ (∃ id e l, 8 * i ≤ id ∧ id < 8 * (i + A.len) ∧ p = (rk id, Cell.root 0 0 e l) ∧ TC (.sl e) w [hd id] l (bl id))
  keys : (U0.map (·.1)).Nodup
  bls : ∀ id e l, (rk id, Cell.root 0 0 e l) ∈ U0 → (∀ b ∈ bl id, b ∈ bs) ∧ (bs.Nodup → (bl id).Nodup)
  dj : bs.Nodup → ∀ id e l id' e' l', (rk id, Cell.root 0 0 e l) ∈ U0 → (rk id', Cell.root 0 0 e' l') ∈ U0 → ∀ b, b ∈ bl id → b ∈ bl id' → id = id'
  vl : ∀ j v, (sk j, Cell.sv v) ∈ U0 → ∀ (st' : St) (G' : Gh) (S' : Nat → Prop), (∀ p ∈ U0, st' p.1 = p.2) → (∀ id, 8 * i ≤ id → id < 8 * (i + A.len) → G'.hd (rk id) = hd id) → (∀ b, S b → S' b) → (∀ b, S' b → b < w.heap.size) → SW P st' G' w S' v (vals.getD (j - i) undef)
  len : vals.length = A.len
theorem bl_nodup {bl : Nat → List Nat} : ∀ (l : List Nat), l.Nodup → ((l.map bl).flatten).Nodup → (∀ i ∈ l, (bl i).Nodup) ∧ (∀ i ∈ l, ∀ j ∈ l, ∀ b, b ∈ bl i → b ∈ bl j → i = j)
  | [], _, _ => ⟨fun i hi => (by cases hi), fun i hi => (by cases hi)⟩
  | x :: l, hn, hf => by
    simp only [List.nodup_cons] at hn
    rw [List.map_cons, List.flatten_cons, List.nodup_append] at hf
    obtain ⟨h1, h2⟩ := bl_nodup l hn.2 hf.2.1
    have hx : ∀ j ∈ l, ∀ b, b ∈ bl x → b ∈ bl j → False := fun j hj b hb hb' => hf.2.2 b hb b (List.mem_flatten.2 ⟨bl j, List.mem_map.2 ⟨j, hj, rfl⟩, hb'⟩) rfl
    refine ⟨fun i hi => ?_, fun i hi j hj b hb hb' => ?_⟩
    · rcases List.mem_cons.1 hi with rfl | hi
      · exact hf.1
      · exact h1 i hi
    · rcases List.mem_cons.1 hi with e1 | hi' <;> rcases List.mem_cons.1 hj with e2 | hj'
      · rw [e1, e2]
      · exact (hx j hj' b (e1 ▸ hb) hb').elim
      · exact (hx i hi' b (e2 ▸ hb') hb).elim
      · exact h2 i hi' j hj' b hb hb'
/-- One parameter. -/
theorem ent_one {S : Nat → Prop} {A : Ty} {m : Bool} {c : List Value} {x : den A} {b1 : List Nat} (i : Nat) (h : if m = true then TC A w c x b1 else b1 = [] ∧ RX P A false w S c x) (hok : (!m || (A.ownable && Nat.ble (nroots A) 8 && !A.isTup && !A.isPU)) = true) :
    ∃ hd bl, EntOk P w S (.pair A .unit) i (bif m then (let p := own A x (8 * i) (fun _ => 0); (sk i, .sv p.1) :: p.2.1) else [(sk i, .sv (.val A x))]) [valOf A c] b1 hd bl := by
  cases m with
  | false =>
    simp only [Bool.false_eq_true, if_false] at h
    obtain ⟨rfl, h⟩ := h
    refine ⟨fun _ => undef, fun _ => [], ⟨fun p hp => ?_, by simp, fun id e l hm => ?_, fun _ id e l id' e' l' hm => ?_, fun j v hv st' G' S' h1 h2 h3 h4 => ?_, rfl⟩⟩
    · simp only [cond_false, List.mem_singleton] at hp
      exact .inl ⟨i, _, Nat.le_refl _, by simp [Ty.len], hp⟩
    · simp at hm
    · simp at hm
    · simp only [cond_false, List.mem_singleton, Prod.mk.injEq, Cell.sv.injEq] at hv
      obtain ⟨e, rfl⟩ := hv
      have e := sk_inj e
      subst e
      rw [Nat.sub_self]
      exact ⟨c, rfl, RX_congr P A false (Nat.le_refl _) (fun b hb _ => ⟨h3 b hb, rfl⟩) h4 h⟩
  | true =>
    simp only [if_true] at h
    simp only [Bool.not_true, Bool.false_or, Bool.and_eq_true, Bool.not_eq_true'] at hok
    obtain ⟨⟨⟨h1, h2⟩, h3⟩, h4⟩ := hok
    have h2 : nroots A ≤ 8 := Nat.le_of_ble_eq_true h2
    obtain ⟨hd, bl, Q⟩ := own_ok (P := P) (w' := w) (gn := fun _ => 0) A false x c b1 (8 * i) h h1
    have hq5 := Q.p5
    have hqk : ((own A x (8 * i) (fun _ => 0)).2.1.map (·.1)).Nodup := by
      rw [Q.p3]
      exact List.pairwise_map.2 (List.Pairwise.imp (fun h e => h (rk_inj e)) (List.nodup_range' (s := 8 * i) (n := (own A x (8 * i) (fun _ => 0)).2.2 - 8 * i)))
    have hid : ∀ id e l, (rk id, Cell.root 0 0 e l) ∈ (own A x (8 * i) (fun _ => 0)).2.1 → id ∈ List.range' (8 * i) ((own A x (8 * i) (fun _ => 0)).2.2 - 8 * i) := fun id e l hm => by
      obtain ⟨id', e', l', k1, k2, k3, _⟩ := Q.p1 _ hm
      simp only [Prod.mk.injEq] at k3
      have := rk_inj k3.1
      subst this
      exact List.mem_range'_1.2 (by omega)
    have hmem : ∀ p, p ∈ (sk i, Cell.sv (own A x (8 * i) (fun _ => 0)).1) :: (own A x (8 * i) (fun _ => 0)).2.1 → p = (sk i, Cell.sv (own A x (8 * i) (fun _ => 0)).1) ∨ p ∈ (own A x (8 * i) (fun _ => 0)).2.1 := fun p hp => List.mem_cons.1 hp
    refine ⟨hd, bl, ⟨fun p hp => ?_, ?_, fun id e l hm => ?_, fun hn id e l id' e' l' hm hm' b hb hb' => ?_, fun j v hv st' G' S' k1 k2 k3 k4 => ?_, rfl⟩⟩
    · rcases hmem p hp with hp | hp
      · exact .inl ⟨i, _, Nat.le_refl _, by simp [Ty.len], hp⟩
      · obtain ⟨id, e, l, k1, k2, k3, k4⟩ := Q.p1 p hp
        exact .inr ⟨id, e, l, k1, by simp only [Ty.len]; omega, k3, k4⟩
    · show (((sk i, Cell.sv (own A x (8 * i) (fun _ => 0)).1) :: (own A x (8 * i) (fun _ => 0)).2.1).map (·.1)).Nodup
      rw [List.map_cons, List.nodup_cons]
      refine ⟨fun hm => ?_, hqk⟩
      obtain ⟨p, hp, e⟩ := List.mem_map.1 hm
      obtain ⟨id, e', l, _, _, k3, _⟩ := Q.p1 p hp
      rw [k3] at e
      exact sk_ne_rk _ _ e.symm
    · rcases hmem _ hm with hm | hm
      · simp at hm
      · have hi := hid id e l hm
        refine ⟨fun b hb => by rw [Q.p2]; exact List.mem_flatten.2 ⟨bl id, List.mem_map.2 ⟨id, hi, rfl⟩, hb⟩, fun hn => ?_⟩
        rw [Q.p2] at hn
        exact (bl_nodup _ List.nodup_range' hn).1 id hi
    · rcases hmem _ hm with hm | hm
      · simp at hm
      · rcases hmem _ hm' with hm' | hm'
        · simp at hm'
        · rw [Q.p2] at hn
          exact (bl_nodup _ List.nodup_range' hn).2 id (hid id e l hm) id' (hid id' e' l' hm') b hb hb'
    · rcases hmem _ hv with hv | hv
      · simp only [Prod.mk.injEq, Cell.sv.injEq] at hv
        obtain ⟨e, rfl⟩ := hv
        have e := sk_inj e
        subst e
        rw [Nat.sub_self]
        show SW P st' G' w S' _ (valOf A c)
        rw [← Q.p6 rfl]
        exact SW_of (Q.p4 st' G' S' (fun p hp => k1 p (List.mem_cons_of_mem _ hp)) (fun id j1 j2 => k2 id j1 (by simp only [Ty.len]; omega)))
      · obtain ⟨id, e', l, _, _, k3, _⟩ := Q.p1 _ hv
        simp at k3
theorem ent_ok {S : Nat → Prop} : ∀ (A : Ty) (mu : List Bool) (i : Nat) {vals : List Value} {x : den A} {bs : List Nat}, AX P A mu w S vals x bs → entB A mu = true → ∃ hd bl, EntOk P w S A i (argL A mu x i) vals bs hd bl
  | .unit, mu, i, vals, x, bs, h, hok => by
    obtain ⟨rfl, rfl⟩ := h
    exact ⟨fun _ => undef, fun _ => [], ⟨fun p hp => (by cases hp), List.nodup_nil, fun id e l hm => (by cases hm), fun _ id e l id' e' l' hm => (by cases hm), fun j v hv => (by cases hv), rfl⟩⟩
  | .pair A B, mu, i, vals, x, bs, h, hok => by
    obtain ⟨c, r, b1, b2, rfl, rfl, h1, h2⟩ := h
    cases mu with
    | nil => cases hok
    | cons m mu =>
      simp only [entB, Bool.and_eq_true] at hok
      obtain ⟨hd1, bl1, E1⟩ := ent_one (P := P) (S := S) (m := m) i h1 hok.1
      obtain ⟨hd2, bl2, E2⟩ := ent_ok B mu (i + 1) h2 hok.2
      have hU : argL (.pair A B) (m :: mu) x i = (bif m then (let p := own A x.1 (8 * i) (fun _ => 0); (sk i, .sv p.1) :: p.2.1) else [(sk i, .sv (.val A x.1))]) ++ argL B mu x.2 (i + 1) := rfl
      rw [hU]
      generalize (bif m then (let p := own A x.1 (8 * i) (fun _ => 0); (sk i, Cell.sv p.1) :: p.2.1) else [(sk i, Cell.sv (.val A x.1))]) = U1 at E1
      have l1 : (Ty.pair A .unit).len = 1 := rfl
      have l2 : (Ty.pair A B).len = B.len + 1 := rfl
      have r1 : ∀ id e l, (rk id, Cell.root 0 0 e l) ∈ U1 → 8 * i ≤ id ∧ id < 8 * (i + 1) := fun id e l hm => by
        rcases E1.ents _ hm with ⟨j, v, _, _, e'⟩ | ⟨id', e', l', k1, k2, k3, _⟩
        · simp at e'
        · simp only [Prod.mk.injEq] at k3
          have := rk_inj k3.1
          rw [l1] at k2; omega
      have r2 : ∀ id e l, (rk id, Cell.root 0 0 e l) ∈ argL B mu x.2 (i + 1) → 8 * (i + 1) ≤ id ∧ id < 8 * (i + 1 + B.len) := fun id e l hm => by
        rcases E2.ents _ hm with ⟨j, v, _, _, e'⟩ | ⟨id', e', l', k1, k2, k3, _⟩
        · simp at e'
        · simp only [Prod.mk.injEq] at k3
          have := rk_inj k3.1
          omega
      refine ⟨fun id => if id < 8 * (i + 1) then hd1 id else hd2 id, fun id => if id < 8 * (i + 1) then bl1 id else bl2 id, ⟨fun p hp => ?_, ?_, fun id e l hm => ?_, fun hn id e l id' e' l' hm hm' b hb hb' => ?_, fun j v hv st' G' S' k1 k2 k3 k4 => ?_, by simp [E2.len, l2]⟩⟩
      · rcases List.mem_append.1 hp with hp | hp
        · rcases E1.ents p hp with ⟨j, v, k1, k2, k3⟩ | ⟨id, e, l, k1, k2, k3, k4⟩
          · exact .inl ⟨j, v, k1, by rw [l1] at k2; rw [l2]; omega, k3⟩
          · rw [l1] at k2
            exact .inr ⟨id, e, l, k1, by rw [l2]; omega, k3, by simp only [if_pos k2]; exact k4⟩
        · rcases E2.ents p hp with ⟨j, v, k1, k2, k3⟩ | ⟨id, e, l, k1, k2, k3, k4⟩
          · exact .inl ⟨j, v, by omega, by rw [l2]; omega, k3⟩
          · have : ¬ id < 8 * (i + 1) := by omega
            exact .inr ⟨id, e, l, by omega, by rw [l2]; omega, k3, by simp only [if_neg this]; exact k4⟩
      · rw [List.map_append]
        refine nodup_app E1.keys E2.keys fun k h1 h2 => ?_
        obtain ⟨p, hp, rfl⟩ := List.mem_map.1 h1
        obtain ⟨q, hq, e⟩ := List.mem_map.1 h2
        have e : q.1 = p.1 := e
        rcases E1.ents p hp with ⟨j, v, k1, k2, k3⟩ | ⟨id, e1, l, k1, k2, k3, k4⟩ <;> rcases E2.ents q hq with ⟨j', v', j1, j2, j3⟩ | ⟨id', e2, l', j1, j2, j3, j4⟩ <;> rw [k3, j3] at e <;> rw [l1] at k2
        · have := sk_inj e; omega
        · exact sk_ne_rk _ _ e.symm
        · exact sk_ne_rk _ _ e
        · have := rk_inj e; omega
      · rcases List.mem_append.1 hm with hm | hm
        · have := r1 id e l hm
          simp only [if_pos this.2]
          obtain ⟨k1, k2⟩ := E1.bls id e l hm
          exact ⟨fun b hb => List.mem_append_left _ (k1 b hb), fun hn => k2 (List.nodup_append.1 hn).1⟩
        · have := r2 id e l hm
          simp only [if_neg (show ¬ id < 8 * (i + 1) by omega)]
          obtain ⟨k1, k2⟩ := E2.bls id e l hm
          exact ⟨fun b hb => List.mem_append_right _ (k1 b hb), fun hn => k2 (List.nodup_append.1 hn).2.1⟩
      · rcases List.mem_append.1 hm with hm | hm <;> rcases List.mem_append.1 hm' with hm' | hm'
        · have q1 := r1 id e l hm
          have q2 := r1 id' e' l' hm'
          simp only [if_pos q1.2] at hb
          simp only [if_pos q2.2] at hb'
          exact E1.dj (List.nodup_append.1 hn).1 id e l id' e' l' hm hm' b hb hb'
        · have q1 := r1 id e l hm
          have q2 := r2 id' e' l' hm'
          simp only [if_pos q1.2] at hb
          simp only [if_neg (show ¬ id' < 8 * (i + 1) by omega)] at hb'
          exact ((List.nodup_append.1 hn).2.2 b ((E1.bls id e l hm).1 b hb) b ((E2.bls id' e' l' hm').1 b hb') rfl).elim
        · have q1 := r2 id e l hm
          have q2 := r1 id' e' l' hm'
          simp only [if_neg (show ¬ id < 8 * (i + 1) by omega)] at hb
          simp only [if_pos q2.2] at hb'
          exact ((List.nodup_append.1 hn).2.2 b ((E1.bls id' e' l' hm').1 b hb') b ((E2.bls id e l hm).1 b hb) rfl).elim
        · have q1 := r2 id e l hm
          have q2 := r2 id' e' l' hm'
          simp only [if_neg (show ¬ id < 8 * (i + 1) by omega)] at hb
          simp only [if_neg (show ¬ id' < 8 * (i + 1) by omega)] at hb'
          exact E2.dj (List.nodup_append.1 hn).2.1 id e l id' e' l' hm hm' b hb hb'
      · rcases List.mem_append.1 hv with hv | hv
        · have hj : j = i := by
            rcases E1.ents _ hv with ⟨j', v', q1, q2, q3⟩ | ⟨id, e1, l, q1, q2, q3, q4⟩
            · simp only [Prod.mk.injEq] at q3
              have := sk_inj q3.1
              rw [l1] at q2; omega
            · simp at q3
          have := E1.vl j v hv st' G' S' (fun p hp => k1 p (List.mem_append_left _ hp)) (fun id j1 j2 => by
            rw [l1] at j2
            rw [k2 id j1 (by rw [l2]; omega), if_pos j2]) k3 k4
          subst hj
          rw [Nat.sub_self] at this ⊢
          exact this
        · have hj : i + 1 ≤ j := by
            rcases E2.ents _ hv with ⟨j', v', q1, q2, q3⟩ | ⟨id, e1, l, q1, q2, q3, q4⟩
            · simp only [Prod.mk.injEq] at q3
              have := sk_inj q3.1
              omega
            · simp at q3
          have := E2.vl j v hv st' G' S' (fun p hp => k1 p (List.mem_append_right _ hp)) (fun id j1 j2 => by
            rw [k2 id (by omega) (by rw [l2]; omega), if_neg (by omega)]) k3 k4
          rw [show j - i = (j - (i + 1)) + 1 from by omega]
          simpa using this
  | .int _, _, _, _, _, _, h, _ => h.elim
  | .bool, _, _, _, _, _, h, _ => h.elim
  | .str, _, _, _, _, _, h, _ => h.elim
  | .st _, _, _, _, _, _, h, _ => h.elim
  | .tup _, _, _, _, _, _, h, _ => h.elim
  | .sl _, _, _, _, _, _, h, _ => h.elim
  | .arr _ _, _, _, _, _, _, h, _ => h.elim
  | .ptr _, _, _, _, _, _, h, _ => h.elim
  | .fn _ _, _, _, _, _, _, h, _ => h.elim
end
end Go.Proofs.Ytckkagmccbkfbaa.E
namespace Go.Proofs.Ytckkagmccbkfbaa.E
open Go Go.RowKit
set_option linter.unusedVariables false
set_option linter.unusedSimpArgs false
def rvG (tmps : Array Value) : ResultVar → Sem Value
  | .tmp t => pure (tmps.getD t undef)
  | .cell a t => do loadVar t (← asAddr (tmps.getD a undef))
section
variable {C : Cx} {cf : Cfg} {st st' : St} {a : Act} {w w' : World} {G G' : Gh} {us : U} {α : Type} {u : α}
theorem results_run {P : Program} {fn : Func} {tmps : Array Value} {vs : List Value} (h : (fn.results.toList.mapM (rvG tmps)).run P w = .ok vs w) : (results fn tmps).run P w = .ok (if h : vs.length = 1 then vs[0] else .tuple vs.toArray) w := by
  have e : results fn tmps = (do let vs ← fn.results.mapM (rvG tmps); pure (if h : vs.size = 1 then vs[0] else .tuple vs)) := rfl
  rw [e, Array.mapM_eq_mapM_toList]
  simp only [map_eq_pure_bind, bind_assoc, pure_bind, Sem.run_bind, h, Result.andThen_ok, Sem.run_pure]
  congr 1
theorem entry_inv {P : Program} {A : Ty} {mu : List Bool} {vals : List Value} {x : den A} {bs : List Nat} {pr nt : Nat} (h : AX P A mu w (fun b => b < w.heap.size ∧ b ∉ bs) vals x bs) (hn : bs.Nodup) (hok : entB A mu = true) (hlen : A.len ≤ nt) (hpr : pr ≤ A.len) :
    ∃ G, Inv ⟨P, w, bs, vals, pr, nt, fun _ => True⟩ (upds st0 (argL A mu x 0)) { tmps := vals.toArray ++ Array.replicate (nt - vals.toArray.size) undef, defers := [] } w G := by
  obtain ⟨hd, bl, E⟩ := ent_ok A mu 0 h hok
  have hvl := E.len
  have hk3 : ∀ id, rk id / 3 = id := fun id => by unfold rk; omega
  let G : Gh := ⟨fun k => hd (k / 3), fun k => bl (k / 3), fun _ => 0, fun _ => True⟩
  have hin : ∀ p ∈ argL A mu x 0, upds st0 (argL A mu x 0) p.1 = p.2 := fun p hp => upds_in _ _ E.keys (by simpa using hp)
  have hout : ∀ k c, upds st0 (argL A mu x 0) k = c → c ≠ .none → (k, c) ∈ argL A mu x 0 := fun k c h1 h2 => by
    by_cases hk : ∃ p ∈ argL A mu x 0, p.1 = k
    · obtain ⟨p, hp, rfl⟩ := hk
      rw [hin p hp] at h1; subst h1; exact hp
    · have : upds st0 (argL A mu x 0) k = st0 k := upds_out _ _ _ fun p hp e => hk ⟨p, hp, e⟩
      rw [this] at h1
      exact absurd h1.symm h2
  have hroot : ∀ k g hh e l, upds st0 (argL A mu x 0) k = .root g hh e l → ∃ id, k = rk id ∧ (rk id, Cell.root 0 0 e l) ∈ argL A mu x 0 ∧ TC (.sl e) w [hd id] l (bl id) := fun k g hh e l hr => by
    have hm := hout k _ hr (by simp)
    rcases E.ents _ hm with ⟨j, v, _, _, e'⟩ | ⟨id, e1, l1, _, _, k3, k4⟩
    · simp at e'
    · simp only [Prod.mk.injEq, Cell.root.injEq] at k3
      obtain ⟨rfl, rfl, rfl, rfl, k5⟩ := k3
      cases k5
      exact ⟨id, rfl, hm, k4⟩
  have hbox : ∀ k g T v, upds st0 (argL A mu x 0) k ≠ .box g T v := fun k g T v hr => by
    have hm := hout k _ hr (by simp)
    rcases E.ents _ hm with ⟨j, v, _, _, e'⟩ | ⟨id, e1, l1, _, _, k3, k4⟩
    · simp at e'
    · simp at k3
  have own : ∀ k b, b ∈ ownB (upds st0 (argL A mu x 0)) G k → ∃ id e l, k = rk id ∧ (rk id, Cell.root 0 0 e l) ∈ argL A mu x 0 ∧ TC (.sl e) w [hd id] l (bl id) ∧ b ∈ bl id := fun k b hb => by
    unfold ownB at hb
    split at hb
    · rename_i g hh e l hr
      obtain ⟨id, rfl, k1, k2⟩ := hroot _ _ _ _ _ hr
      have hb : b ∈ bl (rk id / 3) := hb
      rw [hk3] at hb
      exact ⟨id, e, l, rfl, k1, k2, hb⟩
    · rename_i g T v hr
      exact absurd hr (hbox _ _ _ _)
    · cases hb
  have hsize : vals.toArray.size = A.len := by simp [hvl]
  have htm : ∀ i, i < A.len → (vals.toArray ++ Array.replicate (nt - vals.toArray.size) undef).getD i undef = vals.getD i undef := fun i hi => by
    rw [Array.getD_eq_getD_getElem?, Array.getElem?_append, if_pos (by rw [hsize]; exact hi)]
    simp [List.getD]
  refine ⟨G, { rt := fun k g hh e l hr => ?_, sc := fun i => ?_, bx := fun k g T v hr => absurd hr (hbox _ _ _ _), nd := fun k => ?_, dj := fun k k' b h1 h2 => ?_, lt := fun k b hb => ?_, os := rfl, tape := rfl, output := rfl, size := Nat.le_refl _, block := fun _ _ _ => rfl, s0 := rfl, m0 := fun _ _ => trivial, sl := fun i v hv => ?_, df := rfl, sz := ?_, pa := fun i hi => ?_ }⟩
  · obtain ⟨id, rfl, k1, k2⟩ := hroot _ _ _ _ _ hr
    show TC (.sl e) w [hd (rk id / 3)] l (bl (rk id / 3))
    rw [hk3]; exact k2
  · cases hc : upds st0 (argL A mu x 0) (sk i) with
    | none => exact .inr rfl
    | sv v => exact .inl ⟨v, rfl⟩
    | root g hh e l => obtain ⟨id, k, _⟩ := hroot _ _ _ _ _ hc; exact absurd k (sk_ne_rk _ _)
    | box g T v => exact absurd hc (hbox _ _ _ _)
    | gone g =>
      have hm := hout _ _ hc (by simp)
      rcases E.ents _ hm with ⟨j, v, _, _, e'⟩ | ⟨id, e1, l1, _, _, k3, k4⟩
      · simp at e'
      · simp at k3
  · unfold ownB
    split
    · rename_i g hh e l hr
      obtain ⟨id, rfl, k1, k2⟩ := hroot _ _ _ _ _ hr
      show (bl (rk id / 3)).Nodup
      rw [hk3]; exact (E.bls id e l k1).2 hn
    · simp
    · exact List.nodup_nil
  · obtain ⟨id, e, l, rfl, k1, _, k2⟩ := own k b h1
    obtain ⟨id', e', l', rfl, j1, _, j2⟩ := own k' b h2
    rw [E.dj hn id e l id' e' l' k1 j1 b k2 j2]
  · obtain ⟨id, e, l, rfl, k1, k2, k3⟩ := own k b hb
    exact ⟨TC_lt _ k2 b k3, .inr ((E.bls id e l k1).1 b k3)⟩
  · have hm := hout _ _ hv (by simp)
    have hi : i < A.len := by
      rcases E.ents _ hm with ⟨j, v', k1, k2, e'⟩ | ⟨id, e1, l1, _, _, k3, k4⟩
      · simp only [Prod.mk.injEq] at e'
        have := sk_inj e'.1
        omega
      · simp at k3
    have := E.vl i v hm (upds st0 (argL A mu x 0)) G (Fz (upds st0 (argL A mu x 0)) G w) hin (fun id _ _ => by show hd (rk id / 3) = hd id; rw [hk3]) (fun b hb => ⟨hb.1, fun k hk => by
      obtain ⟨id, e, l, rfl, k1, _, k3⟩ := own k b hk
      exact hb.2 ((E.bls id e l k1).1 b k3), trivial⟩) (fun b hb => hb.1)
    rw [htm i hi]
    simpa using this
  · show (vals.toArray ++ Array.replicate (nt - vals.toArray.size) undef).size = nt
    rw [Array.size_append, Array.size_replicate, hsize]; omega
  · show (vals.toArray ++ Array.replicate (nt - vals.toArray.size) undef).getD i undef = vals.getD i undef
    exact htm i (Nat.lt_of_lt_of_le hi hpr)
theorem SX_list_len {P : Program} {S : Nat → Prop} : ∀ (v : SV) {vs : List Value}, SX P st G w S v true vs → vs.length = v.len
  | .unit, vs, h => by have h : vs = [] := h; rw [h]; rfl
  | .pair a b, vs, h => by
    obtain ⟨c, r, rfl, _, h2⟩ := h
    rw [List.length_cons, SX_list_len b h2]; rfl
  | .val _ _, _, h => h.elim
  | .nil, _, h => h.elim
  | .ref _ _ _, _, h => h.elim
  | .sub _ _ _ _ _ _, _, h => h.elim
  | .vw _ _ _ _ _, _, h => h.elim
  | .pel _ _ _ _, _, h => h.elim
  | .pbx _ _ _, _, h => h.elim
  | .pix _ _ _ _, _, h => h.elim
  | .st _, _, h => h.elim
  | .tup _, _, h => h.elim
  | .clo _ _ _, _, h => h.elim
theorem resSV_run (O : CfgOk C cf) (I : Inv C st a w G) : ∀ (rs : List ResultVar) {f : SV → M α}, Rn (resSV cf rs f) st u → ∃ v vs, (rs.mapM (rvG a.tmps)).run C.P w = .ok vs w ∧ SX C.P st G w (Fz st G w) v true vs ∧ Rn (f v) st u
  | [], f, h => ⟨.unit, [], rfl, rfl, h⟩
  | .tmp t :: rs, f, h => by
    unfold resSV at h
    obtain ⟨v, _, hv, h⟩ := slot_run I h
    split at h
    · exact (Rn_fail.1 h).elim
    · rename_i hnt
      obtain ⟨v', vs, k1, k2, k3⟩ := resSV_run O I rs h
      obtain ⟨c, hc1, hc2⟩ := SW_cells hv (fun b e => hnt b e)
      refine ⟨.pair v v', a.tmps.getD t undef :: vs, ?_, ⟨c, vs, by rw [hc1], hc2, k2⟩, k3⟩
      rw [List.mapM_cons]
      simp only [rvG, Sem.run_bind, Sem.run_pure, Result.andThen_ok, k1]
  | .cell p t :: rs, f, h => by
    unfold resSV at h
    obtain ⟨v, _, hv, h⟩ := slot_run I h
    split at h
    case h_2 => exact (Rn_fail.1 h).elim
    rename_i b g _
    rw [Rn_get] at h
    split at h
    case h_2 => exact (Rn_fail.1 h).elim
    rename_i g' B v0 hr
    rw [Rn_chk] at h
    have hg : g = g' := Nat.eq_of_beq_eq_true h.1
    subst hg
    have h := h.2
    rw [Rn_bif] at h
    rcases h with ⟨hty, h⟩ | ⟨_, h⟩
    case inr => exact (Rn_fail.1 h).elim
    have hty := of_decide_eq_true hty
    obtain ⟨v', vs, k1, k2, k3⟩ := resSV_run O I rs h
    obtain ⟨c, hc, x, rfl, _, _, hx⟩ := hv
    have hx := hx _ _ hr
    obtain ⟨ht, arr, et, ha, hs⟩ := I.bx _ _ _ _ hr
    have hl := SX_len v0 B ht hs
    have hload := loadVar_run (O.ty _ _ hty) (w := w) (b := G.bx (bk b)) (o := 0) ha (by rw [← Array.length_toList]; omega)
    rw [seg_all hl] at hload
    have hp : a.tmps.getD p undef = .pointer (some ⟨G.bx (bk b), 0, none⟩) := by rw [hc]; exact hx
    refine ⟨.pair v0 v', valOf B arr.toList :: vs, ?_, ⟨arr.toList, vs, by rw [valS_res ht], hs, k2⟩, k3⟩
    rw [List.mapM_cons]
    simp only [rvG, hp, asAddr, Sem.run_bind, Sem.run_pure, Result.andThen_ok, hload, k1]
theorem list_run (I : InvM C st w G) {T : Ty} {v : SV} {vs : List Value} {f : den T → List (Nat × Nat) → M α} (h : Rn (listM T v f) st u) (hs : SX C.P st G w (Fz st G w) v true vs) :
    ∃ x ts, TV T false w [if h : vs.length = 1 then vs[0] else .tuple vs.toArray] x (blk G ts) ∧ Rn (f x ts) st u ∧ (∀ p ∈ ts, RT st p) ∧ (T.isTup = false → ∃ c, (if h : vs.length = 1 then vs[0] else .tuple vs.toArray) = valOf T c ∧ TC T w c x (blk G ts)) := by
  have hlen := SX_list_len v hs
  have one : T.isTup = false → Rn (match v with | .pair a .unit => mv T a f | _ => .fail) st u → ∃ x ts, TV T false w [if h : vs.length = 1 then vs[0] else .tuple vs.toArray] x (blk G ts) ∧ Rn (f x ts) st u ∧ (∀ p ∈ ts, RT st p) ∧ (T.isTup = false → ∃ c, (if h : vs.length = 1 then vs[0] else .tuple vs.toArray) = valOf T c ∧ TC T w c x (blk G ts)) := by
    intro hT h
    split at h
    case h_2 => exact (Rn_fail.1 h).elim
    rename_i p _
    obtain ⟨c, r, rfl, h1, h2⟩ := hs
    have h2 : r = [] := h2
    subst h2
    obtain ⟨x, ts, k1, k2, k3, k4⟩ := mv_run I p T false h h1
    simp only [Bool.false_eq_true, if_false] at k1
    have e : (if h : [valS p c].length = 1 then [valS p c][0] else .tuple [valS p c].toArray) = valOf T c := by
      rw [← k4 rfl]; rfl
    rw [e]
    exact ⟨x, ts, TV_of_TC k1, k2, k3, fun _ => ⟨c, rfl, k1⟩⟩
  cases T with
  | tup F =>
    have h : Rn (bif Nat.beq v.len 1 then .fail else mv F v f) st u := h
    rw [Rn_bif] at h
    rcases h with ⟨_, h⟩ | ⟨hb, h⟩
    · exact (Rn_fail.1 h).elim
    obtain ⟨x, ts, k1, k2, k3, k4⟩ := mv_run I v F true h hs
    have hne : ¬ vs.length = 1 := fun e => by
      rw [hlen] at e
      rw [e] at hb; cases hb
    rw [dif_neg hne]
    exact ⟨x, ts, ⟨vs, rfl, k1⟩, k2, k3, fun e => by cases e⟩
  | _ => exact one rfl h
theorem AX_of_RX {P : Program} {S : Nat → Prop} : ∀ (A : Ty) (mu : List Bool) {vals : List Value} {x : den A}, mu.any id = false → RX P A true w S vals x → AX P A mu w S vals x []
  | .unit, mu, vals, x, hm, h => ⟨h, rfl⟩
  | .pair A B, mu, vals, x, hm, h => by
    obtain ⟨c, r, rfl, h1, h2⟩ := h
    have : mu.headD false = false := by
      cases mu with
      | nil => rfl
      | cons m mu => simp only [List.any_cons, Bool.or_eq_false_iff] at hm; exact hm.1
    exact ⟨c, r, [], [], rfl, rfl, by rw [this]; exact ⟨rfl, h1⟩, AX_of_RX B mu.tail (any_tail hm) h2⟩
  | .int _, _, _, _, _, h => h.elim
  | .bool, _, _, _, _, h => h.elim
  | .str, _, _, _, _, h => h.elim
  | .st _, _, _, _, _, h => h.elim
  | .tup _, _, _, _, _, h => h.elim
  | .sl _, _, _, _, _, h => h.elim
  | .arr _ _, _, _, _, _, h => h.elim
  | .ptr _, _, _, _, _, h => h.elim
  | .fn _ _, _, _, _, _, h => h.elim
def pickL : List Bool → List Value → List Value
  | m :: mu, v :: vs => if m = true then v :: pickL mu vs else pickL mu vs
  | _, _ => []
theorem outs_run (I : Inv C st a w G) : ∀ (mu : List Bool) (vals : List Value) (i : Nat) {f : SV → M α}, mu.length = vals.length → (∀ k, k < vals.length → mu.getD k false = true → a.tmps.getD (i + k) undef = vals.getD k undef) → Rn (outsM mu i f) st u →
    ∃ v, SX C.P st G w (Fz st G w) v true (pickL mu vals) ∧ Rn (f v) st u
  | [], vals, i, f, hl, hv, h => ⟨.unit, by
      show pickL [] vals = []
      cases vals <;> rfl, h⟩
  | m :: mu, [], i, f, hl, hv, h => by simp at hl
  | m :: mu, x :: vals, i, f, hl, hv, h => by
    unfold outsM at h
    have hv' : ∀ k, k < vals.length → mu.getD k false = true → a.tmps.getD (i + 1 + k) undef = vals.getD k undef := fun k hk hmk => by
      have := hv (k + 1) (by simpa using hk) (by simpa using hmk)
      rw [show i + 1 + k = i + (k + 1) from by omega, this]; simp
    rw [Rn_bif] at h
    rcases h with ⟨hm, h⟩ | ⟨hm, h⟩
    · subst hm
      obtain ⟨v, _, hw, h⟩ := slot_run I h
      split at h
      · exact (Rn_fail.1 h).elim
      · rename_i hnt
        obtain ⟨v', k1, k2⟩ := outs_run I mu vals (i + 1) (by simpa using hl) hv' h
        obtain ⟨c, hc1, hc2⟩ := SW_cells hw (fun b e => hnt b e)
        have h0 := hv 0 (by simp) rfl
        rw [Nat.add_zero] at h0
        refine ⟨.pair v v', ⟨c, pickL mu vals, ?_, hc2, k1⟩, k2⟩
        rw [← hc1, h0]; simp [pickL]
    · subst hm
      obtain ⟨v', k1, k2⟩ := outs_run I mu vals (i + 1) (by simpa using hl) hv' h
      exact ⟨v', by simpa [pickL] using k1, k2⟩
theorem TV_OX : ∀ (A : Ty) (mu : List Bool) {vals : List Value} {z : den (outT A mu)} {bs : List Nat}, entB A mu = true → vals.length = A.len → TV (outT A mu) true w (pickL mu vals) z bs → OX A mu w vals z bs
  | .unit, [], vals, z, bs, _, _, h => h.2
  | .unit, _ :: _, vals, z, bs, he, _, h => by cases he
  | .pair A B, [], vals, z, bs, he, _, h => by cases he
  | .pair A B, false :: mu, vals, z, bs, he, hl, h => by
    simp only [entB, Bool.and_eq_true] at he
    cases vals with
    | nil => simp [Ty.len] at hl
    | cons v vals =>
      have h : TV (outT B mu) true w (pickL mu vals) z bs := h
      exact TV_OX B mu he.2 (by simpa [Ty.len] using hl) h
  | .pair A B, true :: mu, vals, z, bs, he, hl, h => by
    simp only [entB, Bool.and_eq_true, Bool.not_true, Bool.false_or, Bool.not_eq_true'] at he
    cases vals with
    | nil => simp [Ty.len] at hl
    | cons v vals =>
      have h : TV (.pair A (outT B mu)) true w (v :: pickL mu vals) z bs := h
      obtain ⟨v', r, b1, b2, e, rfl, h1, h2⟩ := h
      simp only [List.cons.injEq] at e
      obtain ⟨rfl, rfl⟩ := e
      have h3 : ∃ c, v = valOf A c ∧ TC A w c z.1 b1 := by
        have ht := he.1.1.2
        cases A <;> first | (obtain ⟨c, e, hc⟩ := h1; exact ⟨c, by simpa using e, hc⟩) | cases ht
      obtain ⟨c, rfl, hc⟩ := h3
      exact ⟨c, vals, b1, b2, rfl, rfl, hc, TV_OX B mu he.2 (by simpa [Ty.len] using hl) h2⟩
  | .int _, _, _, _, _, he, _, _ => by cases he
  | .bool, _, _, _, _, he, _, _ => by cases he
  | .str, _, _, _, _, he, _, _ => by cases he
  | .st _, _, _, _, _, he, _, _ => by cases he
  | .tup _, _, _, _, _, he, _, _ => by cases he
  | .sl _, _, _, _, _, he, _, _ => by cases he
  | .arr _ _, _, _, _, _, he, _, _ => by cases he
  | .ptr _, _, _, _, _, he, _, _ => by cases he
  | .fn _ _, _, _, _, _, he, _, _ => by cases he
theorem entB_len : ∀ (A : Ty) (mu : List Bool), entB A mu = true → mu.length = A.len
  | .unit, [], _ => rfl
  | .unit, _ :: _, he => by cases he
  | .pair A B, [], he => by cases he
  | .pair A B, m :: mu, he => by
    simp only [entB, Bool.and_eq_true] at he
    rw [List.length_cons, entB_len B mu he.2]; rfl
  | .int _, _, he => by cases he
  | .bool, _, he => by cases he
  | .str, _, he => by cases he
  | .st _, _, he => by cases he
  | .tup _, _, he => by cases he
  | .sl _, _, he => by cases he
  | .arr _ _, _, he => by cases he
  | .ptr _, _, he => by cases he
  | .fn _ _, _, he => by cases he
end
end Go.Proofs.Ytckkagmccbkfbaa.E
namespace Go.Proofs.Ytckkagmccbkfbaa.E
open Go Go.RowKit
set_option linter.unusedVariables false
set_option linter.unusedSimpArgs false
section
variable {C : Cx} {cf : Cfg} {st st' : St} {a : Act} {w w' : World} {G G' : Gh} {us : U} {α : Type} {u : α}
theorem fin_plain (O : CfgOk C cf) (I : Inv C st a w G) (hmt : C.mt = []) {rs : List ResultVar} {pas ret : Ty} {mu : List Bool} (hmu : mu.any id = false) {r : den ret} (h : Rn (finM cf rs pas mu ret) st r) {fn : Func} (hrs : fn.results.toList = rs) :
    ∃ v, (results fn a.tmps).run C.P w = .ok v w ∧ Ret ret r C.w0 v w := by
  unfold finM at h
  obtain ⟨v, vs, h1, h2, h⟩ := resSV_run O I rs h
  rw [hmu] at h
  simp only [cond_false] at h
  obtain ⟨x, ts, k1, k2, k3, _⟩ := list_run I.toInvM h h2
  rw [Rn_bif] at k2
  rcases k2 with ⟨hb, k2⟩ | ⟨_, k2⟩
  case inr => exact (Rn_fail.1 k2).elim
  rw [Rn_ret] at k2
  subst k2
  simp only [Bool.and_eq_true, nodupB_iff] at hb
  rw [← hrs] at h1
  refine ⟨_, results_run h1, blk G ts, k1, blk_nodup I.toInvM ts k3 hb.1, fun b hb => ?_, ⟨I.os, I.tape, I.output, I.size, fun k hk => I.block k hk (by rw [hmt]; simp)⟩⟩
  obtain ⟨p, hp, hb⟩ := blk_mem hb
  rw [← own_of_RT (k3 p hp)] at hb
  have := I.lt _ _ hb
  refine ⟨this.2.elim id fun h => ?_, this.1⟩
  rw [hmt] at h; cases h
theorem fin_mut (O : CfgOk C cf) (I : Inv C st a w G) {rs : List ResultVar} {pas R : Ty} {mu : List Bool} (hmu : mu.any id = true) (hent : entB pas mu = true) (hl : C.args.length = pas.len) (hpr : ∀ k, mu.getD k false = true → k < C.pr) {r : den (.pair R (outT pas mu))} (h : Rn (finM cf rs pas mu (.pair R (outT pas mu))) st r) {fn : Func} (hrs : fn.results.toList = rs) :
    ∃ v, (results fn a.tmps).run C.P w = .ok v w ∧ RetM R pas mu r.1 r.2 C.args C.mt C.w0 v w := by
  unfold finM at h
  obtain ⟨v, vs, h1, h2, h⟩ := resSV_run O I rs h
  rw [hmu] at h
  simp only [cond_true, dite_true] at h
  rw [Rn_bif] at h
  rcases h with ⟨_, h⟩ | ⟨hm, h⟩
  · exact (Rn_fail.1 h).elim
  simp only [Bool.or_eq_false_iff] at hm
  obtain ⟨x, ts, k1, k2, k3, k4⟩ := list_run I.toInvM h h2
  obtain ⟨ov, o1, o2⟩ := outs_run I mu C.args 0 ((entB_len pas mu hent).trans hl.symm) (fun k hk hmk => by
    rw [Nat.zero_add]
    have := I.pa k (hpr k hmk)
    rw [this]) k2
  obtain ⟨y, ts', m1, m2, m3, _⟩ := mv_run I.toInvM ov (outT pas mu) true o2 o1
  simp only [if_true] at m1
  rw [Rn_bif] at m2
  rcases m2 with ⟨hb, m2⟩ | ⟨_, m2⟩
  case inr => exact (Rn_fail.1 m2).elim
  rw [Rn_ret] at m2
  subst m2
  rw [nodupB_iff] at hb
  have hRt : R.isTup = false := hm.2
  obtain ⟨c, e, hc⟩ := k4 hRt
  rw [← hrs] at h1
  refine ⟨_, results_run h1, ⟨⟨c, e, ?_⟩, ⟨blk G ts', TV_OX pas mu hent hl m1, blk_nodup I.toInvM ts' m3 hb, fun b hb => ?_⟩, I.os, I.tape, I.output, I.size, fun b hb hn => I.block b hb hn⟩⟩
  · rw [← TC_nil R hm.1.1 hc]; exact hc
  · obtain ⟨p, hp, hb⟩ := blk_mem hb
    rw [← own_of_RT (m3 p hp)] at hb
    have := I.lt _ _ hb
    exact ⟨this.2.symm, this.1⟩
theorem prot_ok {mu : List Bool} {p : Nat} (h : (mu.drop p).any id = false) : ∀ k, mu.getD k false = true → k < p := fun k hk => by
  rcases Nat.lt_or_ge k p with hlt | hge
  · exact hlt
  · exfalso
    have hm : (mu.drop p)[k - p]? = some true := by
      rw [List.getElem?_drop, show p + (k - p) = k from by omega]
      simp only [List.getD, Option.getD] at hk
      split at hk
      · rename_i b hb; rw [hb, hk]
      · cases hk
    have : (mu.drop p).any id = true := List.any_eq_true.2 ⟨true, List.mem_of_getElem? hm, rfl⟩
    rw [h] at this; cases this
theorem run_enter {P : Program} {w : World} {f : FuncId} {fn : Func} {c : Code} {args : Array Value} (hf : P.funcs[f]? = some fn) (hname : (fn.name == "runtime.NumGoroutine") = false) (hb : fn.body = some c) : (callFunc f args).run P w = .ok (.enter f args) w := by
  have h1 : fn.name ≠ "runtime.NumGoroutine" := by simpa using hname
  simp [callFunc, hf, h1, hb]
/-- A function's contract: out of its code, and the evaluator's run of it. -/
theorem fn_ok {P : Program} {cf : Cfg} {f : FuncId} {fn : Func} {c : Code} {pas ret : Ty} {mu : List Bool} {en : Env (den ret)} {F : den pas → Option (den ret)} (hf : P.funcs[f]? = some fn) (hname : (fn.name == "runtime.NumGoroutine") = false) (hb : fn.body = some c)
    (hT : ∀ t T, cf.ty t = some T → TyOk P cf.ty t T) (hfn : ∀ g sp, cf.fn g = some sp → FnOk P g sp) (hfs : ∀ g sp, cf.fs g = some sp → ShOk P g sp) (hmix : P.follows .mixedOrders = true) (hnt : cf.nt = fn.ntmps) (hpr : cf.prot ≤ pas.len) (hprm : (mu.drop cf.prot).any id = false) (hlen : pas.len ≤ cf.nt) (hent : entB pas mu = true)
    (hl : ∀ C, C.P = P → CfgOk C cf → LpOk C en c) (hF : ∀ x y, F x = some y → evFn cf pas mu ret en fn.results.toList c x = some y) : FnOk P f ⟨pas, mu, ret, F⟩ := by
  have main : ∀ (w : World) (vals : List Value) (x : den pas) (y : den ret) (bs : List Nat) (R : Value → World → Prop), AX P pas mu w (fun b => b < w.heap.size ∧ b ∉ bs) vals x bs → bs.Nodup → F x = some y →
      (∀ st a w' G, Inv ⟨P, w, bs, vals, cf.prot, cf.nt, fun _ => True⟩ st a w' G → CfgOk ⟨P, w, bs, vals, cf.prot, cf.nt, fun _ => True⟩ cf → vals.length = pas.len → Rn (finM cf fn.results.toList pas mu ret) st y → ∃ v, (results fn a.tmps).run P w' = .ok v w' ∧ R v w') → CF P f vals.toArray w R := by
    intro w vals x y bs R hAX hnd hy hfin
    have O : CfgOk ⟨P, w, bs, vals, cf.prot, cf.nt, fun _ => True⟩ cf := ⟨rfl, rfl, hT, hfn, hfs⟩
    have hvl : vals.length = pas.len := by
      obtain ⟨hd, bl, E⟩ := ent_ok pas mu 0 hAX hent
      exact E.len
    obtain ⟨G, I⟩ := entry_inv (nt := cf.nt) (pr := cf.prot) hAX hnd hent hlen hpr
    intro o a next Q hn
    rw [run_enter hf hname hb, Oper.upon_enter]
    refine calls_of_wp hf hb ?_
    have hev := hF x y hy
    unfold evFn at hev
    rw [← hnt]
    have last : ∀ st' a' w' G', (finM cf fn.results.toList pas mu ret).go st' [] (fun _ y => some y) = some y → Inv ⟨P, w, bs, vals, cf.prot, cf.nt, fun _ => True⟩ st' a' w' G' → ∃ v, (results fn a'.tmps).run P w' = .ok v w' ∧ R v w' := fun st' a' w' G' h I' => by
      obtain ⟨rd, u, h1, h2⟩ := go_run _ _ h
      simp only [Option.some.injEq] at h2
      subst h2
      exact hfin st' a' w' G' I' O hvl ⟨rd, h1⟩
    refine evC_sound O hmix c (hl _ rfl O) hev I (fun st' a' w' G' h I' => ?_) (fun i st' a' w' G' h I' => by cases h) (fun st' a' w' G' h I' => ?_)
    · obtain ⟨v, k1, k2⟩ := last st' a' w' G' h I'
      exact ⟨I'.df, v, k1, hn v w' k2⟩
    · obtain ⟨v, k1, k2⟩ := last st' a' w' G' h I'
      exact ⟨I'.df, v, k1, hn v w' k2⟩
  refine ⟨fun hmu => ?_, fun hmu R h => ?_⟩
  · intro w vals x y hx hy
    refine main w vals x y [] _ (AX_of_RX pas mu hmu (RX_congr P pas true (Nat.le_refl _) (fun b hb _ => ⟨⟨hb, by simp⟩, rfl⟩) (fun b hb => hb.1) hx)) List.nodup_nil hy fun st a w' G I O _ hr => ?_
    exact fin_plain O I rfl hmu hr rfl
  · have h : ret = .pair R (outT pas mu) := h
    subst h
    intro w vals x y z bs hAX hnd hy
    exact main w vals x (y, z) bs _ hAX hnd hy fun st a w' G I O hvl hr => fin_mut O I hmu hent hvl (prot_ok hprm) hr rfl
end
end Go.Proofs.Ytckkagmccbkfbaa.E
namespace Go.Proofs.Ytckkagmccbkfbaa.E
open Go Go.RowKit
set_option linter.unusedVariables false
set_option linter.unusedSimpArgs false
def lk {β : Type} : List (Nat × β) → Nat → Option β
  | [], _ => none
  | (k, b) :: l, t => bif Nat.beq k t then some b else lk l t
theorem lk_mem {β : Type} : ∀ (l : List (Nat × β)) {t : Nat} {b : β}, lk l t = some b → (t, b) ∈ l
  | [], _, _, h => by cases h
  | (k, c) :: l, t, b, h => by
    unfold lk at h
    cases hb : Nat.beq k t
    · rw [hb] at h; exact List.mem_cons_of_mem _ (lk_mem l h)
    · rw [hb] at h
      simp only [cond_true, Option.some.injEq] at h
      have := Nat.eq_of_beq_eq_true hb
      subst h; subst this; exact List.mem_cons_self
/-- Cells of zeroes, read off. -/
def rep {β : Type} (f : β → Option β) : Nat → β → Option β
  | 0, x => some x
  | n + 1, x => match f x with | some y => rep f n y | none => none
def zcB : Ty → List Value → Option (List Value)
  | .int k, cs => (match cs with | .int k' n :: r => bif decide (k' = k) && decide (n = 0) then some r else none | _ => none)
  | .bool, cs => (match cs with | .bool b :: r => bif b then none else some r | _ => none)
  | .str, cs => (match cs with | .string s :: r => bif Nat.beq s.size 0 then some r else none | _ => none)
  | .unit, r => some r
  | .pair a b, r => (match zcB a r with | some r' => zcB b r' | none => none)
  | .st f, r => zcB f r
  | .sl _, cs => (match cs with | .slice none 0 0 :: r => some r | _ => none)
  | .arr n e, r => rep (zcB e) n r
  | .tup _, _ => none
  | .ptr _, _ => none
  | .fn _ _, _ => none
theorem bytes_empty {s : ByteArray} (h : s.size = 0) : s = ByteArray.empty := by
  cases s with
  | mk d =>
    have : d = #[] := Array.eq_empty_of_size_eq_zero h
    rw [this]; rfl
theorem zcB_ok : ∀ (T : Ty) {cs r : List Value}, zcB T cs = some r → cs = zc T ++ r
  | .int k, cs, r, h => by
    simp only [zcB] at h
    split at h
    · rename_i k' n r'
      cases hb : (decide (k' = k) && decide (n = 0))
      · rw [hb] at h; cases h
      · rw [hb] at h
        simp only [cond_true, Option.some.injEq] at h
        simp only [Bool.and_eq_true, decide_eq_true_eq] at hb
        rw [hb.1, hb.2, h]; rfl
    · cases h
  | .bool, cs, r, h => by
    simp only [zcB] at h
    split at h
    · rename_i b r'
      cases b
      · simp only [cond_false, Option.some.injEq] at h
        rw [h]; rfl
      · cases h
    · cases h
  | .str, cs, r, h => by
    simp only [zcB] at h
    split at h
    · rename_i s r'
      cases hb : Nat.beq s.size 0
      · rw [hb] at h; cases h
      · rw [hb] at h
        simp only [cond_true, Option.some.injEq] at h
        rw [bytes_empty (Nat.eq_of_beq_eq_true hb), h]; rfl
    · cases h
  | .unit, cs, r, h => by simp only [zcB, Option.some.injEq] at h; subst h; rfl
  | .pair a b, cs, r, h => by
    simp only [zcB] at h
    split at h
    · rename_i r' h1
      rw [zcB_ok a h1, zcB_ok b h]; simp [zc]
    · cases h
  | .st f, cs, r, h => zcB_ok f (by simpa [zcB] using h)
  | .sl e, cs, r, h => by
    simp only [zcB] at h
    split at h
    · simp only [Option.some.injEq] at h
      rw [h]; rfl
    · cases h
  | .arr n e, cs, r, h => by
    simp only [zcB] at h
    have key : ∀ (n : Nat) {cs r : List Value}, rep (zcB e) n cs = some r → cs = (List.replicate n (zc e)).flatten ++ r := by
      intro n
      induction n with
      | zero => intro cs r h; simp only [rep, Option.some.injEq] at h; subst h; rfl
      | succ n ih =>
        intro cs r h
        simp only [rep] at h
        split at h
        · rename_i y h1
          rw [zcB_ok e h1, ih h]; simp [List.replicate_succ]
        · cases h
    exact key n h
  | .tup _, cs, r, h => by cases h
  | .ptr _, cs, r, h => by cases h
  | .fn _ _, cs, r, h => by cases h
def zChk (T : Ty) (v : Value) : Bool := match v with
  | .agg xs => isAggT T && (match zcB T xs.toList with | some [] => true | _ => false)
  | v => !isAggT T && (match zcB T [v] with | some [] => true | _ => false)
theorem zChk_ok {T : Ty} {v : Value} (h : zChk T v = true) : v = valOf T (zc T) := by
  have fin : ∀ cs, (match zcB T cs with | some [] => true | _ => false) = true → cs = zc T := fun cs h => by
    split at h
    · rename_i h1
      have := zcB_ok T h1
      simpa using this
    · cases h
  unfold zChk at h
  split at h
  · rename_i xs
    rw [Bool.and_eq_true] at h
    rw [valOf_agg h.1, ← fin _ h.2]
  · rw [Bool.and_eq_true, Bool.not_eq_true'] at h
    rw [valOf_one h.1, ← fin _ h.2]; rfl
def fsChk (ty : Nat → Option Ty) (f : Ty) : List Field → Nat → Bool
  | [], _ => true
  | F :: r, n => Nat.beq F.offset (off f n) && decide (ty F.type = some (fld f n)) && !(F.name == "_") && fsChk ty f r (n + 1)
theorem fsChk_ok {ty : Nat → Option Ty} {f : Ty} : ∀ (l : List Field) (k : Nat), fsChk ty f l k = true → ∀ n F, l[n]? = some F → F.offset = off f (k + n) ∧ ty F.type = some (fld f (k + n)) ∧ F.name ≠ "_"
  | [], _, _, n, F, h => by simp at h
  | G :: r, k, hc, n, F, h => by
    simp only [fsChk, Bool.and_eq_true, decide_eq_true_eq, Bool.not_eq_true'] at hc
    cases n with
    | zero =>
      simp only [List.getElem?_cons_zero, Option.some.injEq] at h
      subst h
      exact ⟨Nat.eq_of_beq_eq_true hc.1.1.1, hc.1.1.2, by simpa using hc.1.2⟩
    | succ n =>
      have := fsChk_ok r (k + 1) hc.2 n F (by simpa using h)
      rwa [show k + 1 + n = k + (n + 1) from by omega] at this
def unChk (ty : Nat → Option Ty) : TypeDesc → Ty → Bool
  | .int k, .int k' => decide (k = k')
  | .bool, .bool => true
  | .string, .str => true
  | .struct fs, .st f => Nat.beq fs.size f.len && fsChk ty f fs.toList 0
  | .slice et, .sl e => decide (ty et = some e)
  | .array n et, .arr m e => Nat.beq n m && decide (ty et = some e)
  | .pointer _, .ptr _ => true
  | .func _ _ _, .fn _ _ => true
  | _, _ => false
theorem unChk_ok {ty : Nat → Option Ty} {d : TypeDesc} {T : Ty} (h : unChk ty d T = true) : UnOk ty d T := by
  unfold unChk at h
  split at h
  · exact (of_decide_eq_true h : _ = _)
  · trivial
  · trivial
  · rename_i fs f
    rw [Bool.and_eq_true] at h
    refine ⟨Nat.eq_of_beq_eq_true h.1, fun n F hn => ?_⟩
    have := fsChk_ok fs.toList 0 h.2 n F (by simpa using hn)
    rwa [Nat.zero_add] at this
  · exact (of_decide_eq_true h : _ = _)
  · rw [Bool.and_eq_true] at h
    exact ⟨Nat.eq_of_beq_eq_true h.1, of_decide_eq_true h.2⟩
  · trivial
  · trivial
  · cases h
def tyChk (P : Program) (ty : Nat → Option Ty) (t : Nat) (T : Ty) : Bool :=
  (match P.info? t with
    | some i => Nat.beq i.size T.sz && Nat.ble i.bytes 100 && Nat.blt 0 i.bytes && (match zeroSV T with
      | some _ => (match i.zero with | some v => zChk T v | none => false)
      | none => true)
    | none => false) && (match P.underlying t with | some d => unChk ty d T | none => false) && !P.stoodInHeld t
theorem tyChk_ok {P : Program} {ty : Nat → Option Ty} {t : Nat} {T : Ty} (h : tyChk P ty t T = true) : TyOk P ty t T := by
  unfold tyChk at h
  simp only [Bool.and_eq_true, Bool.not_eq_true'] at h
  obtain ⟨⟨h1, h2⟩, h3⟩ := h
  refine ⟨?_, ?_, h3⟩
  · split at h1
    · rename_i i hi
      simp only [Bool.and_eq_true] at h1
      refine ⟨i, hi, Nat.eq_of_beq_eq_true h1.1.1.1, Nat.le_of_ble_eq_true h1.1.1.2, Nat.le_of_ble_eq_true h1.1.2, fun z hz => ?_⟩
      have h4 := h1.2
      rw [hz] at h4
      simp only at h4
      split at h4
      · rename_i v hv
        rw [hv, zChk_ok h4]
      · cases h4
    · cases h1
  · split at h2
    · rename_i d hd
      exact ⟨d, hd, unChk_ok h2⟩
    · cases h2
theorem tys_ok {P : Program} {l : List (Nat × Ty)} (h : (l.all fun p => tyChk P (lk l) p.1 p.2) = true) : ∀ t T, lk l t = some T → TyOk P (lk l) t T := fun t T ht => by
  rw [List.all_eq_true] at h
  exact tyChk_ok (h _ (lk_mem l ht))
/-- Callees. -/
def FnsOk (P : Program) : List (Nat × FnSpec) → Prop
  | [] => True
  | p :: l => FnOk P p.1 p.2 ∧ FnsOk P l
theorem fns_ok {P : Program} : ∀ {l : List (Nat × FnSpec)}, FnsOk P l → ∀ g sp, lk l g = some sp → FnOk P g sp
  | [], _, g, sp, h => by cases h
  | (k, c) :: l, hl, g, sp, h => by
    unfold lk at h
    cases hb : Nat.beq k g
    · rw [hb] at h; exact fns_ok hl.2 g sp h
    · rw [hb] at h
      simp only [cond_true, Option.some.injEq] at h
      have := Nat.eq_of_beq_eq_true hb
      subst h; subst this; exact hl.1
def bodyOf (f : Func) : Code := f.body.getD .skip
/-- The loops and segments that a code leads to: loops' bodies (true), segments (false). -/
def partsOf (S : Nat → Bool) : Code → List (Bool × Code)
  | .seq a b => partsOf S a ++ (bif S (rid b) then [(false, b)] else partsOf S b)
  | .cond _ a b => partsOf S a ++ partsOf S b
  | .block _ c => partsOf S c
  | .loop c => [(true, c)]
  | _ => []
def nthC : List (Bool × Code) → Nat → Code
  | [], _ => .skip
  | c :: _, 0 => c.2
  | _ :: l, n + 1 => nthC l n
def LpL (C : Cx) {R : Type} (en : Env R) : List (Bool × Code) → Prop
  | [] => True
  | (true, c) :: l => (∀ f, en.L (rid c) = some f → LpS C f c) ∧ LpL C en l
  | (false, c) :: l => (∀ J, en.S (rid c) = some J → SgS C J c) ∧ LpL C en l
theorem lpL_app {C : Cx} {R : Type} {en : Env R} : ∀ {l m : List (Bool × Code)}, LpL C en (l ++ m) → LpL C en l ∧ LpL C en m
  | [], m, h => ⟨trivial, h⟩
  | (true, c) :: l, m, h => ⟨⟨h.1, (lpL_app h.2).1⟩, (lpL_app h.2).2⟩
  | (false, c) :: l, m, h => ⟨⟨h.1, (lpL_app h.2).1⟩, (lpL_app h.2).2⟩
theorem lpOk_of {C : Cx} {R : Type} {en : Env R} {S : Nat → Bool} (hS : ∀ i, S i = (en.S i).isSome) : ∀ (c : Code), LpL C en (partsOf S c) → LpOk C en c
  | .seq a b, h => by
    have h1 := lpL_app h
    refine ⟨lpOk_of hS a h1.1, fun J hJ => ?_, fun hJ => ?_⟩
    · have h2 := h1.2
      rw [hS, hJ] at h2
      exact h2.1 J hJ
    · have h2 := h1.2
      rw [hS, hJ] at h2
      exact lpOk_of hS b h2
  | .cond _ a b, h => ⟨lpOk_of hS a (lpL_app h).1, lpOk_of hS b (lpL_app h).2⟩
  | .block _ c, h => lpOk_of hS c h
  | .loop c, h => h.1
  | .skip, h => trivial
  | .region _ _ _, h => trivial
  | .rangeFunc _ _ _ _, h => trivial
  | .exit _, h => trivial
  | .scope _, h => trivial
  | .label _, h => trivial
  | .goto _, h => trivial
  | .ret, h => trivial
  | .refuse _, h => trivial
theorem lpL_loop {C : Cx} {R : Type} {en : Env R} {c : Code} {l : List (Bool × Code)} {f : LoopS R} (hL : en.L (rid c) = some f) (h : LpS C f c) (hl : LpL C en l) : LpL C en ((true, c) :: l) :=
  ⟨fun g hg => by rw [hL] at hg; cases hg; exact h, hl⟩
theorem lpL_seg {C : Cx} {R : Type} {en : Env R} {c : Code} {l : List (Bool × Code)} {f : SegS R} (hL : en.S (rid c) = some f) (h : SgS C f c) (hl : LpL C en l) : LpL C en ((false, c) :: l) :=
  ⟨fun g hg => by rw [hL] at hg; cases hg; exact h, hl⟩
/-- A table of segments, and which it has. -/
def hasK {β : Type} : List (Nat × β) → Nat → Bool
  | [], _ => false
  | (k, _) :: l, t => Nat.beq k t || hasK l t
theorem hasK_lk {β : Type} : ∀ (l : List (Nat × β)) (t : Nat), hasK l t = (lk l t).isSome
  | [], _ => rfl
  | (k, b) :: l, t => by
    unfold hasK lk
    cases hb : Nat.beq k t
    · simpa using hasK_lk l t
    · simp
theorem hasK_map {β γ : Type} (f : β → γ) : ∀ (l : List (Nat × β)) (t : Nat), hasK (l.map fun p => (p.1, f p.2)) t = hasK l t
  | [], _ => rfl
  | (k, b) :: l, t => by simp [hasK, hasK_map f l t]
theorem CF.calls {P : Program} {f : FuncId} {fn : Func} {c : Code} {args : Array Value} {w : World} {G : Value → World → Prop} (h : CF P f args w G) (hf : P.funcs[f]? = some fn) (hname : (fn.name == "runtime.NumGoroutine") = false) (hb : fn.body = some c) :
    Calls P f args w fun e w' => ∃ v, e = .returned v ∧ G v w' := by
  have k := h { dst := some 0, op := default, type := 0, pos := "", after := #[], guard := none } ⟨#[undef], []⟩ (fun a w' => G (a.tmps.getD 0 undef) w') (fun _ _ _ => False) (fun v w' g => by simpa [Act.put] using g)
  rw [run_enter hf hname hb, Oper.upon_enter] at k
  refine k.mono fun e w' he => ?_
  cases e with
  | returned v => exact ⟨v, rfl, by simpa [Act.put] using he⟩
  | panicked ch => exact he.elim
  | outgrown => obtain ⟨_, _, h⟩ := he; exact h.elim
end Go.Proofs.Ytckkagmccbkfbaa.E
namespace Go.Proofs.Ytckkagmccbkfbaa.E
open Go Go.RowKit Go.ChangeShapes Go.WideShapes Go.ChangeAt
set_option linter.unusedVariables false
set_option linter.unusedSimpArgs false
/-- Types of data: numbers, bools, strings, structs and slices of such. -/
def dataB : Ty → Bool
  | .int _ => true
  | .bool => true
  | .str => true
  | .unit => true
  | .pair a b => dataB a && dataB b
  | .st f => f.isList && dataB f
  | .sl e => dataB e && Nat.blt 0 e.sz
  | _ => false
/-- What is known of a value that reads as data. -/
def okD : (T : Ty) → den T → Prop
  | .int k, x => (Lit.int k x).wf = true
  | .str, s => (s : ByteArray).size ≤ maxLen
  | .pair a b, x => okD a x.1 ∧ okD b x.2
  | .st f, x => okD f x
  | .sl e, l => (l : List (den e)).length ≤ maxLen ∧ ∀ y ∈ (l : List (den e)), okD e y
  | _, _ => True
section
variable {P : Program} {ty : Nat → Option Ty} {w : World}
/-- A type's values open. -/
def OpensD (P : Program) (w : World) (t : TypeId) (T : Ty) : Prop :=
  ∀ (H : Type) (enc : TypeId × Value → H) (spare : Nat → Bool) (held : Bool) (fuel : Nat) (cs : List Value) (x : DataW H × List MemPlace), DataW.trod enc P w 0 spare held fuel t cs = some x → ∃ y : den T, RX P T false w (fun b => b < w.heap.size) cs y ∧ okD T y
theorem opens_fields {H : Type} {enc : TypeId × Value → H} {spare : Nat → Bool} {held : Bool} {n : Nat} (hO : ∀ t T, ty t = some T → TyOk P ty t T) : ∀ (F : Ty) (fs : List Field) (base : Nat) (cs : List Value) (xs : List (DataW H × List MemPlace)), F.isList = true → fs.length = F.len → xs.length = fs.length →
    (∀ (i : Nat) (f : Field), fs[i]? = some f → f.offset = base + off F i ∧ ty f.type = some (fld F i)) → (∀ (i : Nat) (f : Field), fs[i]? = some f → OpensD P w f.type (fld F i)) →
    (∀ (i : Nat) (f : Field), fs[i]? = some f → DataW.trod enc P w 0 spare held n f.type ((cs.drop f.offset).take (P.cellsOf f.type)) = xs[i]?) → cs.length = base + F.sz → ∃ y : den F, RX P F false w (fun b => b < w.heap.size) (cs.drop base) y ∧ okD F y
  | .unit, fs, base, cs, xs, _, hl, _, _, _, _, hcs => by
    refine ⟨(), ?_, trivial⟩
    show cs.drop base = []
    exact List.drop_eq_nil_of_le (by rw [hcs]; exact Nat.le_refl _)
  | .pair A B, fs, base, cs, xs, hi, hl, hx, hf, hop, ht, hcs => by
    cases fs with
    | nil => simp [Ty.len] at hl
    | cons f fs =>
      cases xs with
      | nil => simp at hx
      | cons x xs =>
        obtain ⟨f1, f2⟩ := hf 0 f rfl
        have h0 := ht 0 f rfl
        have hsz : P.cellsOf f.type = A.sz := (hO _ _ f2).cellsOf
        rw [f1, hsz] at h0
        obtain ⟨y, y1, y2⟩ := hop 0 f rfl H enc spare held n _ x h0
        have hs : (Ty.pair A B).sz = A.sz + B.sz := rfl
        obtain ⟨z, z1, z2⟩ := opens_fields hO B fs (base + A.sz) cs xs hi (by simpa [Ty.len] using hl) (by simpa using hx) (fun i g hg => by
          obtain ⟨g1, g2⟩ := hf (i + 1) g (by simpa using hg)
          exact ⟨by rw [g1]; simp only [off]; omega, g2⟩) (fun i g hg => hop (i + 1) g (by simpa using hg)) (fun i g hg => by simpa using ht (i + 1) g (by simpa using hg)) (by rw [hcs, hs]; omega)
        refine ⟨(y, z), ⟨_, _, ?_, y1, z1⟩, y2, z2⟩
        show cs.drop base = (cs.drop (base + 0)).take A.sz ++ cs.drop (base + A.sz)
        rw [Nat.add_zero, ← List.drop_drop, List.take_append_drop]
  | .int _, _, _, _, _, hi, _, _, _, _, _, _ => by cases hi
  | .bool, _, _, _, _, hi, _, _, _, _, _, _ => by cases hi
  | .str, _, _, _, _, hi, _, _, _, _, _, _ => by cases hi
  | .st _, _, _, _, _, hi, _, _, _, _, _, _ => by cases hi
  | .tup _, _, _, _, _, hi, _, _, _, _, _, _ => by cases hi
  | .sl _, _, _, _, _, hi, _, _, _, _, _, _ => by cases hi
  | .arr _ _, _, _, _, _, hi, _, _, _, _, _, _ => by cases hi
  | .ptr _, _, _, _, _, hi, _, _, _, _, _, _ => by cases hi
  | .fn _ _, _, _, _, _, hi, _, _, _, _, _, _ => by cases hi
theorem no_unit {t : TypeId} (h : TyOk P ty t .unit) : False := by
  obtain ⟨d, _, hu⟩ := h.und
  cases d <;> exact hu
theorem no_pair {A B : Ty} {t : TypeId} (h : TyOk P ty t (.pair A B)) : False := by
  obtain ⟨d, _, hu⟩ := h.und
  cases d <;> exact hu
theorem opens_sl (hO : ∀ t T, ty t = some T → TyOk P ty t T) {e : Ty} (hs : 0 < e.sz) {t : TypeId} (ht : ty t = some (.sl e)) (he : ∀ et, ty et = some e → OpensD P w et e) : OpensD P w t (.sl e) := by
  intro H enc spare held fuel cs x h
  obtain ⟨d, hd, hu⟩ := (hO _ _ ht).und
  cases d <;> simp only [UnOk] at hu
  rename_i et
  have hc : P.cellsOf et = e.sz := (hO _ _ hu).cellsOf
  rcases Go.Deep.open_slice hd h with ⟨rfl, _⟩ | ⟨a, len, cap, m, n, D, Pl, rfl, _, hl, hm, hmm, _, hx⟩
  · exact ⟨([] : List (den e)), ⟨none, 0, 0, rfl, rfl, Nat.le_refl _, .inl rfl⟩, Nat.zero_le _, fun y hy => by cases hy⟩
  · have hlm : len ≤ m := by rw [hmm]; split <;> omega
    have hex : ∀ i, i < len → ∃ y : den e, (∃ c : List Value, c.length = e.sz ∧ RX P e false w (fun b => b < w.heap.size) c y ∧ ∀ j, j < e.sz → w.cell? (a.add (i * e.sz + j)) = c[j]?) ∧ okD e y := fun i hi => by
      obtain ⟨cs', h1, h2⟩ := hx i (by omega)
      rw [hc] at h1
      obtain ⟨_, h3, h4⟩ := World.cells?_some h1
      obtain ⟨y, k1, k2⟩ := he et hu H enc spare held n cs' _ h2
      exact ⟨y, ⟨cs', h3, k1, fun j hj => by rw [← Go.Deep.add_add, h4 j hj]⟩, k2⟩
    by_cases h0 : len = 0
    · subst h0
      exact ⟨([] : List (den e)), ⟨some a, 0, cap, rfl, rfl, hl, .inl rfl⟩, Nat.zero_le _, fun y hy => by cases hy⟩
    · have hY : ∃ Y : Nat → den e, ∀ i, i < len → (∃ c : List Value, c.length = e.sz ∧ RX P e false w (fun b => b < w.heap.size) c (Y i) ∧ ∀ j, j < e.sz → w.cell? (a.add (i * e.sz + j)) = c[j]?) ∧ okD e (Y i) :=
        ⟨fun i => if h : i < len then (hex i h).choose else dflt e, fun i hi => by simp only [dif_pos hi]; exact (hex i hi).choose_spec⟩
      obtain ⟨Y, hY⟩ := hY
      -- the block
      have cellb : ∀ k, k < len * e.sz → ∃ u, w.cell? (a.add k) = some u := fun k hk => by
        have hi : k / e.sz < len := Nat.div_lt_of_lt_mul (by rw [Nat.mul_comm]; exact hk)
        obtain ⟨⟨c, c1, _, c3⟩, _⟩ := hY (k / e.sz) hi
        have hj := Nat.mod_lt k hs
        have := c3 (k % e.sz) hj
        rw [Nat.mul_comm, Nat.div_add_mod] at this
        exact ⟨c[k % e.sz]'(by omega), by rw [this, List.getElem?_eq_getElem]⟩
      have hpos : 0 < len * e.sz := Nat.mul_pos (by omega) hs
      obtain ⟨u0, hu0⟩ := cellb 0 hpos
      have ha : a.add 0 = a := by simp [Addr.add]
      rw [ha] at hu0
      unfold World.cell? at hu0
      split at hu0
      case h_2 => cases hu0
      rename_i arr bt fz hb
      have hspot : a.spot = none := by
        cases hsp : a.spot with
        | none => rfl
        | some q => rw [hsp] at hu0; simp at hu0
      have hadd : ∀ k, w.cell? (a.add k) = arr[a.off + k]? := fun k => by
        unfold Addr.add
        split
        · rename_i hk; subst hk; simp [World.cell?, hb, hspot]
        · simp [World.cell?, hb]
      have hin : a.off + len * e.sz ≤ arr.size := by
        obtain ⟨u, hu⟩ := cellb (len * e.sz - 1) (by omega)
        rw [hadd] at hu
        have := (Array.getElem?_eq_some_iff.1 hu).1
        omega
      have hlen : ((List.range len).map Y).length = len := by simp
      have hget : ∀ i y, ((List.range len).map Y)[i]? = some y → i < len ∧ y = Y i := fun i y hy => by
        rw [List.getElem?_map] at hy
        by_cases hi : i < len
        · rw [List.getElem?_range hi] at hy; exact ⟨hi, by simpa using hy.symm⟩
        · rw [List.getElem?_eq_none (by simpa using hi)] at hy; cases hy
      refine ⟨(List.range len).map Y, ⟨some a, len, cap, rfl, hlen.symm, hl, .inr ⟨a.block, a.off, arr, bt, fz, by rw [← hspot], (Array.getElem?_eq_some_iff.1 hb).1, hb, hin, fun i y hy => ?_⟩⟩, by rw [hlen]; omega, fun y hy => ?_⟩
      · obtain ⟨hi, rfl⟩ := hget i y hy
        obtain ⟨⟨c, c1, c2, c3⟩, _⟩ := hY i hi
        have e1 : seg arr.toList (a.off + i * e.sz) e.sz = c := by
          apply List.ext_getElem?
          intro j
          rw [seg_get]
          by_cases hj : j < e.sz
          · rw [if_pos hj, ← c3 j hj, hadd, Array.getElem?_toList]; congr 1; omega
          · rw [if_neg hj, List.getElem?_eq_none (by omega)]
        rw [e1]; exact c2
      · obtain ⟨i, hi, rfl⟩ := List.mem_map.1 hy
        exact (hY i (List.mem_range.1 hi)).2
theorem opensAll (hO : ∀ t T, ty t = some T → TyOk P ty t T) : ∀ T : Ty, (∀ t, ty t = some T → dataB T = true → OpensD P w t T) ∧ (∀ i t, ty t = some (fld T i) → dataB T = true → OpensD P w t (fld T i))
  | .int k => ⟨fun t ht _ H enc spare held fuel cs x h => by
      obtain ⟨d, hd, hu⟩ := (hO _ _ ht).und
      cases d <;> simp only [UnOk] at hu
      subst hu
      obtain ⟨n, rfl, _, hw⟩ := DataW.trod_int hd h
      exact ⟨n, rfl, hw⟩, fun i t ht _ => (no_unit (hO t .unit (by rw [ht]; cases i <;> rfl))).elim⟩
  | .bool => ⟨fun t ht _ H enc spare held fuel cs x h => by
      obtain ⟨d, hd, hu⟩ := (hO _ _ ht).und
      cases d <;> simp only [UnOk] at hu
      obtain ⟨b, rfl, _⟩ := DataW.trod_bool hd h
      exact ⟨b, rfl, trivial⟩, fun i t ht _ => (no_unit (hO t .unit (by rw [ht]; cases i <;> rfl))).elim⟩
  | .str => ⟨fun t ht _ H enc spare held fuel cs x h => by
      obtain ⟨d, hd, hu⟩ := (hO _ _ ht).und
      cases d <;> simp only [UnOk] at hu
      obtain ⟨s, rfl, _, hs⟩ := DataW.trod_string hd h
      exact ⟨s, rfl, hs⟩, fun i t ht _ => (no_unit (hO t .unit (by rw [ht]; cases i <;> rfl))).elim⟩
  | .unit => ⟨fun t ht _ => (no_unit (hO _ _ ht)).elim, fun i t ht _ => (no_unit (hO t .unit (by rw [ht]; cases i <;> rfl))).elim⟩
  | .pair A B => ⟨fun t ht _ => (no_pair (hO _ _ ht)).elim, fun i t ht hd => by
      simp only [dataB, Bool.and_eq_true] at hd
      cases i with
      | zero => exact (opensAll hO A).1 t ht hd.1
      | succ i => exact (opensAll hO B).2 i t ht hd.2⟩
  | .st f => ⟨fun t ht hd H enc spare held fuel cs x h => by
      obtain ⟨d, hdd, hu⟩ := (hO _ _ ht).und
      cases d <;> simp only [UnOk] at hu
      rename_i fs
      simp only [dataB, Bool.and_eq_true] at hd
      obtain ⟨xs, n, _, _, hl, hxl, hf⟩ := DataW.trod_struct hdd h
      have hsz : cs.length = f.sz := by rw [hl]; exact (hO _ _ ht).cellsOf
      obtain ⟨y, y1, y2⟩ := opens_fields (n := n) (enc := enc) (spare := spare) (held := held) (w := w) hO f fs.toList 0 cs xs hd.1 (by simpa using hu.1) (by simpa using hxl) (fun i g hg => by
        have := hu.2 i g (by simpa using hg)
        exact ⟨by rw [this.1, Nat.zero_add], this.2.1⟩) (fun i g hg => (opensAll hO f).2 i g.type (hu.2 i g (by simpa using hg)).2.1 hd.2) (fun i g hg => hf i g (by simpa using hg)) (by rw [hsz, Nat.zero_add])
      exact ⟨y, y1, y2⟩, fun i t ht _ => (no_unit (hO t .unit (by rw [ht]; cases i <;> rfl))).elim⟩
  | .sl e => ⟨fun t ht hd => by
      simp only [dataB, Bool.and_eq_true] at hd
      exact opens_sl hO (Nat.le_of_ble_eq_true hd.2) ht fun et het => (opensAll hO e).1 et het hd.1, fun i t ht _ => (no_unit (hO t .unit (by rw [ht]; cases i <;> rfl))).elim⟩
  | .tup _ => ⟨fun t ht hd => (by cases hd), fun i t ht hd => (by cases hd)⟩
  | .arr _ _ => ⟨fun t ht hd => (by cases hd), fun i t ht hd => (by cases hd)⟩
  | .ptr _ => ⟨fun t ht hd => (by cases hd), fun i t ht hd => (by cases hd)⟩
  | .fn _ _ => ⟨fun t ht hd => (by cases hd), fun i t ht hd => (by cases hd)⟩
end
end Go.Proofs.Ytckkagmccbkfbaa.E
namespace Go.Proofs.Ytckkagmccbkfbaa.E
open Go Go.RowKit
set_option linter.unusedVariables false
set_option linter.unusedSimpArgs false
theorem lpL_none {C : Cx} {R : Type} {en : Env R} {c : Code} {l : List (Bool × Code)} (hL : (en.L (rid c)).isNone = true) (hl : LpL C en l) : LpL C en ((true, c) :: l) :=
  ⟨fun g hg => (by rw [hg] at hL; cases hL), hl⟩
theorem fnOk_none {P : Program} {f : Nat} {pas ret : Ty} {mu : List Bool} : FnOk P f ⟨pas, mu, ret, fun _ => none⟩ :=
  ⟨fun _ w vs x y _ h => (by cases h), fun _ R h => (by have h : ret = .pair R (outT pas mu) := h; subst h; intro w vs x y z bs _ _ h; cases h)⟩
/-- A call of a function with a body, told as the kit tells it. -/
theorem cf_of_calls {P : Program} {f : FuncId} {fn : Func} {c : Code} {args : Array Value} {w : World} {G : Value → World → Prop} (hf : P.funcs[f]? = some fn) (hname : (fn.name == "runtime.NumGoroutine") = false) (hb : fn.body = some c)
    (h : Calls P f args w fun e w' => ∃ v, e = .returned v ∧ G v w') : CF P f args w G := by
  intro o a next Q hn
  rw [run_enter hf hname hb, Oper.upon_enter]
  refine h.mono ?_
  rintro e w' ⟨v, rfl, g⟩
  exact hn v w' g
/-- A call that the model answers at once. -/
theorem cf_of_value {P : Program} {f : FuncId} {args : Array Value} {w w' : World} {v : Value} {G : Value → World → Prop} (h : (callFunc f args).run P w = .ok (.value v) w') (hG : G v w') : CF P f args w G := by
  intro o a next Q hn
  rw [h, Oper.upon_value]
  exact hn v w' hG
theorem ret_plain {R : Ty} (hm : R.mem = false) (hp : R.isPU = false) (ht : R.isTup = false) {y : den R} {w w' : World} {c : List Value} (h : TC R w' c y []) (hb : Below w.heap.size w w') : Ret R y w (valOf R c) w' := by
  refine ⟨[], ?_, List.nodup_nil, fun b hb => (by cases hb), hb⟩
  cases R <;> first | exact ⟨c, rfl, h⟩ | exact h.elim | exact absurd hp (by decide) | exact absurd ht (by decide) | exact absurd hp (fun h => by cases h) | exact absurd ht (fun h => by cases h)
end Go.Proofs.Ytckkagmccbkfbaa.E
namespace Go.Proofs.Ytckkagmccbkfbaa.E
open Go Go.RowKit Go.Shelf
set_option linter.unusedVariables false
set_option linter.unusedSimpArgs false
theorem cellAt {w : World} {b o : Nat} {arr : Array Value} {t : TypeId} {fz : Nat × Nat} (h : w.heap[b]? = some (.cells arr t fz)) (j : Nat) : w.cell? ⟨b, o + j, none⟩ = arr[o + j]? := by
  simp [World.cell?, h]
set_option maxHeartbeats 2000000 in
set_option maxRecDepth 100000 in
/-- slices.Clone of a slice that is not nil, whatever its address. -/
theorem clone_calls {P : Program} {ρ : Ren} (L : SlLaysE0.n41 P ρ) (i0 : TypeInfo) (z : Value) (size bytes : Nat) (hi : P.info? (ρ.t 23) = some i0) (hz0 : i0.zero = some z) (hz1 : i0.size = size) (hz2 : i0.bytes = bytes) (hzs : z.cells.size = size) (hsz : 0 < size)
    (z23 : ∀ w, (Go.sizeOf (ρ.t 23)).run P w = .ok size w) (a : Addr) (n c : Nat) (news : List Value) (w : World) (hl : news.length = n * size) (hn : n ≤ maxLen) (hbig : n * bytes ≤ 140737488355328)
    (hc : ∀ j u, news[j]? = some u → w.cell? (a.add j) = some u) (h1 : ∀ u ∈ news, u.oneCell' = true) :
    Calls P (ρ.f 41) #[.slice (some a) n c] w fun e w' => ∃ v', e = .returned v' ∧ w'.ownsRow w.heap.size (ρ.t 23) size v' n news ∧ Below w.heap.size w w' := by
  have mixed := L.mixed; have t4 := L.t4; have a4 := L.a4; have z4 := L.z4; have v4 := L.v4; have t22 := L.t22; have a22 := L.a22; have z22 := L.z22; have v22 := L.v22
  have q22 : ∀ (w : World) (a : Option Addr) (n c n' c' : Nat), (binOp .eql (ρ.t 22) (.slice a n c) (.slice none n' c')).run P w = .ok (.bool a.isNone) w := fun w a n c n' c' => Lib.run_eql_slice_nil w _ _ a n c n' c' L.t22
  have u22 : ∀ w, Sem.run P (underlying (ρ.t 22)) w = .ok (TypeDesc.slice (ρ.t 23)) w := run_underlying t22
  have A : Aside (∀ j u, news[j]? = some u → w.cell? (a.add j) = some u) := hc
  clear hc
  obtain ⟨_, _, FG⟩ := L.f41
  go_enter FG, SlBodyN.n41_ntmps ρ
  go_wp2_with (at_builtin; refine wpList_append_own _ rfl _ _ (ρ.t 22) rfl w.heap.size (ρ.t 23) i0 z size bytes t22 hi hz0 hz1 hz2 hzs hsz _ _ _ rfl (World.ownsRow_made w #[] 0 (Nat.le_refl _) (Nat.zero_le _) (by simp)) a n c news rfl ?qc1 ?qc2 ?qc3 ?qc4 ?qc5 ?qc6 ?_)
  case qc1 => exact hl
  case qc2 =>
    intro j u hj
    exact Lib.cell?_alloc_some _ (A.out j u hj)
  case qc3 => exact h1
  case qc4 => rw [Nat.zero_add]; exact hn
  case qc5 => rw [Nat.zero_add]; exact hbig
  case qc6 => simp
  intro v' w1 hown hgrow hnil
  go_wp2
  go_ret
  refine ⟨v', rfl, by simpa using hown, ?_⟩
  exact ((Below.refl _ w).alloc (Nat.le_refl _) _).grown hgrow (by simp) (by intro k hk; simp [Value.ownBlock] at hk; omega)
theorem clone_ok {P : Program} {ρ : Ren} (L : SlLaysE0.n41 P ρ) {ty : Nat → Option Ty} {e : Ty} (ht : TyOk P ty (ρ.t 23) e) (hm : e.mem = false) {z : SV} (hz : zeroSV e = some z) (hw : e.ownable = true) (hs : 0 < e.sz) :
    FnOk P (ρ.f 41) ⟨.pair (.sl e) .unit, [false], .sl e, fun x => if (x.1 : List (den e)).length ≤ lim then some x.1 else none⟩ := by
  refine ⟨fun _ => ?_, fun h => by cases h⟩
  intro w vs x y hx hy
  obtain ⟨c, r, rfl, hc, hr⟩ := hx
  have hr : r = [] := hr
  subst hr
  obtain ⟨a, n, cp, rfl, hn, hcp, hl⟩ := hc
  have hy : (if (x.1 : List (den e)).length ≤ lim then some x.1 else none) = some y := hy
  split at hy
  case isFalse => cases hy
  rename_i hlim
  cases hy
  obtain ⟨nm, hnm, hf⟩ := L.f41
  obtain ⟨i, hi, hsz, hb1, hb2, hzz⟩ := zero_val ht hz hw
  refine cf_of_calls hf hnm rfl ?_
  have nil_case : x.1 = [] → Calls P (ρ.f 41) #[.slice none n cp] w fun e' w' => ∃ v, e' = .returned v ∧ Ret (.sl e) x.1 w v w' := fun h0 => by
    refine (AnyE.slices_Clone_nil L n cp w).mono ?_
    rintro e' w' ⟨rfl, rfl⟩
    exact ⟨_, rfl, [], ⟨_, rfl, .inl ⟨rfl, h0, rfl⟩⟩, List.nodup_nil, fun b hb => (by cases hb), Below.refl _ _⟩
  cases a with
  | none =>
    rcases hl with h0 | ⟨b, o, arr, t, fz, h1, _⟩
    · exact nil_case h0
    · cases h1
  | some a =>
    have hcl : ∃ news : List Value, news.length = n * e.sz ∧ (∀ j u, news[j]? = some u → w.cell? (a.add j) = some u) ∧ (∀ u ∈ news, u.oneCell' = true) ∧
        ∀ (i : Nat) y, (x.1 : List (den e))[i]? = some y → TC e w (seg news (i * e.sz) e.sz) y [] := by
      rcases hl with h0 | ⟨b, o, arr, t, fz, h1, hb, hh, ho, hel⟩
      · have h0 : (x.1 : List (den e)) = [] := h0
        have hn0 : n = 0 := by rw [hn, h0]; rfl
        exact ⟨[], by rw [hn0]; simp, fun j u h => (by simp at h), fun u h => (by cases h), fun i y h => by rw [h0] at h; simp at h⟩
      · cases h1
        have hal : arr.toList.length = arr.size := Array.length_toList
        have hlen : (seg arr.toList o (n * e.sz)).length = n * e.sz := seg_len (by rw [hal]; exact ho)
        have hel' : ∀ (i : Nat) y, (x.1 : List (den e))[i]? = some y → TC e w (seg (seg arr.toList o (n * e.sz)) (i * e.sz) e.sz) y [] := fun i y hy => by
          have hi : i < n := by rw [hn]; exact (List.getElem?_eq_some_iff.1 hy).1
          have hm1 : (i + 1) * e.sz ≤ n * e.sz := Nat.mul_le_mul_right _ hi
          rw [Nat.succ_mul] at hm1
          rw [seg_seg _ hm1]
          exact TC_of_RX P e hm (hel i y hy)
        refine ⟨seg arr.toList o (n * e.sz), hlen, fun j u hj => ?_, fun u hu => ?_, hel'⟩
        · rw [seg_get] at hj
          split at hj
          case isFalse => cases hj
          rw [show (⟨b, o, none⟩ : Addr).add j = ⟨b, o + j, none⟩ from Addr.add_lit .., cellAt hh, ← Array.getElem?_toList]
          exact hj
        · obtain ⟨k, hk⟩ := List.getElem?_of_mem hu
          have hk2 := (List.getElem?_eq_some_iff.1 hk).1
          rw [hlen] at hk2
          have hi : k / e.sz < n := Nat.div_lt_of_lt_mul (by rw [Nat.mul_comm]; exact hk2)
          have hmod := Nat.mod_lt k hs
          have hi2 : k / e.sz < (x.1 : List (den e)).length := by rw [← hn]; exact hi
          have := TC_one (hel' (k / e.sz) _ (List.getElem?_eq_getElem hi2)) u (by
            refine List.mem_of_getElem? (i := k % e.sz) ?_
            rw [seg_get, if_pos hmod, Nat.mul_comm (k / e.sz), Nat.div_add_mod]; exact hk)
          exact this
    obtain ⟨news, hl1, hl2, hl3, hl4⟩ := hcl
    have hn40 : n ≤ 1099511627776 := by rw [hn]; exact hlim
    refine (clone_calls L i _ e.sz i.bytes hi hzz.1 hsz rfl (by rw [hzz.2]; simp; exact TC_len _ _ _ _ _ (TC_zero e (w := w) hz hw)) hs (fun w => ht.sizeOf w) a n cp news w hl1 (by unfold maxLen; omega) ?_ hl2 hl3).mono ?_
    · have := Nat.mul_le_mul hn40 hb1; omega
    rintro e' w' ⟨v', rfl, hown, hbel⟩
    refine ⟨v', rfl, ?_⟩
    obtain ⟨ho1, ho2⟩ := hown
    rcases ho2 with ⟨rfl, h0⟩ | ⟨g, cap, cur, rfl, hg, hcur, hle, hmx, hcs, htk⟩
    · have h0' : (x.1 : List (den e)) = [] := List.length_eq_zero_iff.1 (by rw [← hn]; exact h0)
      exact ⟨[], ⟨_, rfl, .inl ⟨rfl, h0', rfl⟩⟩, List.nodup_nil, fun b hb => (by cases hb), hbel⟩
    · refine ⟨[g], ⟨_, rfl, .inr ⟨g, 0, n, cap, cur, _, List.replicate n [], rfl, ?_, hn, hcur, hle, by rw [hcs]; omega, by simp, fun j y bi hy hbi => ?_⟩⟩, by simp, fun b hb => ?_, hbel⟩
      · congr 1; simp
      · have hbi' : bi = [] := List.eq_of_mem_replicate (List.mem_of_getElem? hbi)
        subst hbi'
        have hj : j < n := by rw [hn]; exact (List.getElem?_eq_some_iff.1 hy).1
        have hm1 : (j + 1) * e.sz ≤ n * e.sz := Nat.mul_le_mul_right _ hj
        rw [Nat.succ_mul] at hm1
        have e1 : seg cur.toList (0 + j * e.sz) e.sz = seg news (j * e.sz) e.sz := by
          rw [Nat.zero_add, ← htk]
          apply List.ext_getElem?
          intro k
          rw [seg_get, seg_get]
          by_cases hk : k < e.sz
          · rw [if_pos hk, if_pos hk, List.getElem?_take, if_pos (by omega)]
          · rw [if_neg hk, if_neg hk]
        rw [e1]
        exact TC_congr e (fun b hb => by cases hb) (hl4 j y hy)
      · simp only [List.mem_singleton] at hb; subst hb
        exact ⟨hg, (Array.getElem?_eq_some_iff.1 hcur).1⟩
/-- The library's search for a byte in a string. -/
theorem indexByte_ok {P : Program} {f : FuncId} {fn : Func} (hf : P.funcs[f]? = some fn) (hname : (fn.name == "runtime.NumGoroutine") = false) (hb : fn.body.isNone = true) (hn : Extern.findNext fn = none) (he : Extern.find fn = some Extern.BytealgIndexByte.indexByte) :
    FnOk P f ⟨.pair .str (.pair (.int .u8) .unit), [false, false], .int .i64, fun x => some (Lib.indexByte (x.1 : ByteArray).data.toList (x.2.1 : Int).toNat.toUInt8)⟩ := by
  refine ⟨fun _ => ?_, fun h => by cases h⟩
  intro w vs x y hx hy
  obtain ⟨c, r, rfl, hc, c2, r2, rfl, hc2, hr⟩ := hx
  have hr : r2 = [] := hr
  subst hr
  have hc : c = [.string x.1] := hc
  have hc2 : c2 = [.int .u8 x.2.1] := hc2
  subst hc; subst hc2
  cases hy
  refine cf_of_value (by
    rw [run_callFunc_extern hf hname hb hn he]
    show ((Extern.BytealgIndexByte.indexByte #[.string x.1, .int .u8 x.2.1]).run P w).andThen _ = _
    rw [Lib.run_indexByteString]; rfl) ?_
  exact ⟨[], ⟨_, rfl, rfl, rfl⟩, List.nodup_nil, fun b hb => (by cases hb), Below.refl _ _⟩
end Go.Proofs.Ytckkagmccbkfbaa.E
namespace Go.Proofs.Ytckkagmccbkfbaa.E
open Go Go.RowKit Go.ChangeShapes Go.WideShapes Go.ChangeAt
set_option linter.unusedVariables false
set_option linter.unusedSimpArgs false
theorem ok_valOf {P : Program} {ty : Nat → Option Ty} {w : World} {base t : Nat} {T : Ty} (h : TyOk P ty t T) (hd : dataB T = true) {v : Value} (hv : Value.okWide P w .any base t v) : v = valOf T v.cells.toList := by
  obtain ⟨d, hu, hok⟩ := h.und
  cases T with
  | st f =>
    cases d <;> simp only [UnOk] at hok
    simp only [Value.okWide, hu] at hv
    obtain ⟨cs, rfl, _⟩ := hv
    simp [Value.cells, valOf]
  | int k =>
    cases d <;> simp only [UnOk] at hok
    simp only [Value.okWide, Cell.okWide, hu] at hv
    cases v <;> simp_all [Cell.ok, Value.cells, valOf]
  | bool =>
    cases d <;> simp only [UnOk] at hok
    simp only [Value.okWide, Cell.okWide, hu] at hv
    cases v <;> simp_all [Cell.ok, Value.cells, valOf]
  | str =>
    cases d <;> simp only [UnOk] at hok
    simp only [Value.okWide, Cell.okWide, hu] at hv
    cases v <;> simp_all [Cell.ok, Value.cells, valOf]
  | sl e =>
    cases d <;> simp only [UnOk] at hok
    simp only [Value.okWide, Cell.okWide, hu] at hv
    cases v <;> simp_all [Cell.ok, Value.cells, valOf]
  | unit => exact (no_unit h).elim
  | pair a b => exact (no_pair h).elim
  | tup _ => cases hd
  | arr _ _ => cases hd
  | ptr _ => cases hd
  | fn _ _ => cases hd
/-- One argument: what it reads as, its cells, what is known of it. -/
theorem arg_open {P : Program} {ty : Nat → Option Ty} {w : World} {base t : Nat} {T : Ty} (O : ∀ t T, ty t = some T → TyOk P ty t T) (ht : ty t = some T) (hd : dataB T = true) {v : Value} (hv : Value.okWide P w .any base t v)
    {H : Type} {enc : TypeId × Value → H} {spare : Nat → Bool} {held : Bool} {d : DataW H} {ps : List MemPlace} (h : DataW.Trod enc P w 0 spare held t v d ps) :
    ∃ y : den T, v = valOf T v.cells.toList ∧ RX P T false w (fun b => b < w.heap.size) v.cells.toList y ∧ okD T y := by
  obtain ⟨m, hm⟩ := h
  obtain ⟨y, y1, y2⟩ := (opensAll (w := w) O T).1 t ht hd H enc spare held m _ _ hm
  exact ⟨y, ok_valOf (O t T ht) hd hv, y1, y2⟩
theorem ret_bool {w w' : World} {v : Value} {b : Bool} (h : Ret .bool b w v w') : v = .bool b ∧ Below w.heap.size w w' := by
  obtain ⟨bs, ⟨cs, e, h1, h2⟩, _, _, h3⟩ := h
  refine ⟨?_, h3⟩
  have h1 : cs = [.bool b] := h1
  subst h1
  simpa [valOf] using e
end Go.Proofs.Ytckkagmccbkfbaa.E
namespace Go.Proofs.Ytckkagmccbkfbaa.E
open Go Go.RowKit
set_option linter.unusedVariables false
set_option linter.unusedSimpArgs false
section
variable {C : Cx} {cf : Cfg} {st st' : St} {a : Act} {w w' : World} {G G' : Gh} {us : U}
theorem kcan_fit : ∀ (sh : Shp) (d : Nat), sh.okI = true → KFit sh (kcan sh d).1 ∧ ∀ p ∈ (kcan sh d).1.ids, p.2 = 1
  | .v T, d, _ => ⟨trivial, fun p hp => (by cases hp)⟩
  | .r e, d, _ => ⟨trivial, fun p hp => by simp only [kcan, KS.ids, List.mem_singleton] at hp; rw [hp]⟩
  | .bx c, d, h => by cases h
  | .unit, d, _ => ⟨trivial, fun p hp => (by cases hp)⟩
  | .pair a b, d, h => by
    simp only [Shp.okI, Bool.and_eq_true] at h
    obtain ⟨h1, h2⟩ := kcan_fit a d h.1
    obtain ⟨h3, h4⟩ := kcan_fit b (kcan a d).2 h.2
    exact ⟨⟨h1, h3⟩, fun p hp => (List.mem_append.1 hp).elim (h2 p) (h4 p)⟩
  | .st a, d, h => kcan_fit a d h
theorem kzL_fit : ∀ (l : Lv) {vs : List Value}, (l.all fun z => z.2.okO) = true → vs.length = l.length → FitL st0 G l (kzL l) vs
  | [], vs, _, hv => by rw [List.length_eq_zero_iff.1 hv]; trivial
  | (i, sh) :: l, [], _, hv => by simp at hv
  | (i, sh) :: l, v :: vs, h, hv => by
    simp only [List.all_cons, Bool.and_eq_true] at h
    have ih := kzL_fit l (vs := vs) h.2 (by simpa using hv)
    have g0 : ∀ k, (st0 k).gen = 0 := fun k => rfl
    cases sh with
    | bx c =>
      obtain ⟨h1, h2⟩ := kcan_fit c (8 * i + 1) h.1
      exact ⟨h1, fun p hp => by rw [h2 p hp]; exact Nat.zero_lt_one, .inl Nat.zero_lt_one, ih⟩
    | _ =>
      have hI := h.1
      simp only [Shp.okO, Bool.and_eq_true] at hI
      obtain ⟨h1, h2⟩ := kcan_fit _ (8 * i) hI.1
      exact ⟨h1, fun p hp => by rw [h2 p hp]; exact Nat.zero_lt_one, ih⟩
theorem putS_keys : ∀ (sh : Shp) (k : KS) (x : den sh.ty), KFit sh k → (putS sh k x).2.map (·.1) = k.keys
  | .v T, k, x, h => by cases k <;> first | rfl | exact h.elim
  | .r e, k, x, h => by cases k <;> first | rfl | exact h.elim
  | .bx c, k, x, h => by cases k <;> exact h.elim
  | .unit, k, x, h => by cases k <;> first | rfl | exact h.elim
  | .pair a b, k, x, h => by
    cases k <;> try exact h.elim
    rename_i k1 k2
    show ((putS a k1 x.1).2 ++ (putS b k2 x.2).2).map (·.1) = _
    rw [List.map_append, putS_keys a k1 x.1 h.1, putS_keys b k2 x.2 h.2]; rfl
  | .st a, k, x, h => by
    cases k <;> try exact h.elim
    rename_i k1
    exact putS_keys a k1 x h
theorem putL_keys : ∀ (l : Lv) (ks : List (Nat × Nat × KS)) (x : den l.ty) {vs : List Value}, FitL st G l ks vs → (putL l ks x).2.map (·.1) = keysL l ks
  | [], [], x, vs, h => rfl
  | [], _ :: _, x, vs, h => rfl
  | (i, sh) :: l, [], x, vs, h => by cases sh <;> cases vs <;> exact h.elim
  | (i, sh) :: l, k :: ks, x, [], h => by cases sh <;> exact h.elim
  | (i, sh) :: l, (b, g, k) :: ks, x, v :: vs, h => by
    cases sh with
    | bx c =>
      show ((bk b, _) :: (putS c k x.1).2 ++ (putL l ks x.2).2).map (·.1) = _
      rw [List.map_append, List.map_cons, putS_keys c k x.1 h.1, putL_keys l ks x.2 h.2.2.2]; rfl
    | v T =>
      show ((putS _ k x.1).2 ++ (putL l ks x.2).2).map (·.1) = _
      rw [List.map_append, putS_keys _ k x.1 h.1, putL_keys l ks x.2 h.2.2]; rfl
    | r T =>
      show ((putS _ k x.1).2 ++ (putL l ks x.2).2).map (·.1) = _
      rw [List.map_append, putS_keys _ k x.1 h.1, putL_keys l ks x.2 h.2.2]; rfl
    | unit =>
      show ((putS _ k x.1).2 ++ (putL l ks x.2).2).map (·.1) = _
      rw [List.map_append, putS_keys _ k x.1 h.1, putL_keys l ks x.2 h.2.2]; rfl
    | pair A B =>
      show ((putS _ k x.1).2 ++ (putL l ks x.2).2).map (·.1) = _
      rw [List.map_append, putS_keys _ k x.1 h.1, putL_keys l ks x.2 h.2.2]; rfl
    | st A =>
      show ((putS _ k x.1).2 ++ (putL l ks x.2).2).map (·.1) = _
      rw [List.map_append, putS_keys _ k x.1 h.1, putL_keys l ks x.2 h.2.2]; rfl
/-- The slots of the parameters. -/
theorem slots_sw {P : Program} {S : Nat → Prop} : ∀ (l : Lv) (v : SV) {vs : List Value} (i0 : Nat), idxs i0 l = true → SX P st G w S v true vs → ∀ z ∈ slotsU l v, ∃ j v', z = (sk (i0 + j), .sv v') ∧ j < vs.length ∧ SW P st G w S v' (vs.getD j undef)
  | [], v, vs, i0, _, _, z, hz => by cases v <;> cases hz
  | (i, sh) :: l, v, vs, i0, hi, h, z, hz => by
    cases v with
    | pair a b =>
      obtain ⟨c, r, rfl, h1, h2⟩ := h
      simp only [idxs, Bool.and_eq_true] at hi
      have hi0 := Nat.eq_of_beq_eq_true hi.1
      subst hi0
      rcases List.mem_cons.1 hz with hz | hz
      · refine ⟨0, a, hz, by simp, ?_⟩
        show SW P st G w S a (valS a c)
        cases a <;> first | exact ⟨c, rfl, h1⟩ | exact h1.elim
      · obtain ⟨j, v', k1, k2, k3⟩ := slots_sw l b (i + 1) hi.2 h2 z hz
        refine ⟨j + 1, v', by rw [k1]; congr 2; omega, by simpa using k2, by simpa using k3⟩
    | _ => cases hz
theorem slots_keys : ∀ (l : Lv) (v : SV) (i0 : Nat), idxs i0 l = true → ((slotsU l v).map (·.1)).Nodup ∧ ∀ z ∈ slotsU l v, ∃ j v', z = (sk j, .sv v') ∧ i0 ≤ j
  | [], v, i0, _ => by cases v <;> exact ⟨List.nodup_nil, fun z hz => (by cases hz)⟩
  | (i, sh) :: l, v, i0, hi => by
    cases v with
    | pair a b =>
      simp only [idxs, Bool.and_eq_true] at hi
      have hi0 := Nat.eq_of_beq_eq_true hi.1
      subst hi0
      obtain ⟨h1, h2⟩ := slots_keys l b (i + 1) hi.2
      refine ⟨?_, fun z hz => ?_⟩
      · show (sk i :: (slotsU l b).map (·.1)).Nodup
        rw [List.nodup_cons]
        refine ⟨fun hm => ?_, h1⟩
        obtain ⟨z, hz, e⟩ := List.mem_map.1 hm
        obtain ⟨j, v', e2, hj⟩ := h2 z hz
        rw [e2] at e
        have := sk_inj e
        omega
      · rcases List.mem_cons.1 hz with hz | hz
        · exact ⟨i, a, hz, Nat.le_refl _⟩
        · obtain ⟨j, v', k1, k2⟩ := h2 z hz
          exact ⟨j, v', k1, by omega⟩
    | _ => exact ⟨List.nodup_nil, fun z hz => (by cases hz)⟩
theorem entry_invS {P : Program} {ps : Lv} {vals : List Value} {x : den ps.ty} {bs : List Nat} {S : Nat → Prop} {pr nt : Nat} (h : XL P ps w S vals x bs) (hn : bs.Nodup) (hS : ∀ b, S b → b < w.heap.size ∧ b ∉ bs) (hbs : ∀ b ∈ bs, b < w.heap.size) (hok : entSB ps = true) (hlen : ps.length ≤ nt) (hpr : pr ≤ ps.length) :
    ∃ G, Inv ⟨P, w, bs, vals, pr, nt, fun b => S b ∨ w.heap.size ≤ b ∨ b ∈ bs⟩ (entSt ps x) { tmps := vals.toArray ++ Array.replicate (nt - vals.toArray.size) undef, defers := [] } w G := by
  simp only [entSB, Bool.and_eq_true, nodupB_iff] at hok
  obtain ⟨⟨hi, hO⟩, hkn⟩ := hok
  have hvl := XL_len _ h
  let G0 : Gh := ⟨fun _ => undef, fun _ => [], fun _ => 0, fun b => S b ∨ w.heap.size ≤ b ∨ b ∈ bs⟩
  have hfit := kzL_fit (G := G0) ps (vs := vals) hO hvl
  obtain ⟨ge, K⟩ := putL_ok (st := st0) (G := G0) (fun b hb => (hS b hb).1) ps (kzL ps) x hfit h
  have hke := putL_keys ps (kzL ps) x hfit
  have hkn : ((putL ps (kzL ps) x).2.map (·.1)).Nodup := by rw [hke]; exact hkn
  have hkg : (ge.map (·.1)).Nodup := K.keys ▸ hkn
  obtain ⟨hsn, hsk⟩ := slots_keys ps (putL ps (kzL ps) x).1 0 hi
  have bn : (ge.flatMap (·.2.2)).Nodup := K.bls ▸ hn
  let G : Gh := ⟨fun k => match ge.lookup k with | some q => q.1 | none => undef, fun k => match ge.lookup k with | some q => q.2 | none => [], fun k => match ge.lookup k with | some q => q.2.headD 0 | none => 0, fun b => S b ∨ w.heap.size ≤ b ∨ b ∈ bs⟩
  have hga : GA G ge := fun q hq => by
    have := lkp_mem ge hkg (show (q.1, q.2) ∈ ge from hq)
    refine ⟨?_, ?_, ?_⟩
    · show (match ge.lookup q.1 with | some q => q.1 | none => undef) = _; rw [this]
    · show (match ge.lookup q.1 with | some q => q.2 | none => []) = _; rw [this]
    · show (match ge.lookup q.1 with | some q => q.2.headD 0 | none => 0) = _; rw [this]
  have hin : ∀ z ∈ (putL ps (kzL ps) x).2, entSt ps x z.1 = z.2 := fun z hz => upds_in _ _ hkn (by simpa using hz)
  have hcell : ∀ z ∈ (putL ps (kzL ps) x).2, ∀ i, z.1 ≠ sk i := fun z hz i e => by
    obtain ⟨q, _, _, ⟨t, _, _, _, h1, _⟩ | ⟨b, _, _, _, _, _, _, h1, _⟩⟩ := K.cell z hz
    · rw [h1] at e; exact sk_ne_rk _ _ e.symm
    · rw [h1] at e; exact sk_ne_bk _ _ e.symm
  have hslot : ∀ i, entSt ps x (sk i) = upds st0 (slotsU ps (putL ps (kzL ps) x).1) (sk i) := fun i => upds_out _ _ _ fun p hp e => hcell p hp i e
  have hout : ∀ k, (∀ i, k ≠ sk i) → k ∉ (putL ps (kzL ps) x).2.map (·.1) → entSt ps x k = .none := fun k h1 h2 => by
    have e1 : entSt ps x k = upds st0 (slotsU ps (putL ps (kzL ps) x).1) k := upds_out _ _ _ fun p hp e => h2 (List.mem_map.2 ⟨p, hp, e⟩)
    rw [e1, upds_out _ _ _ fun p hp e => ?_]; rfl
    obtain ⟨j, v', e2, _⟩ := hsk p hp
    rw [e2] at e; exact h1 j e.symm
  have hsl : ∀ i, entSt ps x (sk i) = .none ∨ ∃ v, entSt ps x (sk i) = .sv v ∧ (sk i, Cell.sv v) ∈ slotsU ps (putL ps (kzL ps) x).1 := fun i => by
    rw [hslot i]
    by_cases hk : ∃ p ∈ slotsU ps (putL ps (kzL ps) x).1, p.1 = sk i
    · obtain ⟨p, hp, e⟩ := hk
      obtain ⟨j, v', e2, _⟩ := hsk p hp
      rw [e2] at e
      have := sk_inj e
      subst this
      right
      rw [e2] at hp
      exact ⟨v', upds_in _ _ hsn hp, hp⟩
    · left
      rw [upds_out _ _ _ fun p hp e => hk ⟨p, hp, e⟩]; rfl
  have hmem : ∀ k, entSt ps x k ≠ .none → (∀ i, k ≠ sk i) → ∃ z ∈ (putL ps (kzL ps) x).2, z.1 = k := fun k h1 h2 => by
    by_cases hk : k ∈ (putL ps (kzL ps) x).2.map (·.1)
    · obtain ⟨z, hz, e⟩ := List.mem_map.1 hk; exact ⟨z, hz, e⟩
    · exact absurd (hout k h2 hk) h1
  have hns : ∀ k c, entSt ps x k = c → (∀ v, c ≠ .sv v) → c ≠ .none → ∃ z ∈ (putL ps (kzL ps) x).2, z.1 = k := fun k c h1 h2 h3 => by
    refine hmem k (by rw [h1]; exact h3) fun i e => ?_
    subst e
    rcases hsl i with h | ⟨v, h, _⟩
    · rw [h] at h1; exact h3 h1.symm
    · rw [h] at h1; exact h2 v h1.symm
  have hown : ∀ k b, b ∈ ownB (entSt ps x) G k → ∃ z ∈ (putL ps (kzL ps) x).2, z.1 = k := fun k b hb => by
    unfold ownB at hb
    split at hb
    · rename_i g h e l hr; exact hns k _ hr (fun v e => by cases e) (by simp)
    · rename_i g T v hr; exact hns k _ hr (fun v e => by cases e) (by simp)
    · cases hb
  have hz : ∀ z ∈ (putL ps (kzL ps) x).2, ∃ q ∈ ge, q.1 = z.1 ∧ ownB (entSt ps x) G z.1 = q.2.2 := fun z hz => by
    obtain ⟨q, hq, e, h⟩ := K.cell z hz
    refine ⟨q, hq, e, ?_⟩
    have hz2 := hin z hz
    have g := hga q hq
    rw [e] at g
    unfold ownB
    rw [hz2]
    rcases h with ⟨t, g', e', l, h1, _⟩ | ⟨b, g', T, v, blk, arr, ty, h1, h2, _⟩
    · rw [h1]; rw [h1] at g; exact g.2.1
    · rw [h1]; rw [h1] at g
      show [G.bx (bk b)] = _
      rw [g.2.2, h2]; rfl
  have hfz : ∀ b, S b → Fz (entSt ps x) G w b := fun b hb => by
    refine ⟨(hS b hb).1, fun k hk => ?_, .inl hb⟩
    obtain ⟨z, hz1, rfl⟩ := hown k b hk
    obtain ⟨q, hq, _, ho⟩ := hz z hz1
    rw [ho] at hk
    exact (hS b hb).2 (by rw [K.bls]; exact List.mem_flatMap.2 ⟨q, hq, hk⟩)
  have hinst : Inst (putL ps (kzL ps) x).2 ge S w (entSt ps x) G (Fz (entSt ps x) G w) := ⟨hin, hga, hfz, fun b hb => hb.1⟩
  have hsx := K.sx _ _ _ hinst
  have hsize : vals.toArray.size = vals.length := by simp
  have htm : ∀ i, i < vals.length → ({ tmps := vals.toArray ++ Array.replicate (nt - vals.toArray.size) undef, defers := [] } : Act).tmps.getD i undef = vals.getD i undef := fun i hi => by
    show (vals.toArray ++ Array.replicate (nt - vals.toArray.size) undef).getD i undef = _
    simp only [Array.getD_eq_getD_getElem?, List.getD]
    rw [Array.getElem?_append_left (by simpa using hi)]
    simp
  refine ⟨G, { rt := fun k g hh e l hr => ?_, sc := fun i => ?_, bx := fun k g T v hr => ?_, nd := fun k => ?_, dj := fun k k' b h1 h2 => ?_, lt := fun k b hb => ?_, os := rfl, tape := rfl, output := rfl, size := Nat.le_refl _, block := fun _ _ _ => rfl, s0 := rfl, m0 := fun b hb => hb.elim (fun h => .inr (.inl h)) (fun h => .inr (.inr h)), sl := fun i v hv => ?_, df := rfl, sz := ?_, pa := fun i hi => ?_ }⟩
  · obtain ⟨z, hz1, rfl⟩ := hns k _ hr (fun v e => by cases e) (by simp)
    obtain ⟨q, hq, e', hc⟩ := K.cell z hz1
    have hz2 := hin z hz1
    have gg := hga q hq
    rw [e'] at gg
    rw [hz2] at hr
    rcases hc with ⟨t, g', e2, l2, h1, h2, _⟩ | ⟨b, g', T, v, blk, arr, ty, h1, _⟩
    · rw [h1] at hr; cases hr
      rw [gg.1, gg.2.1]; exact h2
    · rw [h1] at hr; cases hr
  · rcases hsl i with h | ⟨v, h, _⟩
    · exact .inr h
    · exact .inl ⟨v, h⟩
  · obtain ⟨z, hz1, rfl⟩ := hns k _ hr (fun v e => by cases e) (by simp)
    obtain ⟨q, hq, e', hc⟩ := K.cell z hz1
    have hz2 := hin z hz1
    have gg := hga q hq
    rw [e'] at gg
    rw [hz2] at hr
    rcases hc with ⟨t, g', e2, l2, h1, _⟩ | ⟨b, g', T', v', blk, arr, ty, h1, h2, h3, h4, h5, h6⟩
    · rw [h1] at hr; cases hr
    · rw [h1] at hr; cases hr
      refine ⟨h3, arr, ty, ?_, h6 _ _ _ hinst⟩
      rw [gg.2.2, h2]; exact h4
  · by_cases hk : ∃ z ∈ (putL ps (kzL ps) x).2, z.1 = k
    · obtain ⟨z, hz1, rfl⟩ := hk
      obtain ⟨q, hq, e, ho⟩ := hz z hz1
      rw [ho]; exact flat_nd bn q hq
    · have : ownB (entSt ps x) G k = [] := List.eq_nil_iff_forall_not_mem.2 fun b hb => hk (hown k b hb)
      rw [this]; exact List.nodup_nil
  · obtain ⟨z, hz1, rfl⟩ := hown k b h1
    obtain ⟨z', hz1', rfl⟩ := hown k' b h2
    obtain ⟨q, hq, e, ho⟩ := hz z hz1
    obtain ⟨q', hq', e', ho'⟩ := hz z' hz1'
    rw [ho] at h1; rw [ho'] at h2
    rw [← e, ← e', flat_dj bn q hq q' hq' b h1 h2]
  · obtain ⟨z, hz1, rfl⟩ := hown k b hb
    obtain ⟨q, hq, e, ho⟩ := hz z hz1
    rw [ho] at hb
    have : b ∈ bs := by rw [K.bls]; exact List.mem_flatMap.2 ⟨q, hq, hb⟩
    exact ⟨hbs b this, .inr this⟩
  · rcases hsl i with h | ⟨v', h, hm⟩
    · rw [h] at hv; cases hv
    · rw [h] at hv; cases hv
      obtain ⟨j, v2, e2, hj, hw⟩ := slots_sw ps _ 0 hi hsx _ hm
      simp only [Prod.mk.injEq, Cell.sv.injEq, Nat.zero_add] at e2
      have := sk_inj e2.1
      subst this
      rw [e2.2, htm i hj]; exact hw
  · show (vals.toArray ++ Array.replicate (nt - vals.toArray.size) undef).size = nt
    rw [Array.size_append, Array.size_replicate, hsize]; omega
  · show (vals.toArray ++ Array.replicate (nt - vals.toArray.size) undef).getD i undef = vals.getD i undef
    exact htm i (by rw [hvl]; exact Nat.lt_of_lt_of_le hi hpr)
theorem outsV_run {α : Type} {u : α} (I : Inv C st a w G) : ∀ (l : Lv) {f : SV → M α}, Rn (outsV l f) st u → ∃ v, SX C.P st G w (Fz st G w) v true (l.map fun p => a.tmps.getD p.1 undef) ∧ Rn (f v) st u
  | [], f, h => ⟨.unit, rfl, h⟩
  | (i, sh) :: l, f, h => by
    unfold outsV at h
    obtain ⟨v, _, hv, h⟩ := slot_run I h
    split at h
    · exact (Rn_fail.1 h).elim
    · rename_i hnt
      obtain ⟨v', k1, k2⟩ := outsV_run I l h
      obtain ⟨c, hc1, hc2⟩ := SW_cells hv (fun b e => hnt b e)
      exact ⟨.pair v v', ⟨c, _, by rw [List.map_cons, hc1], hc2, k1⟩, k2⟩
theorem outV_map (f : Nat → Value) : ∀ (l : Lv) (vs : List Value) (i0 : Nat), idxs i0 l = true → vs.length = l.length → (∀ p ∈ outL l, p.1 < i0 + vs.length → f p.1 = vs.getD (p.1 - i0) undef) → (outL l).map (fun p => f p.1) = outV l vs
  | [], vs, i0, _, hv, _ => by rw [List.length_eq_zero_iff.1 hv]; rfl
  | (i, sh) :: l, [], i0, _, hv, _ => by simp at hv
  | (i, sh) :: l, v :: vs, i0, hi, hv, h => by
    simp only [idxs, Bool.and_eq_true] at hi
    have hi0 := Nat.eq_of_beq_eq_true hi.1
    subst hi0
    have hge : ∀ (l : Lv) (i0 : Nat), idxs i0 l = true → ∀ p ∈ outL l, i0 ≤ p.1 := by
      intro l
      induction l with
      | nil => intro i0 _ p hp; cases hp
      | cons q l ih =>
        intro i0 hi p hp
        obtain ⟨q1, q2⟩ := q
        simp only [idxs, Bool.and_eq_true] at hi
        have e := Nat.eq_of_beq_eq_true hi.1
        have := fun hp => ih (i0 + 1) hi.2 p hp
        cases q2 with
        | bx c =>
          rcases List.mem_cons.1 hp with hp | hp
          · rw [hp]; exact Nat.le_of_eq e.symm
          · have := this hp; omega
        | _ => have := this hp; omega
    have rest := outV_map f l vs (i + 1) hi.2 (by simpa using hv) (fun p hp hlt => by
      have h1 := hge l (i + 1) hi.2 p hp
      have hp' : p ∈ outL ((i, sh) :: l) := by cases sh <;> first | exact hp | exact List.mem_cons_of_mem _ hp
      rw [h p hp' (by simp; omega), show p.1 - i = (p.1 - (i + 1)) + 1 from by omega]; simp)
    cases sh with
    | bx c =>
      show f i :: (outL l).map (fun p => f p.1) = v :: outV l vs
      rw [rest, h (i, .bx c) List.mem_cons_self (by simp)]; simp
    | _ => exact rest
/-- The boxes among the parameters stand in slots that stay as they are. -/
def protB (ps : Lv) (pr : Nat) : Bool := (outL ps).all fun p => Nat.blt p.1 pr
theorem fin_shape {P : Program} {ps rl : Lv} {vals : List Value} {bs : List Nat} {S : Nat → Prop} {w0 : World} {fn : Func} {y : den rl.ty × den (outL ps).ty} {pr nt : Nat} (O : CfgOk ⟨P, w0, bs, vals, pr, nt, fun b => S b ∨ w0.heap.size ≤ b ∨ b ∈ bs⟩ cf) (I : Inv ⟨P, w0, bs, vals, pr, nt, fun b => S b ∨ w0.heap.size ≤ b ∨ b ∈ bs⟩ st a w G)
    {F : den ps.ty → Option (den rl.ty × den (outL ps).ty)} (hi : idxs 0 ps = true) (hp : protB ps pr = true) (hvl : vals.length = ps.length) (h : Rn (finS cf fn.results.toList ps rl) st y) : ∃ v, (results fn a.tmps).run P w = .ok v w ∧ ShRet P ⟨ps, rl, F⟩ vals y.1 y.2 bs S w0 v w := by
  unfold finS at h
  obtain ⟨v, vs, h1, h2, h⟩ := resSV_run O I _ h
  obtain ⟨x, ks, gs, od, d1, h, A⟩ := rdL_run I.toInvM rl v _ h h2
  obtain ⟨u, h3, h⟩ := outsV_run I (outL ps) h
  obtain ⟨z, ks', gs', od', d2, h, B⟩ := rdL_run I.toInvM (outL ps) u _ h h3
  rw [Rn_bif] at h
  rcases h with ⟨hb, h⟩ | ⟨_, h⟩
  case inr => exact (Rn_fail.1 h).elim
  rw [Rn_ret] at h
  subst h
  rw [nodupB_iff] at hb
  obtain ⟨hodn, _, hodg⟩ := List.nodup_append.1 hb
  have hov : (outL ps).map (fun p => a.tmps.getD p.1 undef) = outV ps vals := outV_map (fun i => a.tmps.getD i undef) ps vals 0 hi hvl fun p hp' _ => by
    have := List.all_eq_true.1 hp p hp'
    rw [Nat.sub_zero]
    exact I.pa p.1 (Nat.le_of_ble_eq_true this)
  have hown : ∀ b, b ∈ od.flatMap (ownB st G) ++ od'.flatMap (ownB st G) → ∃ k ∈ od ++ od', b ∈ ownB st G k := fun b hb => by
    rcases List.mem_append.1 hb with hb | hb
    · obtain ⟨k, hk, hb⟩ := List.mem_flatMap.1 hb; exact ⟨k, List.mem_append_left _ hk, hb⟩
    · obtain ⟨k, hk, hb⟩ := List.mem_flatMap.1 hb; exact ⟨k, List.mem_append_right _ hk, hb⟩
  have s0 : ∀ b, G.s0 b → S b ∨ w0.heap.size ≤ b ∨ b ∈ bs := fun b hb => by rw [I.s0] at hb; exact hb
  have hS1 : ∀ b, Fz st G w b → b < w.heap.size ∧ (S b ∨ w0.heap.size ≤ b ∨ b ∈ bs) ∧ b ∉ od.flatMap (ownB st G) ++ od'.flatMap (ownB st G) := fun b hb => ⟨hb.1, s0 b hb.2.2, fun hm => by
    obtain ⟨k, _, hk⟩ := hown b hm
    exact hb.2.1 k hk⟩
  have hS2 : ∀ (gs2 : List (Nat × Nat)), (∀ p ∈ gs2, p ∈ gs ++ gs') → (∀ p ∈ gs2, RT st p) → ∀ p ∈ gs2, ∀ b ∈ G.bl (rk p.1), b < w.heap.size ∧ (S b ∨ w0.heap.size ≤ b ∨ b ∈ bs) ∧ b ∉ od.flatMap (ownB st G) ++ od'.flatMap (ownB st G) := fun gs2 hsub hrt p hp b hb => by
    have ho : b ∈ ownB st G (rk p.1) := by rw [own_of_RT (hrt p hp)]; exact hb
    refine ⟨(I.lt _ _ ho).1, s0 b (I.m0 _ (I.lt _ _ ho).2), fun hm => ?_⟩
    obtain ⟨k, hk, hbk⟩ := hown b hm
    have := I.dj _ _ _ hbk ho
    subst this
    exact hodg _ hk _ (List.mem_map.2 ⟨p, hsub p hp, rfl⟩) rfl
  refine ⟨retV vs, ?_, ⟨vs, _, _, rfl, A.xs _ hS1 (fun b hb => hb.1) (hS2 gs (fun p hp => List.mem_append_left _ hp) A.gone), ?_, ?_, fun b hb => ?_⟩, I.os, I.tape, I.output, I.size, I.block⟩
  · rw [results_run h1]; rfl
  · have := B.xs _ hS1 (fun b hb => hb.1) (hS2 gs' (fun p hp => List.mem_append_right _ hp) B.gone)
    rw [hov] at this
    exact this
  · rw [← List.flatMap_append]; exact own_nd I.toInvM _ hodn
  · obtain ⟨k, _, hk⟩ := hown b hb
    exact ⟨(I.lt _ _ hk).2.symm, (I.lt _ _ hk).1⟩
/-- A function's contract by shapes: out of its code, and the evaluator's run of it. -/
theorem sh_ok {P : Program} {cf : Cfg} {f : FuncId} {fn : Func} {c : Code} {ps rl : Lv} {en : Env (den rl.ty × den (outL ps).ty)} {F : den ps.ty → Option (den rl.ty × den (outL ps).ty)} (hf : P.funcs[f]? = some fn) (hname : (fn.name == "runtime.NumGoroutine") = false) (hb : fn.body = some c)
    (hT : ∀ t T, cf.ty t = some T → TyOk P cf.ty t T) (hfn : ∀ g sp, cf.fn g = some sp → FnOk P g sp) (hfs : ∀ g sp, cf.fs g = some sp → ShOk P g sp) (hmix : P.follows .mixedOrders = true) (hnt : cf.nt = fn.ntmps) (hpr : cf.prot ≤ ps.length) (hprm : protB ps cf.prot = true) (hlen : ps.length ≤ cf.nt) (hent : entSB ps = true)
    (hl : ∀ C, C.P = P → CfgOk C cf → LpOk C en c) (hF : ∀ x y, F x = some y → evFnS cf ps rl en fn.results.toList c x = some y) : ShOk P f ⟨ps, rl, F⟩ := by
  intro w vals x y z bs S hX hnd hS hbs hy
  have O : CfgOk ⟨P, w, bs, vals, cf.prot, cf.nt, fun b => S b ∨ w.heap.size ≤ b ∨ b ∈ bs⟩ cf := ⟨rfl, rfl, hT, hfn, hfs⟩
  have hX : XL P ps w S vals x bs := hX
  have hvl : vals.length = ps.length := XL_len _ hX
  have hi : idxs 0 ps = true := by simp only [entSB, Bool.and_eq_true] at hent; exact hent.1.1
  obtain ⟨G, I⟩ := entry_invS (nt := cf.nt) (pr := cf.prot) hX hnd hS hbs hent hlen hpr
  intro o a next Q hn
  rw [run_enter hf hname hb, Oper.upon_enter]
  refine calls_of_wp hf hb ?_
  have hev := hF x (y, z) hy
  unfold evFnS at hev
  rw [← hnt]
  have last : ∀ st' a' w' G', (finS cf fn.results.toList ps rl).go st' [] (fun _ y => some y) = some (y, z) → Inv ⟨P, w, bs, vals, cf.prot, cf.nt, fun b => S b ∨ w.heap.size ≤ b ∨ b ∈ bs⟩ st' a' w' G' → ∃ v, (results fn a'.tmps).run P w' = .ok v w' ∧ ShRet P ⟨ps, rl, F⟩ vals y z bs S w v w' := fun st' a' w' G' h I' => by
    obtain ⟨rd, u, h1, h2⟩ := go_run _ _ h
    simp only [Option.some.injEq] at h2
    subst h2
    exact fin_shape O I' hi hprm hvl ⟨rd, h1⟩
  refine evC_sound O hmix c (hl _ rfl O) hev I (fun st' a' w' G' h I' => ?_) (fun i st' a' w' G' h I' => by cases h) (fun st' a' w' G' h I' => ?_)
  · obtain ⟨v, k1, k2⟩ := last st' a' w' G' h I'
    exact ⟨I'.df, v, k1, hn v w' k2⟩
  · obtain ⟨v, k1, k2⟩ := last st' a' w' G' h I'
    exact ⟨I'.df, v, k1, hn v w' k2⟩
theorem shOk_none {P : Program} {f : Nat} {ps rl : Lv} : ShOk P f ⟨ps, rl, fun _ => none⟩ := by
  intro w vs x y z bs S _ _ _ _ hy; cases hy
/-- Callees with contracts by shapes. -/
def ShsOk (P : Program) : List (Nat × ShSpec) → Prop
  | [] => True
  | p :: l => ShOk P p.1 p.2 ∧ ShsOk P l
theorem shs_ok {P : Program} : ∀ {l : List (Nat × ShSpec)}, ShsOk P l → ∀ g sp, lk l g = some sp → ShOk P g sp
  | [], _, g, sp, h => by cases h
  | (k, c) :: l, hl, g, sp, h => by
    unfold lk at h
    cases hb : Nat.beq k g
    · rw [hb] at h; exact shs_ok hl.2 g sp h
    · rw [hb] at h
      simp only [cond_true, Option.some.injEq] at h
      have := Nat.eq_of_beq_eq_true hb
      subst h; subst this; exact hl.1
end
end Go.Proofs.Ytckkagmccbkfbaa.E
namespace Go.Proofs.Ytckkagmccbkfbaa.E
open Go Go.Proofs Go.Proofs.Ytckkagmccbkfbaa
set_option maxRecDepth 100000
noncomputable def tys : List (Nat × Ty) := [(2, (.int .i64)), (3, (.int .i64)), (4, .bool), (5, (.int .u8)), (9, .str), (23, (.st (.pair (.int .i64) (.pair (.int .i64) .unit)))), (28, (.sl .str)), (33, (.sl (.st (.pair (.int .i64) (.pair (.int .i64) .unit))))), (36, (.sl (.st (.pair (.int .i64) (.pair (.int .i64) .unit))))), (40, (.sl (.st (.pair (.st (.pair (.int .i64) (.pair (.int .i64) .unit))) (.pair (.sl (.int .i64)) .unit))))), (42, (.st (.pair (.int .i64) (.pair (.sl (.st (.pair (.st (.pair (.int .i64) (.pair (.int .i64) .unit))) (.pair (.sl (.int .i64)) .unit)))) .unit)))), (44, (.sl (.int .i64))), (47, (.sl (.st (.pair (.st (.pair (.int .i64) (.pair (.int .i64) .unit))) (.pair (.sl (.int .i64)) .unit))))), (49, (.st (.pair (.int .i64) (.pair (.sl (.st (.pair (.st (.pair (.int .i64) (.pair (.int .i64) .unit))) (.pair (.sl (.int .i64)) .unit)))) .unit)))), (56, (.sl (.int .u8))), (65, (.int .u64)), (90, (.st (.pair (.int .i64) (.pair (.int .i64) .unit)))), (100, (.st (.pair (.int .i64) (.pair (.int .i64) .unit)))), (102, (.st (.pair (.st (.pair (.int .i64) (.pair (.int .i64) .unit))) (.pair (.sl (.int .i64)) .unit)))), (114, (.int .u64)), (141, (.ptr (.st (.pair (.sl (.st (.pair (.int .i64) (.pair (.int .i64) .unit)))) (.pair (.int .i64) (.pair (.sl (.int .i64)) .unit)))))), (145, (.st (.pair (.int .i64) (.pair (.int .i64) .unit)))), (147, (.st (.pair (.st (.pair (.int .i64) (.pair (.int .i64) .unit))) (.pair (.sl (.int .i64)) .unit)))), (160, (.st (.pair (.sl (.int .u8)) (.pair (.int .i64) (.pair (.int .u64) .unit))))), (191, (.int .u32)), (195, (.sl (.sl (.st (.pair (.int .i64) (.pair (.int .i64) .unit)))))), (200, (.st (.pair (.sl (.st (.pair (.int .i64) (.pair (.int .i64) .unit)))) (.pair (.int .i64) (.pair (.sl (.int .i64)) .unit))))), (209, (.sl (.st (.pair .str (.pair .str .unit))))), (212, (.st (.pair .str (.pair .str .unit)))), (216, (.int .u64))]
theorem tysOk : ∀ t T, lk tys t = some T → TyOk Try.prog (lk tys) t T := tys_ok (by kernel_rfl)
noncomputable def as_s_l08Apart : Ty := (.pair (.sl (.int .i64)) (.pair (.int .i64) (.pair (.int .i64) (.pair (.int .i64) (.pair (.int .i64) (.pair (.int .i64) .unit))))))
noncomputable def sp_s_l08Apart (F : ((List Int) × Int × Int × Int × Int × Int × Unit) → Option Bool) : FnSpec := ⟨as_s_l08Apart, [false, false, false, false, false, false], .bool, F⟩
noncomputable def as_s_l05End : Ty := (.pair .str (.pair (.int .i64) .unit))
noncomputable def sp_s_l05End (F : (ByteArray × Int × Unit) → Option Int) : FnSpec := ⟨as_s_l05End, [false, false], (.int .i64), F⟩
noncomputable def as_s_l06Made : Ty := (.pair (.st (.pair (.int .i64) (.pair (.int .i64) .unit))) (.pair (.st (.pair (.int .i64) (.pair (.int .i64) .unit))) (.pair (.sl (.int .i64)) (.pair (.sl (.int .i64)) .unit))))
noncomputable def sp_s_l06Made (F : ((Int × Int × Unit) × (Int × Int × Unit) × (List Int) × (List Int) × Unit) → Option Int) : FnSpec := ⟨as_s_l06Made, [false, false, false, false], (.int .i64), F⟩
noncomputable def as_i_Func_made : Ty := (.pair (.st (.pair (.int .i64) (.pair (.int .i64) .unit))) (.pair (.int .i64) (.pair (.sl (.int .i64)) (.pair (.sl (.int .i64)) (.pair (.int .i64) (.pair (.fn (.pair (.int .i64) .unit) .bool) .unit))))))
noncomputable def sp_i_Func_made (F : ((Int × Int × Unit) × Int × (List Int) × (List Int) × Int × ((Int × Unit) → Option Bool) × Unit) → Option Bool) : FnSpec := ⟨as_i_Func_made, [false, false, false, false, false, false], .bool, F⟩
noncomputable def as_s_l05Func : Ty := (.pair (.int .i64) (.pair .str .unit))
noncomputable def sp_s_l05Func (F : (Int × ByteArray × Unit) → Option (Int × Int × Unit)) : FnSpec := ⟨as_s_l05Func, [false, false], (.st (.pair (.int .i64) (.pair (.int .i64) .unit))), F⟩
end Go.Proofs.Ytckkagmccbkfbaa.E
namespace Go.Proofs.Ytckkagmccbkfbaa.E
open Go Go.Proofs Go.Proofs.Ytckkagmccbkfbaa
set_option maxRecDepth 100000
set_option linter.unusedVariables false
noncomputable def as_i_bit : Ty := (.pair (.int .i64) (.pair (.int .i64) .unit))
noncomputable def sp_i_bit (F : (Int × Int × Unit) → Option Int) : FnSpec := ⟨as_i_bit, [false, false], (.int .i64), F⟩
noncomputable def i_bit (K : Nat) (x : (Int × Int × Unit)) : Option Int :=
    (if (decide ((0 : Int) ≤ x.2.1)) = true then
    some (bitI .and .i64 (shrI .i64 x.1 x.2.1) (1 : Int))
    else
    none)
noncomputable def rv_i_bit : Lv := [(4, (.v (.int .i64)))]
noncomputable def sg_i_bit {R : Type} (K : Nat) (k : Nat) : List (Nat × SegS R) := []
noncomputable def su_i_bit : List (Nat × Unit) := []
noncomputable def en_i_bit {R : Type} (K : Nat) (k : Nat) : Env R := { L := lk [], X := lk [], S := lk (sg_i_bit K k), rv := rv_i_bit }
noncomputable def cf_i_bit (K : Nat) : Cfg := { ty := lk tys, fn := lk [], fs := lk [], prot := 0, nt := Try.f197.ntmps }
theorem e_i_bit (K : Nat) (x : den as_i_bit) : i_bit K x = evFn (cf_i_bit K) as_i_bit [false, false] (.int .i64) (en_i_bit K K) Try.f197.results.toList (bodyOf Try.f197) x := by kernel_rfl
theorem ok_i_bit (K : Nat) : FnOk Try.prog 197 (sp_i_bit (i_bit K)) :=
  fn_ok (cf := cf_i_bit K) (en := en_i_bit K K) (c := bodyOf Try.f197) Try.func197 (by kernel_rfl) (by kernel_rfl) tysOk (fns_ok (l := []) trivial) (shs_ok (l := []) trivial) (by kernel_rfl) rfl (Nat.le_of_ble_eq_true (by kernel_rfl)) (by kernel_rfl) (of_decide_eq_true (by kernel_rfl)) (by decide) (fun C hP O => lpOk_of (en := en_i_bit K K) (S := hasK su_i_bit) (fun i => hasK_lk (sg_i_bit K K) i) _ (by rw [show partsOf (hasK su_i_bit) (bodyOf Try.f197) = [] from by kernel_rfl]; exact trivial)) (fun x y h => by rw [← e_i_bit]; exact h)
noncomputable def as_i_Func_at : Ty := (.pair (.st (.pair (.int .i64) (.pair (.int .i64) .unit))) (.pair (.int .i64) .unit))
noncomputable def sp_i_Func_at (F : ((Int × Int × Unit) × Int × Unit) → Option Int) : FnSpec := ⟨as_i_Func_at, [false, false], (.int .i64), F⟩
noncomputable def i_Func_at (K : Nat) (x : ((Int × Int × Unit) × Int × Unit)) : Option Int :=
    (i_bit K (x.1.2.1, x.2.1, ())).bind fun y1 =>
    some y1
noncomputable def rv_i_Func_at : Lv := [(4, (.v (.int .i64)))]
noncomputable def sg_i_Func_at {R : Type} (K : Nat) (k : Nat) : List (Nat × SegS R) := []
noncomputable def su_i_Func_at : List (Nat × Unit) := []
noncomputable def en_i_Func_at {R : Type} (K : Nat) (k : Nat) : Env R := { L := lk [], X := lk [], S := lk (sg_i_Func_at K k), rv := rv_i_Func_at }
noncomputable def cf_i_Func_at (K : Nat) : Cfg := { ty := lk tys, fn := lk [(197, sp_i_bit (i_bit K))], fs := lk [], prot := 0, nt := Try.f170.ntmps }
theorem e_i_Func_at (K : Nat) (x : den as_i_Func_at) : i_Func_at K x = evFn (cf_i_Func_at K) as_i_Func_at [false, false] (.int .i64) (en_i_Func_at K K) Try.f170.results.toList (bodyOf Try.f170) x := by kernel_rfl
theorem ok_i_Func_at (K : Nat) : FnOk Try.prog 170 (sp_i_Func_at (i_Func_at K)) :=
  fn_ok (cf := cf_i_Func_at K) (en := en_i_Func_at K K) (c := bodyOf Try.f170) Try.func170 (by kernel_rfl) (by kernel_rfl) tysOk (fns_ok (l := [(197, sp_i_bit (i_bit K))]) ⟨ok_i_bit K, trivial⟩) (shs_ok (l := []) trivial) (by kernel_rfl) rfl (Nat.le_of_ble_eq_true (by kernel_rfl)) (by kernel_rfl) (of_decide_eq_true (by kernel_rfl)) (by decide) (fun C hP O => lpOk_of (en := en_i_Func_at K K) (S := hasK su_i_Func_at) (fun i => hasK_lk (sg_i_Func_at K K) i) _ (by rw [show partsOf (hasK su_i_Func_at) (bodyOf Try.f170) = [] from by kernel_rfl]; exact trivial)) (fun x y h => by rw [← e_i_Func_at]; exact h)
noncomputable def as_i_rowsOf : Ty := (.pair (.int .i64) .unit)
noncomputable def sp_i_rowsOf (F : (Int × Unit) → Option Int) : FnSpec := ⟨as_i_rowsOf, [false], (.int .i64), F⟩
noncomputable def i_rowsOf (K : Nat) (x : (Int × Unit)) : Option Int :=
    (if (decide ((0 : Int) ≤ x.1)) = true then
    some (shlI .i64 (1 : Int) x.1)
    else
    none)
noncomputable def rv_i_rowsOf : Lv := [(2, (.v (.int .i64)))]
noncomputable def sg_i_rowsOf {R : Type} (K : Nat) (k : Nat) : List (Nat × SegS R) := []
noncomputable def su_i_rowsOf : List (Nat × Unit) := []
noncomputable def en_i_rowsOf {R : Type} (K : Nat) (k : Nat) : Env R := { L := lk [], X := lk [], S := lk (sg_i_rowsOf K k), rv := rv_i_rowsOf }
noncomputable def cf_i_rowsOf (K : Nat) : Cfg := { ty := lk tys, fn := lk [], fs := lk [], prot := 0, nt := Try.f164.ntmps }
theorem e_i_rowsOf (K : Nat) (x : den as_i_rowsOf) : i_rowsOf K x = evFn (cf_i_rowsOf K) as_i_rowsOf [false] (.int .i64) (en_i_rowsOf K K) Try.f164.results.toList (bodyOf Try.f164) x := by kernel_rfl
theorem ok_i_rowsOf (K : Nat) : FnOk Try.prog 164 (sp_i_rowsOf (i_rowsOf K)) :=
  fn_ok (cf := cf_i_rowsOf K) (en := en_i_rowsOf K K) (c := bodyOf Try.f164) Try.func164 (by kernel_rfl) (by kernel_rfl) tysOk (fns_ok (l := []) trivial) (shs_ok (l := []) trivial) (by kernel_rfl) rfl (Nat.le_of_ble_eq_true (by kernel_rfl)) (by kernel_rfl) (of_decide_eq_true (by kernel_rfl)) (by decide) (fun C hP O => lpOk_of (en := en_i_rowsOf K K) (S := hasK su_i_rowsOf) (fun i => hasK_lk (sg_i_rowsOf K K) i) _ (by rw [show partsOf (hasK su_i_rowsOf) (bodyOf Try.f164) = [] from by kernel_rfl]; exact trivial)) (fun x y h => by rw [← e_i_rowsOf]; exact h)
noncomputable def as_i_Func_rows : Ty := (.pair (.st (.pair (.int .i64) (.pair (.int .i64) .unit))) .unit)
noncomputable def sp_i_Func_rows (F : ((Int × Int × Unit) × Unit) → Option Int) : FnSpec := ⟨as_i_Func_rows, [false], (.int .i64), F⟩
noncomputable def i_Func_rows (K : Nat) (x : ((Int × Int × Unit) × Unit)) : Option Int :=
    (i_rowsOf K (x.1.1, ())).bind fun y1 =>
    some y1
noncomputable def rv_i_Func_rows : Lv := [(2, (.v (.int .i64)))]
noncomputable def sg_i_Func_rows {R : Type} (K : Nat) (k : Nat) : List (Nat × SegS R) := []
noncomputable def su_i_Func_rows : List (Nat × Unit) := []
noncomputable def en_i_Func_rows {R : Type} (K : Nat) (k : Nat) : Env R := { L := lk [], X := lk [], S := lk (sg_i_Func_rows K k), rv := rv_i_Func_rows }
noncomputable def cf_i_Func_rows (K : Nat) : Cfg := { ty := lk tys, fn := lk [(164, sp_i_rowsOf (i_rowsOf K))], fs := lk [], prot := 0, nt := Try.f171.ntmps }
theorem e_i_Func_rows (K : Nat) (x : den as_i_Func_rows) : i_Func_rows K x = evFn (cf_i_Func_rows K) as_i_Func_rows [false] (.int .i64) (en_i_Func_rows K K) Try.f171.results.toList (bodyOf Try.f171) x := by kernel_rfl
theorem ok_i_Func_rows (K : Nat) : FnOk Try.prog 171 (sp_i_Func_rows (i_Func_rows K)) :=
  fn_ok (cf := cf_i_Func_rows K) (en := en_i_Func_rows K K) (c := bodyOf Try.f171) Try.func171 (by kernel_rfl) (by kernel_rfl) tysOk (fns_ok (l := [(164, sp_i_rowsOf (i_rowsOf K))]) ⟨ok_i_rowsOf K, trivial⟩) (shs_ok (l := []) trivial) (by kernel_rfl) rfl (Nat.le_of_ble_eq_true (by kernel_rfl)) (by kernel_rfl) (of_decide_eq_true (by kernel_rfl)) (by decide) (fun C hP O => lpOk_of (en := en_i_Func_rows K K) (S := hasK su_i_Func_rows) (fun i => hasK_lk (sg_i_Func_rows K K) i) _ (by rw [show partsOf (hasK su_i_Func_rows) (bodyOf Try.f171) = [] from by kernel_rfl]; exact trivial)) (fun x y h => by rw [← e_i_Func_rows]; exact h)
noncomputable def as_math_bits_OnesCount64 : Ty := (.pair (.int .u64) .unit)
noncomputable def sp_math_bits_OnesCount64 (F : (Int × Unit) → Option Int) : FnSpec := ⟨as_math_bits_OnesCount64, [false], (.int .i64), F⟩
noncomputable def math_bits_OnesCount64 (K : Nat) (x : (Int × Unit)) : Option Int :=
    let x1 := (bitI .and .u64 (shrI .u64 x.1 (1 : Int)) (6148914691236517205 : Int))
    let x2 := (IntKind.u64.wrap (x1 + (bitI .and .u64 x.1 (6148914691236517205 : Int))))
    let x3 := (bitI .and .u64 (shrI .u64 x2 (2 : Int)) (3689348814741910323 : Int))
    let x4 := (IntKind.u64.wrap (x3 + (bitI .and .u64 x2 (3689348814741910323 : Int))))
    let x5 := (bitI .and .u64 (IntKind.u64.wrap ((shrI .u64 x4 (4 : Int)) + x4)) (1085102592571150095 : Int))
    let x6 := (shrI .u64 (IntKind.u64.wrap (x5 + (shrI .u64 x5 (8 : Int)))) (16 : Int))
    let x7 := (IntKind.u64.wrap ((IntKind.u64.wrap (x5 + (shrI .u64 x5 (8 : Int)))) + x6))
    let x8 := (IntKind.i64.wrap (IntKind.u64.wrap (x7 + (shrI .u64 x7 (32 : Int)))))
    some (bitI .and .i64 x8 (127 : Int))
noncomputable def rv_math_bits_OnesCount64 : Lv := [(2, (.v (.int .i64)))]
noncomputable def sg_math_bits_OnesCount64 {R : Type} (K : Nat) (k : Nat) : List (Nat × SegS R) := []
noncomputable def su_math_bits_OnesCount64 : List (Nat × Unit) := []
noncomputable def en_math_bits_OnesCount64 {R : Type} (K : Nat) (k : Nat) : Env R := { L := lk [], X := lk [], S := lk (sg_math_bits_OnesCount64 K k), rv := rv_math_bits_OnesCount64 }
noncomputable def cf_math_bits_OnesCount64 (K : Nat) : Cfg := { ty := lk tys, fn := lk [], fs := lk [], prot := 0, nt := Try.f234.ntmps }
theorem e_math_bits_OnesCount64 (K : Nat) (x : den as_math_bits_OnesCount64) : math_bits_OnesCount64 K x = evFn (cf_math_bits_OnesCount64 K) as_math_bits_OnesCount64 [false] (.int .i64) (en_math_bits_OnesCount64 K K) Try.f234.results.toList (bodyOf Try.f234) x := by kernel_rfl
theorem ok_math_bits_OnesCount64 (K : Nat) : FnOk Try.prog 234 (sp_math_bits_OnesCount64 (math_bits_OnesCount64 K)) :=
  fn_ok (cf := cf_math_bits_OnesCount64 K) (en := en_math_bits_OnesCount64 K K) (c := bodyOf Try.f234) Try.func234 (by kernel_rfl) (by kernel_rfl) tysOk (fns_ok (l := []) trivial) (shs_ok (l := []) trivial) (by kernel_rfl) rfl (Nat.le_of_ble_eq_true (by kernel_rfl)) (by kernel_rfl) (of_decide_eq_true (by kernel_rfl)) (by decide) (fun C hP O => lpOk_of (en := en_math_bits_OnesCount64 K K) (S := hasK su_math_bits_OnesCount64) (fun i => hasK_lk (sg_math_bits_OnesCount64 K K) i) _ (by rw [show partsOf (hasK su_math_bits_OnesCount64) (bodyOf Try.f234) = [] from by kernel_rfl]; exact trivial)) (fun x y h => by rw [← e_math_bits_OnesCount64]; exact h)
noncomputable def as_i_ones : Ty := (.pair (.int .i64) .unit)
noncomputable def sp_i_ones (F : (Int × Unit) → Option Int) : FnSpec := ⟨as_i_ones, [false], (.int .i64), F⟩
noncomputable def i_ones (K : Nat) (x : (Int × Unit)) : Option Int :=
    (math_bits_OnesCount64 K ((IntKind.u64.wrap x.1), ())).bind fun y1 =>
    some y1
noncomputable def rv_i_ones : Lv := [(2, (.v (.int .i64)))]
noncomputable def sg_i_ones {R : Type} (K : Nat) (k : Nat) : List (Nat × SegS R) := []
noncomputable def su_i_ones : List (Nat × Unit) := []
noncomputable def en_i_ones {R : Type} (K : Nat) (k : Nat) : Env R := { L := lk [], X := lk [], S := lk (sg_i_ones K k), rv := rv_i_ones }
noncomputable def cf_i_ones (K : Nat) : Cfg := { ty := lk tys, fn := lk [(234, sp_math_bits_OnesCount64 (math_bits_OnesCount64 K))], fs := lk [], prot := 0, nt := Try.f174.ntmps }
theorem e_i_ones (K : Nat) (x : den as_i_ones) : i_ones K x = evFn (cf_i_ones K) as_i_ones [false] (.int .i64) (en_i_ones K K) Try.f174.results.toList (bodyOf Try.f174) x := by kernel_rfl
theorem ok_i_ones (K : Nat) : FnOk Try.prog 174 (sp_i_ones (i_ones K)) :=
  fn_ok (cf := cf_i_ones K) (en := en_i_ones K K) (c := bodyOf Try.f174) Try.func174 (by kernel_rfl) (by kernel_rfl) tysOk (fns_ok (l := [(234, sp_math_bits_OnesCount64 (math_bits_OnesCount64 K))]) ⟨ok_math_bits_OnesCount64 K, trivial⟩) (shs_ok (l := []) trivial) (by kernel_rfl) rfl (Nat.le_of_ble_eq_true (by kernel_rfl)) (by kernel_rfl) (of_decide_eq_true (by kernel_rfl)) (by decide) (fun C hP O => lpOk_of (en := en_i_ones K K) (S := hasK su_i_ones) (fun i => hasK_lk (sg_i_ones K K) i) _ (by rw [show partsOf (hasK su_i_ones) (bodyOf Try.f174) = [] from by kernel_rfl]; exact trivial)) (fun x y h => by rw [← e_i_ones]; exact h)
noncomputable def as_i_Func_hasNearUnanimity : Ty := (.pair (.st (.pair (.int .i64) (.pair (.int .i64) .unit))) .unit)
noncomputable def sp_i_Func_hasNearUnanimity (F : ((Int × Int × Unit) × Unit) → Option Bool) : FnSpec := ⟨as_i_Func_hasNearUnanimity, [false], .bool, F⟩
noncomputable def i_Func_hasNearUnanimity_l4 {R : Type} (K : Nat) : Nat → (Int × Int × Unit) → Int → Int → (Option R) → (Bool → Option R) → Option R
  | 0, _, _, _, _, _ => none
  | k + 1, v1, v9, v10, kx0, kr =>
    (if (decide (v10 < v9)) = true then
    (i_ones K (v10, ())).bind fun y2 =>
    (if (decide (y2 ≤ (1 : Int))) = true then
    (i_Func_at K (v1, v10, ())).bind fun y3 =>
    (if (decide (y3 = (1 : Int))) = true then
    kr false
    else
    (if (decide (y2 ≥ (IntKind.i64.wrap (v1.1 - (1 : Int))))) = true then
    (i_Func_at K (v1, v10, ())).bind fun y4 =>
    (if (decide (y4 = (0 : Int))) = true then
    kr false
    else
    i_Func_hasNearUnanimity_l4 K k v1 v9 (IntKind.i64.wrap (v10 + (1 : Int))) kx0 kr)
    else
    i_Func_hasNearUnanimity_l4 K k v1 v9 (IntKind.i64.wrap (v10 + (1 : Int))) kx0 kr))
    else
    (if (decide (y2 ≥ (IntKind.i64.wrap (v1.1 - (1 : Int))))) = true then
    (i_Func_at K (v1, v10, ())).bind fun y5 =>
    (if (decide (y5 = (0 : Int))) = true then
    kr false
    else
    i_Func_hasNearUnanimity_l4 K k v1 v9 (IntKind.i64.wrap (v10 + (1 : Int))) kx0 kr)
    else
    i_Func_hasNearUnanimity_l4 K k v1 v9 (IntKind.i64.wrap (v10 + (1 : Int))) kx0 kr))
    else
    kx0)
noncomputable def i_Func_hasNearUnanimity (K : Nat) (x : ((Int × Int × Unit) × Unit)) : Option Bool :=
    (if (decide (x.1.1 < (3 : Int))) = true then
    some false
    else
    (i_Func_rows K (x.1, ())).bind fun y1 =>
    i_Func_hasNearUnanimity_l4 K K x.1 y1 (0 : Int) (some true) (fun z6 =>
    some z6))
noncomputable def lv_i_Func_hasNearUnanimity_L4 : Lv := [(1, (.bx (.v (.st (.pair (.int .i64) (.pair (.int .i64) .unit)))))), (9, (.v (.int .i64))), (10, (.v (.int .i64)))]
noncomputable def lv_i_Func_hasNearUnanimity_X0 : Lv := []
noncomputable def rv_i_Func_hasNearUnanimity : Lv := [(2, (.v .bool))]
noncomputable def gi_Func_hasNearUnanimity_l4 {R : Type} (K : Nat) (k : Nat) (x : den lv_i_Func_hasNearUnanimity_L4.ty) (kx : Nat → St → Option R) (kr : St → Option R) : Option R := i_Func_hasNearUnanimity_l4 K k x.1 x.2.1 x.2.2.1 (kx 0 (mkSt lv_i_Func_hasNearUnanimity_X0 ())) (fun z0 => kr (mkSt rv_i_Func_hasNearUnanimity (z0, ())))
noncomputable def sg_i_Func_hasNearUnanimity {R : Type} (K : Nat) (k : Nat) : List (Nat × SegS R) := []
noncomputable def su_i_Func_hasNearUnanimity : List (Nat × Unit) := []
noncomputable def en_i_Func_hasNearUnanimity {R : Type} (K : Nat) (k : Nat) : Env R := { L := lk [(4, mkLoop lv_i_Func_hasNearUnanimity_L4 (gi_Func_hasNearUnanimity_l4 K k))], X := lk [(0, lv_i_Func_hasNearUnanimity_X0)], S := lk (sg_i_Func_hasNearUnanimity K k), rv := rv_i_Func_hasNearUnanimity }
noncomputable def cf_i_Func_hasNearUnanimity (K : Nat) : Cfg := { ty := lk tys, fn := lk [(170, sp_i_Func_at (i_Func_at K)), (171, sp_i_Func_rows (i_Func_rows K)), (174, sp_i_ones (i_ones K))], fs := lk [], prot := 0, nt := Try.f106.ntmps }
noncomputable def c_i_Func_hasNearUnanimity_L4 : Code := nthC (partsOf (hasK su_i_Func_hasNearUnanimity) (bodyOf Try.f106)) 0
theorem ei_Func_hasNearUnanimity_l4 {R : Type} (K : Nat) (k : Nat) (x : den lv_i_Func_hasNearUnanimity_L4.ty) (kx : Nat → St → Option R) (kr : St → Option R) : gi_Func_hasNearUnanimity_l4 K (k + 1) x kx kr = evC (cf_i_Func_hasNearUnanimity K) (en_i_Func_hasNearUnanimity K k) c_i_Func_hasNearUnanimity_L4 (mkSt lv_i_Func_hasNearUnanimity_L4 x) (fun s => mkLoop lv_i_Func_hasNearUnanimity_L4 (gi_Func_hasNearUnanimity_l4 K k) s kx kr) kx kr := by kernel_rfl
theorem si_Func_hasNearUnanimity_l4 {R : Type} (K : Nat) (C : Cx) (hP : C.P = Try.prog) (O : CfgOk C (cf_i_Func_hasNearUnanimity K)) (k : Nat) : LpS C (R := R) (mkLoop lv_i_Func_hasNearUnanimity_L4 (gi_Func_hasNearUnanimity_l4 K k)) c_i_Func_hasNearUnanimity_L4 :=
  loop_sound O (by rw [hP]; kernel_rfl) (fun x kx kr => rfl) (ei_Func_hasNearUnanimity_l4 K) (fun k => lpOk_of (en := en_i_Func_hasNearUnanimity K k) (S := hasK su_i_Func_hasNearUnanimity) (fun i => hasK_lk (sg_i_Func_hasNearUnanimity K k) i) _ (by rw [show partsOf (hasK su_i_Func_hasNearUnanimity) c_i_Func_hasNearUnanimity_L4 = [] from by kernel_rfl]; exact trivial)) k
theorem e_i_Func_hasNearUnanimity (K : Nat) (x : den as_i_Func_hasNearUnanimity) : i_Func_hasNearUnanimity K x = evFn (cf_i_Func_hasNearUnanimity K) as_i_Func_hasNearUnanimity [false] .bool (en_i_Func_hasNearUnanimity K K) Try.f106.results.toList (bodyOf Try.f106) x := by kernel_rfl
theorem ok_i_Func_hasNearUnanimity (K : Nat) : FnOk Try.prog 106 (sp_i_Func_hasNearUnanimity (i_Func_hasNearUnanimity K)) :=
  fn_ok (cf := cf_i_Func_hasNearUnanimity K) (en := en_i_Func_hasNearUnanimity K K) (c := bodyOf Try.f106) Try.func106 (by kernel_rfl) (by kernel_rfl) tysOk (fns_ok (l := [(170, sp_i_Func_at (i_Func_at K)), (171, sp_i_Func_rows (i_Func_rows K)), (174, sp_i_ones (i_ones K))]) ⟨ok_i_Func_at K, ⟨ok_i_Func_rows K, ⟨ok_i_ones K, trivial⟩⟩⟩) (shs_ok (l := []) trivial) (by kernel_rfl) rfl (Nat.le_of_ble_eq_true (by kernel_rfl)) (by kernel_rfl) (of_decide_eq_true (by kernel_rfl)) (by decide) (fun C hP O => lpOk_of (en := en_i_Func_hasNearUnanimity K K) (S := hasK su_i_Func_hasNearUnanimity) (fun i => hasK_lk (sg_i_Func_hasNearUnanimity K K) i) _ (by rw [show partsOf (hasK su_i_Func_hasNearUnanimity) (bodyOf Try.f106) = [(true, c_i_Func_hasNearUnanimity_L4)] from by kernel_rfl]; exact (lpL_loop (f := mkLoop lv_i_Func_hasNearUnanimity_L4 (gi_Func_hasNearUnanimity_l4 K K)) (by kernel_rfl) (si_Func_hasNearUnanimity_l4 K C hP O K) trivial))) (fun x y h => by rw [← e_i_Func_hasNearUnanimity]; exact h)
end Go.Proofs.Ytckkagmccbkfbaa.E
