/-
  The evaluator's functions are sound, first part: the state at a function's entry. Conditions: those of each theorem.
-/
import Derived.Test.YtefmjjpdflpnaaaCFnExactFuncOfFormula4
namespace Go.Proofs.Ytefmjjpdflpnaaa.E
open Go Go.RowKit
set_option linter.unusedVariables false
set_option linter.unusedSimpArgs false
section
variable {P : Program} {w : World}
structure EntOk (P : Program) (w : World) (S : Nat → Prop) (A : Ty) (i : Nat) (U0 : U) (vals : List Value) (bs : List Nat) (hd : Nat → Value) (bl : Nat → List Nat) : Prop where
  ents : ∀ p ∈ U0, (∃ j v, i ≤ j ∧ j < i + A.len ∧ p = (sk j, Cell.sv v)) ∨ (∃ id e l, 8 * i ≤ id ∧ id < 8 * (i + A.len) ∧ p = (rk id, Cell.root 0 0 e l) ∧ TC (.sl e) w [hd id] l (bl id))
  keys : (U0.map (·.1)).Nodup
  bls : ∀ id e l, (rk id, Cell.root 0 0 e l) ∈ U0 → (∀ b ∈ bl id, b ∈ bs) ∧ (bs.Nodup → (bl id).Nodup)
  dj : bs.Nodup → ∀ id e l id' e' l', (rk id, Cell.root 0 0 e l) ∈ U0 → (rk id', Cell.root 0 0 e' l') ∈ U0 → ∀ b, b ∈ bl id → b ∈ bl id' → id = id'
  vl : ∀ j v, (sk j, Cell.sv v) ∈ U0 → ∀ (st' : St) (G' : Gh) (S' : Nat → Prop), (∀ p ∈ U0, st' p.1 = p.2) → (∀ id, 8 * i ≤ id → id < 8 * (i + A.len) → G'.hd (rk id) = hd id) → (∀ b, S b → S' b) → (∀ b, S' b → b < w.heap.size) → SW P st' G' w S' v (vals.getD (j - i) undef)
  len : vals.length = A.len
theorem bl_nodup {bl : Nat → List Nat} : ∀ (l : List Nat), l.Nodup → ((l.map bl).flatten).Nodup → (∀ i ∈ l, (bl i).Nodup) ∧ (∀ i ∈ l, ∀ j ∈ l, ∀ b, b ∈ bl i → b ∈ bl j → i = j)
  | [], _, _ => ⟨fun i hi => (by cases hi), fun i hi => (by cases hi)⟩
  | x :: l, hn, hf => by
    simp only [List.nodup_cons] at hn
    rw [List.map_cons, List.flatten_cons, List.nodup_append] at hf
    obtain ⟨h1, h2⟩ := bl_nodup l hn.2 hf.2.1
    have hx : ∀ j ∈ l, ∀ b, b ∈ bl x → b ∈ bl j → False := fun j hj b hb hb' => hf.2.2 b hb b (List.mem_flatten.2 ⟨bl j, List.mem_map.2 ⟨j, hj, rfl⟩, hb'⟩) rfl
    refine ⟨fun i hi => ?_, fun i hi j hj b hb hb' => ?_⟩
    · rcases List.mem_cons.1 hi with rfl | hi
      · exact hf.1
      · exact h1 i hi
    · rcases List.mem_cons.1 hi with e1 | hi' <;> rcases List.mem_cons.1 hj with e2 | hj'
      · rw [e1, e2]
      · exact (hx j hj' b (e1 ▸ hb) hb').elim
      · exact (hx i hi' b (e2 ▸ hb') hb).elim
      · exact h2 i hi' j hj' b hb hb'
/-- One parameter. -/
theorem ent_one {S : Nat → Prop} {A : Ty} {m : Bool} {c : List Value} {x : den A} {b1 : List Nat} (i : Nat) (h : if m = true then TC A w c x b1 else b1 = [] ∧ RX P A false w S c x) (hok : (!m || (A.ownable && Nat.ble (nroots A) 8 && !A.isTup && !A.isPU)) = true) :
    ∃ hd bl, EntOk P w S (.pair A .unit) i (bif m then (let p := own A x (8 * i) (fun _ => 0); (sk i, .sv p.1) :: p.2.1) else [(sk i, .sv (.val A x))]) [valOf A c] b1 hd bl := by
  cases m with
  | false =>
    simp only [Bool.false_eq_true, if_false] at h
    obtain ⟨rfl, h⟩ := h
    refine ⟨fun _ => undef, fun _ => [], ⟨fun p hp => ?_, by simp, fun id e l hm => ?_, fun _ id e l id' e' l' hm => ?_, fun j v hv st' G' S' h1 h2 h3 h4 => ?_, rfl⟩⟩
    · simp only [cond_false, List.mem_singleton] at hp
      exact .inl ⟨i, _, Nat.le_refl _, by simp [Ty.len], hp⟩
    · simp at hm
    · simp at hm
    · simp only [cond_false, List.mem_singleton, Prod.mk.injEq, Cell.sv.injEq] at hv
      obtain ⟨e, rfl⟩ := hv
      have e := sk_inj e
      subst e
      rw [Nat.sub_self]
      exact ⟨c, rfl, RX_congr P A false (Nat.le_refl _) (fun b hb _ => ⟨h3 b hb, rfl⟩) h4 h⟩
  | true =>
    simp only [if_true] at h
    simp only [Bool.not_true, Bool.false_or, Bool.and_eq_true, Bool.not_eq_true'] at hok
    obtain ⟨⟨⟨h1, h2⟩, h3⟩, h4⟩ := hok
    have h2 : nroots A ≤ 8 := Nat.le_of_ble_eq_true h2
    obtain ⟨hd, bl, Q⟩ := own_ok (P := P) (w' := w) (gn := fun _ => 0) A false x c b1 (8 * i) h h1
    have hq5 := Q.p5
    have hqk : ((own A x (8 * i) (fun _ => 0)).2.1.map (·.1)).Nodup := by
      rw [Q.p3]
      exact List.pairwise_map.2 (List.Pairwise.imp (fun h e => h (rk_inj e)) (List.nodup_range' (s := 8 * i) (n := (own A x (8 * i) (fun _ => 0)).2.2 - 8 * i)))
    have hid : ∀ id e l, (rk id, Cell.root 0 0 e l) ∈ (own A x (8 * i) (fun _ => 0)).2.1 → id ∈ List.range' (8 * i) ((own A x (8 * i) (fun _ => 0)).2.2 - 8 * i) := fun id e l hm => by
      obtain ⟨id', e', l', k1, k2, k3, _⟩ := Q.p1 _ hm
      simp only [Prod.mk.injEq] at k3
      have := rk_inj k3.1
      subst this
      exact List.mem_range'_1.2 (by omega)
    have hmem : ∀ p, p ∈ (sk i, Cell.sv (own A x (8 * i) (fun _ => 0)).1) :: (own A x (8 * i) (fun _ => 0)).2.1 → p = (sk i, Cell.sv (own A x (8 * i) (fun _ => 0)).1) ∨ p ∈ (own A x (8 * i) (fun _ => 0)).2.1 := fun p hp => List.mem_cons.1 hp
    refine ⟨hd, bl, ⟨fun p hp => ?_, ?_, fun id e l hm => ?_, fun hn id e l id' e' l' hm hm' b hb hb' => ?_, fun j v hv st' G' S' k1 k2 k3 k4 => ?_, rfl⟩⟩
    · rcases hmem p hp with hp | hp
      · exact .inl ⟨i, _, Nat.le_refl _, by simp [Ty.len], hp⟩
      · obtain ⟨id, e, l, k1, k2, k3, k4⟩ := Q.p1 p hp
        exact .inr ⟨id, e, l, k1, by simp only [Ty.len]; omega, k3, k4⟩
    · show (((sk i, Cell.sv (own A x (8 * i) (fun _ => 0)).1) :: (own A x (8 * i) (fun _ => 0)).2.1).map (·.1)).Nodup
      rw [List.map_cons, List.nodup_cons]
      refine ⟨fun hm => ?_, hqk⟩
      obtain ⟨p, hp, e⟩ := List.mem_map.1 hm
      obtain ⟨id, e', l, _, _, k3, _⟩ := Q.p1 p hp
      rw [k3] at e
      exact sk_ne_rk _ _ e.symm
    · rcases hmem _ hm with hm | hm
      · simp at hm
      · have hi := hid id e l hm
        refine ⟨fun b hb => by rw [Q.p2]; exact List.mem_flatten.2 ⟨bl id, List.mem_map.2 ⟨id, hi, rfl⟩, hb⟩, fun hn => ?_⟩
        rw [Q.p2] at hn
        exact (bl_nodup _ List.nodup_range' hn).1 id hi
    · rcases hmem _ hm with hm | hm
      · simp at hm
      · rcases hmem _ hm' with hm' | hm'
        · simp at hm'
        · rw [Q.p2] at hn
          exact (bl_nodup _ List.nodup_range' hn).2 id (hid id e l hm) id' (hid id' e' l' hm') b hb hb'
    · rcases hmem _ hv with hv | hv
      · simp only [Prod.mk.injEq, Cell.sv.injEq] at hv
        obtain ⟨e, rfl⟩ := hv
        have e := sk_inj e
        subst e
        rw [Nat.sub_self]
        show SW P st' G' w S' _ (valOf A c)
        rw [← Q.p6 rfl]
        exact SW_of (Q.p4 st' G' S' (fun p hp => k1 p (List.mem_cons_of_mem _ hp)) (fun id j1 j2 => k2 id j1 (by simp only [Ty.len]; omega)))
      · obtain ⟨id, e', l, _, _, k3, _⟩ := Q.p1 _ hv
        simp at k3
theorem ent_ok {S : Nat → Prop} : ∀ (A : Ty) (mu : List Bool) (i : Nat) {vals : List Value} {x : den A} {bs : List Nat}, AX P A mu w S vals x bs → entB A mu = true → ∃ hd bl, EntOk P w S A i (argL A mu x i) vals bs hd bl
  | .unit, mu, i, vals, x, bs, h, hok => by
    obtain ⟨rfl, rfl⟩ := h
    exact ⟨fun _ => undef, fun _ => [], ⟨fun p hp => (by cases hp), List.nodup_nil, fun id e l hm => (by cases hm), fun _ id e l id' e' l' hm => (by cases hm), fun j v hv => (by cases hv), rfl⟩⟩
  | .pair A B, mu, i, vals, x, bs, h, hok => by
    obtain ⟨c, r, b1, b2, rfl, rfl, h1, h2⟩ := h
    cases mu with
    | nil => cases hok
    | cons m mu =>
      simp only [entB, Bool.and_eq_true] at hok
      obtain ⟨hd1, bl1, E1⟩ := ent_one (P := P) (S := S) (m := m) i h1 hok.1
      obtain ⟨hd2, bl2, E2⟩ := ent_ok B mu (i + 1) h2 hok.2
      have hU : argL (.pair A B) (m :: mu) x i = (bif m then (let p := own A x.1 (8 * i) (fun _ => 0); (sk i, .sv p.1) :: p.2.1) else [(sk i, .sv (.val A x.1))]) ++ argL B mu x.2 (i + 1) := rfl
      rw [hU]
      generalize (bif m then (let p := own A x.1 (8 * i) (fun _ => 0); (sk i, Cell.sv p.1) :: p.2.1) else [(sk i, Cell.sv (.val A x.1))]) = U1 at E1
      have l1 : (Ty.pair A .unit).len = 1 := rfl
      have l2 : (Ty.pair A B).len = B.len + 1 := rfl
      have r1 : ∀ id e l, (rk id, Cell.root 0 0 e l) ∈ U1 → 8 * i ≤ id ∧ id < 8 * (i + 1) := fun id e l hm => by
        rcases E1.ents _ hm with ⟨j, v, _, _, e'⟩ | ⟨id', e', l', k1, k2, k3, _⟩
        · simp at e'
        · simp only [Prod.mk.injEq] at k3
          have := rk_inj k3.1
          rw [l1] at k2; omega
      have r2 : ∀ id e l, (rk id, Cell.root 0 0 e l) ∈ argL B mu x.2 (i + 1) → 8 * (i + 1) ≤ id ∧ id < 8 * (i + 1 + B.len) := fun id e l hm => by
        rcases E2.ents _ hm with ⟨j, v, _, _, e'⟩ | ⟨id', e', l', k1, k2, k3, _⟩
        · simp at e'
        · simp only [Prod.mk.injEq] at k3
          have := rk_inj k3.1
          omega
      refine ⟨fun id => if id < 8 * (i + 1) then hd1 id else hd2 id, fun id => if id < 8 * (i + 1) then bl1 id else bl2 id, ⟨fun p hp => ?_, ?_, fun id e l hm => ?_, fun hn id e l id' e' l' hm hm' b hb hb' => ?_, fun j v hv st' G' S' k1 k2 k3 k4 => ?_, by simp [E2.len, l2]⟩⟩
      · rcases List.mem_append.1 hp with hp | hp
        · rcases E1.ents p hp with ⟨j, v, k1, k2, k3⟩ | ⟨id, e, l, k1, k2, k3, k4⟩
          · exact .inl ⟨j, v, k1, by rw [l1] at k2; rw [l2]; omega, k3⟩
          · rw [l1] at k2
            exact .inr ⟨id, e, l, k1, by rw [l2]; omega, k3, by simp only [if_pos k2]; exact k4⟩
        · rcases E2.ents p hp with ⟨j, v, k1, k2, k3⟩ | ⟨id, e, l, k1, k2, k3, k4⟩
          · exact .inl ⟨j, v, by omega, by rw [l2]; omega, k3⟩
          · have : ¬ id < 8 * (i + 1) := by omega
            exact .inr ⟨id, e, l, by omega, by rw [l2]; omega, k3, by simp only [if_neg this]; exact k4⟩
      · rw [List.map_append]
        refine nodup_app E1.keys E2.keys fun k h1 h2 => ?_
        obtain ⟨p, hp, rfl⟩ := List.mem_map.1 h1
        obtain ⟨q, hq, e⟩ := List.mem_map.1 h2
        have e : q.1 = p.1 := e
        rcases E1.ents p hp with ⟨j, v, k1, k2, k3⟩ | ⟨id, e1, l, k1, k2, k3, k4⟩ <;> rcases E2.ents q hq with ⟨j', v', j1, j2, j3⟩ | ⟨id', e2, l', j1, j2, j3, j4⟩ <;> rw [k3, j3] at e <;> rw [l1] at k2
        · have := sk_inj e; omega
        · exact sk_ne_rk _ _ e.symm
        · exact sk_ne_rk _ _ e
        · have := rk_inj e; omega
      · rcases List.mem_append.1 hm with hm | hm
        · have := r1 id e l hm
          simp only [if_pos this.2]
          obtain ⟨k1, k2⟩ := E1.bls id e l hm
          exact ⟨fun b hb => List.mem_append_left _ (k1 b hb), fun hn => k2 (List.nodup_append.1 hn).1⟩
        · have := r2 id e l hm
          simp only [if_neg (show ¬ id < 8 * (i + 1) by omega)]
          obtain ⟨k1, k2⟩ := E2.bls id e l hm
          exact ⟨fun b hb => List.mem_append_right _ (k1 b hb), fun hn => k2 (List.nodup_append.1 hn).2.1⟩
      · rcases List.mem_append.1 hm with hm | hm <;> rcases List.mem_append.1 hm' with hm' | hm'
        · have q1 := r1 id e l hm
          have q2 := r1 id' e' l' hm'
          simp only [if_pos q1.2] at hb
          simp only [if_pos q2.2] at hb'
          exact E1.dj (List.nodup_append.1 hn).1 id e l id' e' l' hm hm' b hb hb'
        · have q1 := r1 id e l hm
          have q2 := r2 id' e' l' hm'
          simp only [if_pos q1.2] at hb
          simp only [if_neg (show ¬ id' < 8 * (i + 1) by omega)] at hb'
          exact ((List.nodup_append.1 hn).2.2 b ((E1.bls id e l hm).1 b hb) b ((E2.bls id' e' l' hm').1 b hb') rfl).elim
        · have q1 := r2 id e l hm
          have q2 := r1 id' e' l' hm'
          simp only [if_neg (show ¬ id < 8 * (i + 1) by omega)] at hb
          simp only [if_pos q2.2] at hb'
          exact ((List.nodup_append.1 hn).2.2 b ((E1.bls id' e' l' hm').1 b hb') b ((E2.bls id e l hm).1 b hb) rfl).elim
        · have q1 := r2 id e l hm
          have q2 := r2 id' e' l' hm'
          simp only [if_neg (show ¬ id < 8 * (i + 1) by omega)] at hb
          simp only [if_neg (show ¬ id' < 8 * (i + 1) by omega)] at hb'
          exact E2.dj (List.nodup_append.1 hn).2.1 id e l id' e' l' hm hm' b hb hb'
      · rcases List.mem_append.1 hv with hv | hv
        · have hj : j = i := by
            rcases E1.ents _ hv with ⟨j', v', q1, q2, q3⟩ | ⟨id, e1, l, q1, q2, q3, q4⟩
            · simp only [Prod.mk.injEq] at q3
              have := sk_inj q3.1
              rw [l1] at q2; omega
            · simp at q3
          have := E1.vl j v hv st' G' S' (fun p hp => k1 p (List.mem_append_left _ hp)) (fun id j1 j2 => by
            rw [l1] at j2
            rw [k2 id j1 (by rw [l2]; omega), if_pos j2]) k3 k4
          subst hj
          rw [Nat.sub_self] at this ⊢
          exact this
        · have hj : i + 1 ≤ j := by
            rcases E2.ents _ hv with ⟨j', v', q1, q2, q3⟩ | ⟨id, e1, l, q1, q2, q3, q4⟩
            · simp only [Prod.mk.injEq] at q3
              have := sk_inj q3.1
              omega
            · simp at q3
          have := E2.vl j v hv st' G' S' (fun p hp => k1 p (List.mem_append_right _ hp)) (fun id j1 j2 => by
            rw [k2 id (by omega) (by rw [l2]; omega), if_neg (by omega)]) k3 k4
          rw [show j - i = (j - (i + 1)) + 1 from by omega]
          simpa using this
  | .int _, _, _, _, _, _, h, _ => h.elim
  | .bool, _, _, _, _, _, h, _ => h.elim
  | .str, _, _, _, _, _, h, _ => h.elim
  | .st _, _, _, _, _, _, h, _ => h.elim
  | .tup _, _, _, _, _, _, h, _ => h.elim
  | .sl _, _, _, _, _, _, h, _ => h.elim
  | .arr _ _, _, _, _, _, _, h, _ => h.elim
  | .ptr _, _, _, _, _, _, h, _ => h.elim
  | .fn _ _, _, _, _, _, _, h, _ => h.elim
  | .frm, _, _, _, _, _, h, _ => h.elim
end
end Go.Proofs.Ytefmjjpdflpnaaa.E
namespace Go.Proofs.Ytefmjjpdflpnaaa.E
open Go Go.RowKit
set_option linter.unusedVariables false
set_option linter.unusedSimpArgs false
def rvG (tmps : Array Value) : ResultVar → Sem Value
  | .tmp t => pure (tmps.getD t undef)
  | .cell a t => do loadVar t (← asAddr (tmps.getD a undef))
section
variable {C : Cx} {cf : Cfg} {st st' : St} {a : Act} {w w' : World} {G G' : Gh} {us : U} {α : Type} {u : α}
theorem results_run {P : Program} {fn : Func} {tmps : Array Value} {vs : List Value} (h : (fn.results.toList.mapM (rvG tmps)).run P w = .ok vs w) : (results fn tmps).run P w = .ok (if h : vs.length = 1 then vs[0] else .tuple vs.toArray) w := by
  have e : results fn tmps = (do let vs ← fn.results.mapM (rvG tmps); pure (if h : vs.size = 1 then vs[0] else .tuple vs)) := rfl
  rw [e, Array.mapM_eq_mapM_toList]
  simp only [map_eq_pure_bind, bind_assoc, pure_bind, Sem.run_bind, h, Result.andThen_ok, Sem.run_pure]
  congr 1
theorem entry_inv {P : Program} {A : Ty} {mu : List Bool} {vals : List Value} {x : den A} {bs : List Nat} {pr nt : Nat} (h : AX P A mu w (fun b => b < w.heap.size ∧ b ∉ bs) vals x bs) (hn : bs.Nodup) (hok : entB A mu = true) (hlen : A.len ≤ nt) (hpr : pr ≤ A.len) :
    ∃ G, Inv ⟨P, w, bs, vals, pr, nt, fun _ => True⟩ (upds st0 (argL A mu x 0)) { tmps := vals.toArray ++ Array.replicate (nt - vals.toArray.size) undef, defers := [] } w G := by
  obtain ⟨hd, bl, E⟩ := ent_ok A mu 0 h hok
  have hvl := E.len
  have hk3 : ∀ id, rk id / 3 = id := fun id => by unfold rk; omega
  let G : Gh := ⟨fun k => hd (k / 3), fun k => bl (k / 3), fun _ => 0, fun _ => True⟩
  have hin : ∀ p ∈ argL A mu x 0, upds st0 (argL A mu x 0) p.1 = p.2 := fun p hp => upds_in _ _ E.keys (by simpa using hp)
  have hout : ∀ k c, upds st0 (argL A mu x 0) k = c → c ≠ .none → (k, c) ∈ argL A mu x 0 := fun k c h1 h2 => by
    by_cases hk : ∃ p ∈ argL A mu x 0, p.1 = k
    · obtain ⟨p, hp, rfl⟩ := hk
      rw [hin p hp] at h1; subst h1; exact hp
    · have : upds st0 (argL A mu x 0) k = st0 k := upds_out _ _ _ fun p hp e => hk ⟨p, hp, e⟩
      rw [this] at h1
      exact absurd h1.symm h2
  have hroot : ∀ k g hh e l, upds st0 (argL A mu x 0) k = .root g hh e l → ∃ id, k = rk id ∧ (rk id, Cell.root 0 0 e l) ∈ argL A mu x 0 ∧ TC (.sl e) w [hd id] l (bl id) := fun k g hh e l hr => by
    have hm := hout k _ hr (by simp)
    rcases E.ents _ hm with ⟨j, v, _, _, e'⟩ | ⟨id, e1, l1, _, _, k3, k4⟩
    · simp at e'
    · simp only [Prod.mk.injEq, Cell.root.injEq] at k3
      obtain ⟨rfl, rfl, rfl, rfl, k5⟩ := k3
      cases k5
      exact ⟨id, rfl, hm, k4⟩
  have hbox : ∀ k g T v, upds st0 (argL A mu x 0) k ≠ .box g T v := fun k g T v hr => by
    have hm := hout k _ hr (by simp)
    rcases E.ents _ hm with ⟨j, v, _, _, e'⟩ | ⟨id, e1, l1, _, _, k3, k4⟩
    · simp at e'
    · simp at k3
  have hown' : ∀ k g, upds st0 (argL A mu x 0) k ≠ .own g := fun k g hr => by
    have hm := hout k _ hr (by simp)
    rcases E.ents _ hm with ⟨j, v, _, _, e'⟩ | ⟨id, e1, l1, _, _, k3, k4⟩
    · simp at e'
    · simp at k3
  have own : ∀ k b, b ∈ ownB (upds st0 (argL A mu x 0)) G k → ∃ id e l, k = rk id ∧ (rk id, Cell.root 0 0 e l) ∈ argL A mu x 0 ∧ TC (.sl e) w [hd id] l (bl id) ∧ b ∈ bl id := fun k b hb => by
    unfold ownB at hb
    split at hb
    · rename_i g hh e l hr
      obtain ⟨id, rfl, k1, k2⟩ := hroot _ _ _ _ _ hr
      have hb : b ∈ bl (rk id / 3) := hb
      rw [hk3] at hb
      exact ⟨id, e, l, rfl, k1, k2, hb⟩
    · rename_i g T v hr
      exact absurd hr (hbox _ _ _ _)
    · rename_i g hr
      exact absurd hr (hown' _ _)
    · cases hb
  have hsize : vals.toArray.size = A.len := by simp [hvl]
  have htm : ∀ i, i < A.len → (vals.toArray ++ Array.replicate (nt - vals.toArray.size) undef).getD i undef = vals.getD i undef := fun i hi => by
    rw [Array.getD_eq_getD_getElem?, Array.getElem?_append, if_pos (by rw [hsize]; exact hi)]
    simp [List.getD]
  refine ⟨G, { rt := fun k g hh e l hr => ?_, sc := fun i => ?_, bx := fun k g T v hr => absurd hr (hbox _ _ _ _), nd := fun k => ?_, dj := fun k k' b h1 h2 => ?_, lt := fun k b hb => ?_, os := rfl, tape := rfl, output := rfl, size := Nat.le_refl _, block := fun _ _ _ => rfl, s0 := rfl, m0 := fun _ _ => trivial, sl := fun i v hv => ?_, df := rfl, sz := ?_, pa := fun i hi => ?_ }⟩
  · obtain ⟨id, rfl, k1, k2⟩ := hroot _ _ _ _ _ hr
    show TC (.sl e) w [hd (rk id / 3)] l (bl (rk id / 3))
    rw [hk3]; exact k2
  · cases hc : upds st0 (argL A mu x 0) (sk i) with
    | none => exact .inr rfl
    | sv v => exact .inl ⟨v, rfl⟩
    | root g hh e l => obtain ⟨id, k, _⟩ := hroot _ _ _ _ _ hc; exact absurd k (sk_ne_rk _ _)
    | box g T v => exact absurd hc (hbox _ _ _ _)
    | own g => exact absurd hc (hown' _ _)
    | gone g =>
      have hm := hout _ _ hc (by simp)
      rcases E.ents _ hm with ⟨j, v, _, _, e'⟩ | ⟨id, e1, l1, _, _, k3, k4⟩
      · simp at e'
      · simp at k3
  · unfold ownB
    split
    · rename_i g hh e l hr
      obtain ⟨id, rfl, k1, k2⟩ := hroot _ _ _ _ _ hr
      show (bl (rk id / 3)).Nodup
      rw [hk3]; exact (E.bls id e l k1).2 hn
    · simp
    · rename_i g hr; exact absurd hr (hown' _ _)
    · exact List.nodup_nil
  · obtain ⟨id, e, l, rfl, k1, _, k2⟩ := own k b h1
    obtain ⟨id', e', l', rfl, j1, _, j2⟩ := own k' b h2
    rw [E.dj hn id e l id' e' l' k1 j1 b k2 j2]
  · obtain ⟨id, e, l, rfl, k1, k2, k3⟩ := own k b hb
    exact ⟨TC_lt _ k2 b k3, .inr ((E.bls id e l k1).1 b k3)⟩
  · have hm := hout _ _ hv (by simp)
    have hi : i < A.len := by
      rcases E.ents _ hm with ⟨j, v', k1, k2, e'⟩ | ⟨id, e1, l1, _, _, k3, k4⟩
      · simp only [Prod.mk.injEq] at e'
        have := sk_inj e'.1
        omega
      · simp at k3
    have := E.vl i v hm (upds st0 (argL A mu x 0)) G (Fz (upds st0 (argL A mu x 0)) G w) hin (fun id _ _ => by show hd (rk id / 3) = hd id; rw [hk3]) (fun b hb => ⟨hb.1, fun k hk => by
      obtain ⟨id, e, l, rfl, k1, _, k3⟩ := own k b hk
      exact hb.2 ((E.bls id e l k1).1 b k3), trivial⟩) (fun b hb => hb.1)
    rw [htm i hi]
    simpa using this
  · show (vals.toArray ++ Array.replicate (nt - vals.toArray.size) undef).size = nt
    rw [Array.size_append, Array.size_replicate, hsize]; omega
  · show (vals.toArray ++ Array.replicate (nt - vals.toArray.size) undef).getD i undef = vals.getD i undef
    exact htm i (Nat.lt_of_lt_of_le hi hpr)
theorem SX_list_len {P : Program} {S : Nat → Prop} : ∀ (v : SV) {vs : List Value}, SX P st G w S v true vs → vs.length = v.len
  | .unit, vs, h => by have h : vs = [] := h; rw [h]; rfl
  | .pair a b, vs, h => by
    obtain ⟨c, r, rfl, _, h2⟩ := h
    rw [List.length_cons, SX_list_len b h2]; rfl
  | .val _ _, _, h => h.elim
  | .nil, _, h => h.elim
  | .ref _ _ _, _, h => h.elim
  | .sub _ _ _ _ _ _, _, h => h.elim
  | .vw _ _ _ _ _, _, h => h.elim
  | .sap _ _ _ _ _ _ _ _, _, h => h.elim
  | .mp _ _, _, h => h.elim
  | .pel _ _ _ _, _, h => h.elim
  | .pbx _ _ _, _, h => h.elim
  | .pix _ _ _ _, _, h => h.elim
  | .st _, _, h => h.elim
  | .tup _, _, h => h.elim
  | .clo _ _ _, _, h => h.elim
theorem resSV_run (O : CfgOk C cf) (I : Inv C st a w G) : ∀ (rs : List ResultVar) {f : SV → M α}, Rn (resSV cf rs f) st u → ∃ v vs, (rs.mapM (rvG a.tmps)).run C.P w = .ok vs w ∧ SX C.P st G w (Fz st G w) v true vs ∧ Rn (f v) st u
  | [], f, h => ⟨.unit, [], rfl, rfl, h⟩
  | .tmp t :: rs, f, h => by
    unfold resSV at h
    obtain ⟨v, _, hv, h⟩ := slot_run I h
    split at h
    · exact (Rn_fail.1 h).elim
    · rename_i hnt
      obtain ⟨v', vs, k1, k2, k3⟩ := resSV_run O I rs h
      obtain ⟨c, hc1, hc2⟩ := SW_cells hv (fun b e => hnt b e)
      refine ⟨.pair v v', a.tmps.getD t undef :: vs, ?_, ⟨c, vs, by rw [hc1], hc2, k2⟩, k3⟩
      rw [List.mapM_cons]
      simp only [rvG, Sem.run_bind, Sem.run_pure, Result.andThen_ok, k1]
  | .cell p t :: rs, f, h => by
    unfold resSV at h
    obtain ⟨v, _, hv, h⟩ := slot_run I h
    split at h
    case h_2 => exact (Rn_fail.1 h).elim
    rename_i b g _
    rw [Rn_get] at h
    split at h
    case h_2 => exact (Rn_fail.1 h).elim
    rename_i g' B v0 hr
    rw [Rn_chk] at h
    have hg : g = g' := Nat.eq_of_beq_eq_true h.1
    subst hg
    have h := h.2
    rw [Rn_bif] at h
    rcases h with ⟨hty, h⟩ | ⟨_, h⟩
    case inr => exact (Rn_fail.1 h).elim
    have hty := of_decide_eq_true hty
    obtain ⟨v', vs, k1, k2, k3⟩ := resSV_run O I rs h
    obtain ⟨c, hc, x, rfl, _, _, hx⟩ := hv
    have hx := hx _ _ hr
    obtain ⟨ht, arr, et, ha, hs⟩ := I.bx _ _ _ _ hr
    have hl := SX_len v0 B ht hs
    have hload := loadVar_run (O.ty _ _ hty) (w := w) (b := G.bx (bk b)) (o := 0) ha (by rw [← Array.length_toList]; omega)
    rw [seg_all hl] at hload
    have hp : a.tmps.getD p undef = .pointer (some ⟨G.bx (bk b), 0, none⟩) := by rw [hc]; exact hx
    refine ⟨.pair v0 v', valOf B arr.toList :: vs, ?_, ⟨arr.toList, vs, by rw [valS_res ht], hs, k2⟩, k3⟩
    rw [List.mapM_cons]
    simp only [rvG, hp, asAddr, Sem.run_bind, Sem.run_pure, Result.andThen_ok, hload, k1]
theorem list_run (I : InvM C st w G) {T : Ty} {v : SV} {vs : List Value} {f : den T → List (Nat × Nat) → M α} (h : Rn (listM T v f) st u) (hs : SX C.P st G w (Fz st G w) v true vs) :
    ∃ x ts, TV T false w [if h : vs.length = 1 then vs[0] else .tuple vs.toArray] x (blk G ts) ∧ Rn (f x ts) st u ∧ (∀ p ∈ ts, RT st p) ∧ (T.isTup = false → ∃ c, (if h : vs.length = 1 then vs[0] else .tuple vs.toArray) = valOf T c ∧ TC T w c x (blk G ts)) := by
  have hlen := SX_list_len v hs
  have one : T.isTup = false → Rn (match v with | .pair a .unit => mv T a f | _ => .fail) st u → ∃ x ts, TV T false w [if h : vs.length = 1 then vs[0] else .tuple vs.toArray] x (blk G ts) ∧ Rn (f x ts) st u ∧ (∀ p ∈ ts, RT st p) ∧ (T.isTup = false → ∃ c, (if h : vs.length = 1 then vs[0] else .tuple vs.toArray) = valOf T c ∧ TC T w c x (blk G ts)) := by
    intro hT h
    split at h
    case h_2 => exact (Rn_fail.1 h).elim
    rename_i p _
    obtain ⟨c, r, rfl, h1, h2⟩ := hs
    have h2 : r = [] := h2
    subst h2
    obtain ⟨x, ts, k1, k2, k3, k4⟩ := mv_run I p T false h h1
    simp only [Bool.false_eq_true, if_false] at k1
    have e : (if h : [valS p c].length = 1 then [valS p c][0] else .tuple [valS p c].toArray) = valOf T c := by
      rw [← k4 rfl]; rfl
    rw [e]
    exact ⟨x, ts, TV_of_TC k1, k2, k3, fun _ => ⟨c, rfl, k1⟩⟩
  cases T with
  | tup F =>
    have h : Rn (bif Nat.beq v.len 1 then .fail else mv F v f) st u := h
    rw [Rn_bif] at h
    rcases h with ⟨_, h⟩ | ⟨hb, h⟩
    · exact (Rn_fail.1 h).elim
    obtain ⟨x, ts, k1, k2, k3, k4⟩ := mv_run I v F true h hs
    have hne : ¬ vs.length = 1 := fun e => by
      rw [hlen] at e
      rw [e] at hb; cases hb
    rw [dif_neg hne]
    exact ⟨x, ts, ⟨vs, rfl, k1⟩, k2, k3, fun e => by cases e⟩
  | _ => exact one rfl h
theorem AX_of_RX {P : Program} {S : Nat → Prop} : ∀ (A : Ty) (mu : List Bool) {vals : List Value} {x : den A}, mu.any id = false → RX P A true w S vals x → AX P A mu w S vals x []
  | .unit, mu, vals, x, hm, h => ⟨h, rfl⟩
  | .pair A B, mu, vals, x, hm, h => by
    obtain ⟨c, r, rfl, h1, h2⟩ := h
    have : mu.headD false = false := by
      cases mu with
      | nil => rfl
      | cons m mu => simp only [List.any_cons, Bool.or_eq_false_iff] at hm; exact hm.1
    exact ⟨c, r, [], [], rfl, rfl, by rw [this]; exact ⟨rfl, h1⟩, AX_of_RX B mu.tail (any_tail hm) h2⟩
  | .int _, _, _, _, _, h => h.elim
  | .bool, _, _, _, _, h => h.elim
  | .str, _, _, _, _, h => h.elim
  | .st _, _, _, _, _, h => h.elim
  | .tup _, _, _, _, _, h => h.elim
  | .sl _, _, _, _, _, h => h.elim
  | .arr _ _, _, _, _, _, h => h.elim
  | .ptr _, _, _, _, _, h => h.elim
  | .fn _ _, _, _, _, _, h => h.elim
  | .frm, _, _, _, _, h => h.elim
def pickL : List Bool → List Value → List Value
  | m :: mu, v :: vs => if m = true then v :: pickL mu vs else pickL mu vs
  | _, _ => []
theorem outs_run (I : Inv C st a w G) : ∀ (mu : List Bool) (vals : List Value) (i : Nat) {f : SV → M α}, mu.length = vals.length → (∀ k, k < vals.length → mu.getD k false = true → a.tmps.getD (i + k) undef = vals.getD k undef) → Rn (outsM mu i f) st u →
    ∃ v, SX C.P st G w (Fz st G w) v true (pickL mu vals) ∧ Rn (f v) st u
  | [], vals, i, f, hl, hv, h => ⟨.unit, by
      show pickL [] vals = []
      cases vals <;> rfl, h⟩
  | m :: mu, [], i, f, hl, hv, h => by simp at hl
  | m :: mu, x :: vals, i, f, hl, hv, h => by
    unfold outsM at h
    have hv' : ∀ k, k < vals.length → mu.getD k false = true → a.tmps.getD (i + 1 + k) undef = vals.getD k undef := fun k hk hmk => by
      have := hv (k + 1) (by simpa using hk) (by simpa using hmk)
      rw [show i + 1 + k = i + (k + 1) from by omega, this]; simp
    rw [Rn_bif] at h
    rcases h with ⟨hm, h⟩ | ⟨hm, h⟩
    · subst hm
      obtain ⟨v, _, hw, h⟩ := slot_run I h
      split at h
      · exact (Rn_fail.1 h).elim
      · rename_i hnt
        obtain ⟨v', k1, k2⟩ := outs_run I mu vals (i + 1) (by simpa using hl) hv' h
        obtain ⟨c, hc1, hc2⟩ := SW_cells hw (fun b e => hnt b e)
        have h0 := hv 0 (by simp) rfl
        rw [Nat.add_zero] at h0
        refine ⟨.pair v v', ⟨c, pickL mu vals, ?_, hc2, k1⟩, k2⟩
        rw [← hc1, h0]; simp [pickL]
    · subst hm
      obtain ⟨v', k1, k2⟩ := outs_run I mu vals (i + 1) (by simpa using hl) hv' h
      exact ⟨v', by simpa [pickL] using k1, k2⟩
theorem TV_OX : ∀ (A : Ty) (mu : List Bool) {vals : List Value} {z : den (outT A mu)} {bs : List Nat}, entB A mu = true → vals.length = A.len → TV (outT A mu) true w (pickL mu vals) z bs → OX A mu w vals z bs
  | .unit, [], vals, z, bs, _, _, h => h.2
  | .unit, _ :: _, vals, z, bs, he, _, h => by cases he
  | .pair A B, [], vals, z, bs, he, _, h => by cases he
  | .pair A B, false :: mu, vals, z, bs, he, hl, h => by
    simp only [entB, Bool.and_eq_true] at he
    cases vals with
    | nil => simp [Ty.len] at hl
    | cons v vals =>
      have h : TV (outT B mu) true w (pickL mu vals) z bs := h
      exact TV_OX B mu he.2 (by simpa [Ty.len] using hl) h
  | .pair A B, true :: mu, vals, z, bs, he, hl, h => by
    simp only [entB, Bool.and_eq_true, Bool.not_true, Bool.false_or, Bool.not_eq_true'] at he
    cases vals with
    | nil => simp [Ty.len] at hl
    | cons v vals =>
      have h : TV (.pair A (outT B mu)) true w (v :: pickL mu vals) z bs := h
      obtain ⟨v', r, b1, b2, e, rfl, h1, h2⟩ := h
      simp only [List.cons.injEq] at e
      obtain ⟨rfl, rfl⟩ := e
      have h3 : ∃ c, v = valOf A c ∧ TC A w c z.1 b1 := by
        have ht := he.1.1.2
        cases A <;> first | (obtain ⟨c, e, hc⟩ := h1; exact ⟨c, by simpa using e, hc⟩) | cases ht
      obtain ⟨c, rfl, hc⟩ := h3
      exact ⟨c, vals, b1, b2, rfl, rfl, hc, TV_OX B mu he.2 (by simpa [Ty.len] using hl) h2⟩
  | .int _, _, _, _, _, he, _, _ => by cases he
  | .bool, _, _, _, _, he, _, _ => by cases he
  | .str, _, _, _, _, he, _, _ => by cases he
  | .st _, _, _, _, _, he, _, _ => by cases he
  | .tup _, _, _, _, _, he, _, _ => by cases he
  | .sl _, _, _, _, _, he, _, _ => by cases he
  | .arr _ _, _, _, _, _, he, _, _ => by cases he
  | .ptr _, _, _, _, _, he, _, _ => by cases he
  | .fn _ _, _, _, _, _, he, _, _ => by cases he
  | .frm, _, _, _, _, he, _, _ => by cases he
theorem entB_len : ∀ (A : Ty) (mu : List Bool), entB A mu = true → mu.length = A.len
  | .unit, [], _ => rfl
  | .unit, _ :: _, he => by cases he
  | .pair A B, [], he => by cases he
  | .pair A B, m :: mu, he => by
    simp only [entB, Bool.and_eq_true] at he
    rw [List.length_cons, entB_len B mu he.2]; rfl
  | .int _, _, he => by cases he
  | .bool, _, he => by cases he
  | .str, _, he => by cases he
  | .st _, _, he => by cases he
  | .tup _, _, he => by cases he
  | .sl _, _, he => by cases he
  | .arr _ _, _, he => by cases he
  | .ptr _, _, he => by cases he
  | .fn _ _, _, he => by cases he
  | .frm, _, he => by cases he
end
end Go.Proofs.Ytefmjjpdflpnaaa.E
namespace Go.Proofs.Ytefmjjpdflpnaaa.E
open Go Go.RowKit
set_option linter.unusedVariables false
set_option linter.unusedSimpArgs false
section
variable {C : Cx} {cf : Cfg} {st st' : St} {a : Act} {w w' : World} {G G' : Gh} {us : U} {α : Type} {u : α}
theorem fin_plain (O : CfgOk C cf) (I : Inv C st a w G) (hmt : C.mt = []) {rs : List ResultVar} {pas ret : Ty} {mu : List Bool} (hmu : mu.any id = false) {r : den ret} (h : Rn (finM cf rs pas mu ret) st r) {fn : Func} (hrs : fn.results.toList = rs) :
    ∃ v, (results fn a.tmps).run C.P w = .ok v w ∧ Ret ret r C.w0 v w := by
  unfold finM at h
  obtain ⟨v, vs, h1, h2, h⟩ := resSV_run O I rs h
  rw [hmu] at h
  simp only [cond_false] at h
  obtain ⟨x, ts, k1, k2, k3, _⟩ := list_run I.toInvM h h2
  rw [Rn_bif] at k2
  rcases k2 with ⟨hb, k2⟩ | ⟨_, k2⟩
  case inr => exact (Rn_fail.1 k2).elim
  rw [Rn_ret] at k2
  subst k2
  simp only [Bool.and_eq_true, nodupB_iff] at hb
  rw [← hrs] at h1
  refine ⟨_, results_run h1, blk G ts, k1, blk_nodup I.toInvM ts k3 hb.1, fun b hb => ?_, ⟨I.os, I.tape, I.output, I.size, fun k hk => I.block k hk (by rw [hmt]; simp)⟩⟩
  obtain ⟨p, hp, hb⟩ := blk_mem hb
  rw [← own_of_RT (k3 p hp)] at hb
  have := I.lt _ _ hb
  refine ⟨this.2.elim id fun h => ?_, this.1⟩
  rw [hmt] at h; cases h
theorem fin_mut (O : CfgOk C cf) (I : Inv C st a w G) {rs : List ResultVar} {pas R : Ty} {mu : List Bool} (hmu : mu.any id = true) (hent : entB pas mu = true) (hl : C.args.length = pas.len) (hpr : ∀ k, mu.getD k false = true → k < C.pr) {r : den (.pair R (outT pas mu))} (h : Rn (finM cf rs pas mu (.pair R (outT pas mu))) st r) {fn : Func} (hrs : fn.results.toList = rs) :
    ∃ v, (results fn a.tmps).run C.P w = .ok v w ∧ RetM R pas mu r.1 r.2 C.args C.mt C.w0 v w := by
  unfold finM at h
  obtain ⟨v, vs, h1, h2, h⟩ := resSV_run O I rs h
  rw [hmu] at h
  simp only [cond_true, dite_true] at h
  rw [Rn_bif] at h
  rcases h with ⟨_, h⟩ | ⟨hm, h⟩
  · exact (Rn_fail.1 h).elim
  simp only [Bool.or_eq_false_iff] at hm
  obtain ⟨x, ts, k1, k2, k3, k4⟩ := list_run I.toInvM h h2
  obtain ⟨ov, o1, o2⟩ := outs_run I mu C.args 0 ((entB_len pas mu hent).trans hl.symm) (fun k hk hmk => by
    rw [Nat.zero_add]
    have := I.pa k (hpr k hmk)
    rw [this]) k2
  obtain ⟨y, ts', m1, m2, m3, _⟩ := mv_run I.toInvM ov (outT pas mu) true o2 o1
  simp only [if_true] at m1
  rw [Rn_bif] at m2
  rcases m2 with ⟨hb, m2⟩ | ⟨_, m2⟩
  case inr => exact (Rn_fail.1 m2).elim
  rw [Rn_ret] at m2
  subst m2
  rw [nodupB_iff] at hb
  have hRt : R.isTup = false := hm.2
  obtain ⟨c, e, hc⟩ := k4 hRt
  rw [← hrs] at h1
  refine ⟨_, results_run h1, ⟨⟨c, e, ?_⟩, ⟨blk G ts', TV_OX pas mu hent hl m1, blk_nodup I.toInvM ts' m3 hb, fun b hb => ?_⟩, I.os, I.tape, I.output, I.size, fun b hb hn => I.block b hb hn⟩⟩
  · rw [← TC_nil R hm.1.1 hc]; exact hc
  · obtain ⟨p, hp, hb⟩ := blk_mem hb
    rw [← own_of_RT (m3 p hp)] at hb
    have := I.lt _ _ hb
    exact ⟨this.2.symm, this.1⟩
theorem prot_ok {mu : List Bool} {p : Nat} (h : (mu.drop p).any id = false) : ∀ k, mu.getD k false = true → k < p := fun k hk => by
  rcases Nat.lt_or_ge k p with hlt | hge
  · exact hlt
  · exfalso
    have hm : (mu.drop p)[k - p]? = some true := by
      rw [List.getElem?_drop, show p + (k - p) = k from by omega]
      simp only [List.getD, Option.getD] at hk
      split at hk
      · rename_i b hb; rw [hb, hk]
      · cases hk
    have : (mu.drop p).any id = true := List.any_eq_true.2 ⟨true, List.mem_of_getElem? hm, rfl⟩
    rw [h] at this; cases this
theorem run_enter {P : Program} {w : World} {f : FuncId} {fn : Func} {c : Code} {args : Array Value} (hf : P.funcs[f]? = some fn) (hname : (fn.name == "runtime.NumGoroutine") = false) (hb : fn.body = some c) : (callFunc f args).run P w = .ok (.enter f args) w := by
  have h1 : fn.name ≠ "runtime.NumGoroutine" := by simpa using hname
  simp [callFunc, hf, h1, hb]
/-- A function's contract: out of its code, and the evaluator's run of it. -/
theorem fn_ok {P : Program} {cf : Cfg} {f : FuncId} {fn : Func} {c : Code} {pas ret : Ty} {mu : List Bool} {en : Env (den ret)} {F : den pas → Option (den ret)} (hf : P.funcs[f]? = some fn) (hname : (fn.name == "runtime.NumGoroutine") = false) (hb : fn.body = some c)
    (hT : ∀ t T, cf.ty t = some T → TyOk P cf.ty t T) (hfn : ∀ g sp, cf.fn g = some sp → FnOk P g sp) (hfs : ∀ g sp, cf.fs g = some sp → ShOk P g sp) (hmp : ∀ g p, cf.mp g = some p → MpOk P g p.1 p.2) (hmix : P.follows .mixedOrders = true) (hnt : cf.nt = fn.ntmps) (hpr : cf.prot ≤ pas.len) (hprm : (mu.drop cf.prot).any id = false) (hlen : pas.len ≤ cf.nt) (hent : entB pas mu = true)
    (hl : ∀ C, C.P = P → CfgOk C cf → LpOk C en c) (hF : ∀ x y, F x = some y → evFn cf pas mu ret en fn.results.toList c x = some y) : FnOk P f ⟨pas, mu, ret, F⟩ := by
  have main : ∀ (w : World) (vals : List Value) (x : den pas) (y : den ret) (bs : List Nat) (R : Value → World → Prop), AX P pas mu w (fun b => b < w.heap.size ∧ b ∉ bs) vals x bs → bs.Nodup → F x = some y →
      (∀ st a w' G, Inv ⟨P, w, bs, vals, cf.prot, cf.nt, fun _ => True⟩ st a w' G → CfgOk ⟨P, w, bs, vals, cf.prot, cf.nt, fun _ => True⟩ cf → vals.length = pas.len → Rn (finM cf fn.results.toList pas mu ret) st y → ∃ v, (results fn a.tmps).run P w' = .ok v w' ∧ R v w') → CF P f vals.toArray w R := by
    intro w vals x y bs R hAX hnd hy hfin
    have O : CfgOk ⟨P, w, bs, vals, cf.prot, cf.nt, fun _ => True⟩ cf := ⟨rfl, rfl, hT, hfn, hfs, hmp⟩
    have hvl : vals.length = pas.len := by
      obtain ⟨hd, bl, E⟩ := ent_ok pas mu 0 hAX hent
      exact E.len
    obtain ⟨G, I⟩ := entry_inv (nt := cf.nt) (pr := cf.prot) hAX hnd hent hlen hpr
    intro o a next Q hn
    rw [run_enter hf hname hb, Oper.upon_enter]
    refine calls_of_wp hf hb ?_
    have hev := hF x y hy
    unfold evFn at hev
    rw [← hnt]
    have last : ∀ st' a' w' G', (finM cf fn.results.toList pas mu ret).go st' [] (fun _ y => some y) = some y → Inv ⟨P, w, bs, vals, cf.prot, cf.nt, fun _ => True⟩ st' a' w' G' → ∃ v, (results fn a'.tmps).run P w' = .ok v w' ∧ R v w' := fun st' a' w' G' h I' => by
      obtain ⟨rd, u, h1, h2⟩ := go_run _ _ h
      simp only [Option.some.injEq] at h2
      subst h2
      exact hfin st' a' w' G' I' O hvl ⟨rd, h1⟩
    refine evC_sound O hmix c (hl _ rfl O) hev I (fun st' a' w' G' h I' => ?_) (fun i st' a' w' G' h I' => by cases h) (fun st' a' w' G' h I' => ?_)
    · obtain ⟨v, k1, k2⟩ := last st' a' w' G' h I'
      exact ⟨I'.df, v, k1, hn v w' k2⟩
    · obtain ⟨v, k1, k2⟩ := last st' a' w' G' h I'
      exact ⟨I'.df, v, k1, hn v w' k2⟩
  refine ⟨fun hmu => ?_, fun hmu R h => ?_⟩
  · intro w vals x y hx hy
    refine main w vals x y [] _ (AX_of_RX pas mu hmu (RX_congr P pas true (Nat.le_refl _) (fun b hb _ => ⟨⟨hb, by simp⟩, rfl⟩) (fun b hb => hb.1) hx)) List.nodup_nil hy fun st a w' G I O _ hr => ?_
    exact fin_plain O I rfl hmu hr rfl
  · have h : ret = .pair R (outT pas mu) := h
    subst h
    intro w vals x y z bs hAX hnd hy
    exact main w vals x (y, z) bs _ hAX hnd hy fun st a w' G I O hvl hr => fin_mut O I hmu hent hvl (prot_ok hprm) hr rfl
end
end Go.Proofs.Ytefmjjpdflpnaaa.E
namespace Go.Proofs.Ytefmjjpdflpnaaa.E
open Go Go.RowKit
set_option linter.unusedVariables false
set_option linter.unusedSimpArgs false
def lk {β : Type} : List (Nat × β) → Nat → Option β
  | [], _ => none
  | (k, b) :: l, t => bif Nat.beq k t then some b else lk l t
theorem lk_mem {β : Type} : ∀ (l : List (Nat × β)) {t : Nat} {b : β}, lk l t = some b → (t, b) ∈ l
  | [], _, _, h => by cases h
  | (k, c) :: l, t, b, h => by
    unfold lk at h
    cases hb : Nat.beq k t
    · rw [hb] at h; exact List.mem_cons_of_mem _ (lk_mem l h)
    · rw [hb] at h
      simp only [cond_true, Option.some.injEq] at h
      have := Nat.eq_of_beq_eq_true hb
      subst h; subst this; exact List.mem_cons_self
/-- Cells of zeroes, read off. -/
def rep {β : Type} (f : β → Option β) : Nat → β → Option β
  | 0, x => some x
  | n + 1, x => match f x with | some y => rep f n y | none => none
def zcB : Ty → List Value → Option (List Value)
  | .int k, cs => (match cs with | .int k' n :: r => bif decide (k' = k) && decide (n = 0) then some r else none | _ => none)
  | .bool, cs => (match cs with | .bool b :: r => bif b then none else some r | _ => none)
  | .str, cs => (match cs with | .string s :: r => bif Nat.beq s.size 0 then some r else none | _ => none)
  | .unit, r => some r
  | .pair a b, r => (match zcB a r with | some r' => zcB b r' | none => none)
  | .st f, r => zcB f r
  | .sl _, cs => (match cs with | .slice none 0 0 :: r => some r | _ => none)
  | .arr n e, r => rep (zcB e) n r
  | .tup _, _ => none
  | .ptr _, _ => none
  | .fn _ _, _ => none
  | .frm, cs => (match cs with | .int .u8 n :: .slice none 0 0 :: r => bif decide (n = 0) then some r else none | _ => none)
theorem bytes_empty {s : ByteArray} (h : s.size = 0) : s = ByteArray.empty := by
  cases s with
  | mk d =>
    have : d = #[] := Array.eq_empty_of_size_eq_zero h
    rw [this]; rfl
theorem zcB_ok : ∀ (T : Ty) {cs r : List Value}, zcB T cs = some r → cs = zc T ++ r
  | .int k, cs, r, h => by
    simp only [zcB] at h
    split at h
    · rename_i k' n r'
      cases hb : (decide (k' = k) && decide (n = 0))
      · rw [hb] at h; cases h
      · rw [hb] at h
        simp only [cond_true, Option.some.injEq] at h
        simp only [Bool.and_eq_true, decide_eq_true_eq] at hb
        rw [hb.1, hb.2, h]; rfl
    · cases h
  | .bool, cs, r, h => by
    simp only [zcB] at h
    split at h
    · rename_i b r'
      cases b
      · simp only [cond_false, Option.some.injEq] at h
        rw [h]; rfl
      · cases h
    · cases h
  | .str, cs, r, h => by
    simp only [zcB] at h
    split at h
    · rename_i s r'
      cases hb : Nat.beq s.size 0
      · rw [hb] at h; cases h
      · rw [hb] at h
        simp only [cond_true, Option.some.injEq] at h
        rw [bytes_empty (Nat.eq_of_beq_eq_true hb), h]; rfl
    · cases h
  | .unit, cs, r, h => by simp only [zcB, Option.some.injEq] at h; subst h; rfl
  | .pair a b, cs, r, h => by
    simp only [zcB] at h
    split at h
    · rename_i r' h1
      rw [zcB_ok a h1, zcB_ok b h]; simp [zc]
    · cases h
  | .st f, cs, r, h => zcB_ok f (by simpa [zcB] using h)
  | .sl e, cs, r, h => by
    simp only [zcB] at h
    split at h
    · simp only [Option.some.injEq] at h
      rw [h]; rfl
    · cases h
  | .arr n e, cs, r, h => by
    simp only [zcB] at h
    have key : ∀ (n : Nat) {cs r : List Value}, rep (zcB e) n cs = some r → cs = (List.replicate n (zc e)).flatten ++ r := by
      intro n
      induction n with
      | zero => intro cs r h; simp only [rep, Option.some.injEq] at h; subst h; rfl
      | succ n ih =>
        intro cs r h
        simp only [rep] at h
        split at h
        · rename_i y h1
          rw [zcB_ok e h1, ih h]; simp [List.replicate_succ]
        · cases h
    exact key n h
  | .tup _, cs, r, h => by cases h
  | .ptr _, cs, r, h => by cases h
  | .fn _ _, cs, r, h => by cases h
  | .frm, cs, r, h => by
    simp only [zcB] at h
    split at h
    · rename_i n r'
      cases hb : decide (n = 0)
      · rw [hb] at h; cases h
      · rw [hb] at h
        simp only [cond_true, Option.some.injEq] at h
        rw [of_decide_eq_true hb, h]; rfl
    · cases h
def zChk (T : Ty) (v : Value) : Bool := match v with
  | .agg xs => isAggT T && (match zcB T xs.toList with | some [] => true | _ => false)
  | v => !isAggT T && (match zcB T [v] with | some [] => true | _ => false)
theorem zChk_ok {T : Ty} {v : Value} (h : zChk T v = true) : v = valOf T (zc T) := by
  have fin : ∀ cs, (match zcB T cs with | some [] => true | _ => false) = true → cs = zc T := fun cs h => by
    split at h
    · rename_i h1
      have := zcB_ok T h1
      simpa using this
    · cases h
  unfold zChk at h
  split at h
  · rename_i xs
    rw [Bool.and_eq_true] at h
    rw [valOf_agg h.1, ← fin _ h.2]
  · rw [Bool.and_eq_true, Bool.not_eq_true'] at h
    rw [valOf_one h.1, ← fin _ h.2]; rfl
def fsChk (ty : Nat → Option Ty) (f : Ty) : List Field → Nat → Bool
  | [], _ => true
  | F :: r, n => Nat.beq F.offset (off f n) && decide (ty F.type = some (fld f n)) && !(F.name == "_") && fsChk ty f r (n + 1)
theorem fsChk_ok {ty : Nat → Option Ty} {f : Ty} : ∀ (l : List Field) (k : Nat), fsChk ty f l k = true → ∀ n F, l[n]? = some F → F.offset = off f (k + n) ∧ ty F.type = some (fld f (k + n)) ∧ F.name ≠ "_"
  | [], _, _, n, F, h => by simp at h
  | G :: r, k, hc, n, F, h => by
    simp only [fsChk, Bool.and_eq_true, decide_eq_true_eq, Bool.not_eq_true'] at hc
    cases n with
    | zero =>
      simp only [List.getElem?_cons_zero, Option.some.injEq] at h
      subst h
      exact ⟨Nat.eq_of_beq_eq_true hc.1.1.1, hc.1.1.2, by simpa using hc.1.2⟩
    | succ n =>
      have := fsChk_ok r (k + 1) hc.2 n F (by simpa using h)
      rwa [show k + 1 + n = k + (n + 1) from by omega] at this
def unChk (ty : Nat → Option Ty) : TypeDesc → Ty → Bool
  | .int k, .int k' => decide (k = k')
  | .bool, .bool => true
  | .string, .str => true
  | .struct fs, .st f => Nat.beq fs.size f.len && fsChk ty f fs.toList 0
  | .slice et, .sl e => decide (ty et = some e) || (decide (e = .st .frm) && decide (ty et = some frU))
  | .array n et, .arr m e => Nat.beq n m && decide (ty et = some e)
  | .pointer _, .ptr _ => true
  | .func _ _ _, .fn _ _ => true
  | _, _ => false
theorem unChk_ok {ty : Nat → Option Ty} {d : TypeDesc} {T : Ty} (h : unChk ty d T = true) : UnOk ty d T := by
  unfold unChk at h
  split at h
  · exact (of_decide_eq_true h : _ = _)
  · trivial
  · trivial
  · rename_i fs f
    rw [Bool.and_eq_true] at h
    refine ⟨Nat.eq_of_beq_eq_true h.1, fun n F hn => ?_⟩
    have := fsChk_ok fs.toList 0 h.2 n F (by simpa using hn)
    rwa [Nat.zero_add] at this
  · simp only [Bool.or_eq_true, Bool.and_eq_true, decide_eq_true_eq] at h; exact h
  · rw [Bool.and_eq_true] at h
    exact ⟨Nat.eq_of_beq_eq_true h.1, of_decide_eq_true h.2⟩
  · trivial
  · trivial
  · cases h
def tyChk (P : Program) (ty : Nat → Option Ty) (t : Nat) (T : Ty) : Bool :=
  (match P.info? t with
    | some i => Nat.beq i.size T.sz && Nat.ble i.bytes 100 && Nat.blt 0 i.bytes && (bif T.zok then (match i.zero with | some v => zChk T v | none => false) else true)
    | none => false) && (match P.underlying t with | some d => unChk ty d T | none => false) && !P.stoodInHeld t
theorem tyChk_ok {P : Program} {ty : Nat → Option Ty} {t : Nat} {T : Ty} (h : tyChk P ty t T = true) : TyOk P ty t T := by
  unfold tyChk at h
  simp only [Bool.and_eq_true, Bool.not_eq_true'] at h
  obtain ⟨⟨h1, h2⟩, h3⟩ := h
  refine ⟨?_, ?_, h3⟩
  · split at h1
    · rename_i i hi
      simp only [Bool.and_eq_true] at h1
      refine ⟨i, hi, Nat.eq_of_beq_eq_true h1.1.1.1, Nat.le_of_ble_eq_true h1.1.1.2, Nat.le_of_ble_eq_true h1.1.2, fun hz => ?_⟩
      have h4 := h1.2
      rw [hz] at h4
      simp only [cond_true] at h4
      split at h4
      · rename_i v hv
        rw [hv, zChk_ok h4]
      · cases h4
    · cases h1
  · split at h2
    · rename_i d hd
      exact ⟨d, hd, unChk_ok h2⟩
    · cases h2
theorem tys_ok {P : Program} {l : List (Nat × Ty)} (h : (l.all fun p => tyChk P (lk l) p.1 p.2) = true) : ∀ t T, lk l t = some T → TyOk P (lk l) t T := fun t T ht => by
  rw [List.all_eq_true] at h
  exact tyChk_ok (h _ (lk_mem l ht))
def bodyOf (f : Func) : Code := f.body.getD .skip
theorem CF.calls {P : Program} {f : FuncId} {fn : Func} {c : Code} {args : Array Value} {w : World} {G : Value → World → Prop} (h : CF P f args w G) (hf : P.funcs[f]? = some fn) (hname : (fn.name == "runtime.NumGoroutine") = false) (hb : fn.body = some c) :
    Calls P f args w fun e w' => ∃ v, e = .returned v ∧ G v w' := by
  have k := h { dst := some 0, op := default, type := 0, pos := "", after := #[], guard := none } ⟨#[undef], []⟩ (fun a w' => G (a.tmps.getD 0 undef) w') (fun _ _ _ => False) (fun v w' g => by simpa [Act.put] using g)
  rw [run_enter hf hname hb, Oper.upon_enter] at k
  refine k.mono fun e w' he => ?_
  cases e with
  | returned v => exact ⟨v, rfl, by simpa [Act.put] using he⟩
  | panicked ch => exact he.elim
  | outgrown => obtain ⟨_, _, h⟩ := he; exact h.elim
end Go.Proofs.Ytefmjjpdflpnaaa.E
namespace Go.Proofs.Ytefmjjpdflpnaaa.E
open Go Go.RowKit Go.ChangeShapes Go.WideShapes Go.ChangeAt
set_option linter.unusedVariables false
set_option linter.unusedSimpArgs false
/-- Types of data: numbers, bools, strings, structs and slices of such. -/
def dataB : Ty → Bool
  | .int _ => true
  | .bool => true
  | .str => true
  | .unit => true
  | .pair a b => dataB a && dataB b
  | .st f => f.isList && dataB f
  | .sl e => dataB e && Nat.blt 0 e.sz
  | _ => false
/-- What is known of a value that reads as data. -/
def okD : (T : Ty) → den T → Prop
  | .int k, x => (Lit.int k x).wf = true
  | .str, s => (s : ByteArray).size ≤ maxLen
  | .pair a b, x => okD a x.1 ∧ okD b x.2
  | .st f, x => okD f x
  | .sl e, l => (l : List (den e)).length ≤ maxLen ∧ ∀ y ∈ (l : List (den e)), okD e y
  | _, _ => True
section
variable {P : Program} {ty : Nat → Option Ty} {w : World}
/-- A type's values open. -/
def OpensD (P : Program) (w : World) (t : TypeId) (T : Ty) : Prop :=
  ∀ (H : Type) (enc : TypeId × Value → H) (spare : Nat → Bool) (held : Bool) (fuel : Nat) (cs : List Value) (x : DataW H × List MemPlace), DataW.trod enc P w 0 spare held fuel t cs = some x → ∃ y : den T, RX P T false w (fun b => b < w.heap.size) cs y ∧ okD T y
theorem opens_fields {H : Type} {enc : TypeId × Value → H} {spare : Nat → Bool} {held : Bool} {n : Nat} (hO : ∀ t T, ty t = some T → TyOk P ty t T) : ∀ (F : Ty) (fs : List Field) (base : Nat) (cs : List Value) (xs : List (DataW H × List MemPlace)), F.isList = true → fs.length = F.len → xs.length = fs.length →
    (∀ (i : Nat) (f : Field), fs[i]? = some f → f.offset = base + off F i ∧ ty f.type = some (fld F i)) → (∀ (i : Nat) (f : Field), fs[i]? = some f → OpensD P w f.type (fld F i)) →
    (∀ (i : Nat) (f : Field), fs[i]? = some f → DataW.trod enc P w 0 spare held n f.type ((cs.drop f.offset).take (P.cellsOf f.type)) = xs[i]?) → cs.length = base + F.sz → ∃ y : den F, RX P F false w (fun b => b < w.heap.size) (cs.drop base) y ∧ okD F y
  | .unit, fs, base, cs, xs, _, hl, _, _, _, _, hcs => by
    refine ⟨(), ?_, trivial⟩
    show cs.drop base = []
    exact List.drop_eq_nil_of_le (by rw [hcs]; exact Nat.le_refl _)
  | .pair A B, fs, base, cs, xs, hi, hl, hx, hf, hop, ht, hcs => by
    cases fs with
    | nil => simp [Ty.len] at hl
    | cons f fs =>
      cases xs with
      | nil => simp at hx
      | cons x xs =>
        obtain ⟨f1, f2⟩ := hf 0 f rfl
        have h0 := ht 0 f rfl
        have hsz : P.cellsOf f.type = A.sz := (hO _ _ f2).cellsOf
        rw [f1, hsz] at h0
        obtain ⟨y, y1, y2⟩ := hop 0 f rfl H enc spare held n _ x h0
        have hs : (Ty.pair A B).sz = A.sz + B.sz := rfl
        obtain ⟨z, z1, z2⟩ := opens_fields hO B fs (base + A.sz) cs xs hi (by simpa [Ty.len] using hl) (by simpa using hx) (fun i g hg => by
          obtain ⟨g1, g2⟩ := hf (i + 1) g (by simpa using hg)
          exact ⟨by rw [g1]; simp only [off]; omega, g2⟩) (fun i g hg => hop (i + 1) g (by simpa using hg)) (fun i g hg => by simpa using ht (i + 1) g (by simpa using hg)) (by rw [hcs, hs]; omega)
        refine ⟨(y, z), ⟨_, _, ?_, y1, z1⟩, y2, z2⟩
        show cs.drop base = (cs.drop (base + 0)).take A.sz ++ cs.drop (base + A.sz)
        rw [Nat.add_zero, ← List.drop_drop, List.take_append_drop]
  | .int _, _, _, _, _, hi, _, _, _, _, _, _ => by cases hi
  | .bool, _, _, _, _, hi, _, _, _, _, _, _ => by cases hi
  | .str, _, _, _, _, hi, _, _, _, _, _, _ => by cases hi
  | .st _, _, _, _, _, hi, _, _, _, _, _, _ => by cases hi
  | .tup _, _, _, _, _, hi, _, _, _, _, _, _ => by cases hi
  | .sl _, _, _, _, _, hi, _, _, _, _, _, _ => by cases hi
  | .arr _ _, _, _, _, _, hi, _, _, _, _, _, _ => by cases hi
  | .ptr _, _, _, _, _, hi, _, _, _, _, _, _ => by cases hi
  | .fn _ _, _, _, _, _, hi, _, _, _, _, _, _ => by cases hi
  | .frm, _, _, _, _, hi, _, _, _, _, _, _ => by cases hi
theorem no_unit {t : TypeId} (h : TyOk P ty t .unit) : False := by
  obtain ⟨d, _, hu⟩ := h.und
  cases d <;> exact hu
theorem no_pair {A B : Ty} {t : TypeId} (h : TyOk P ty t (.pair A B)) : False := by
  obtain ⟨d, _, hu⟩ := h.und
  cases d <;> exact hu
theorem opens_sl (hO : ∀ t T, ty t = some T → TyOk P ty t T) {e : Ty} (hs : 0 < e.sz) (hne : e.isFr = false) {t : TypeId} (ht : ty t = some (.sl e)) (he : ∀ et, ty et = some e → OpensD P w et e) : OpensD P w t (.sl e) := by
  intro H enc spare held fuel cs x h
  obtain ⟨d, hd, hu⟩ := (hO _ _ ht).und
  cases d <;> simp only [UnOk] at hu
  rename_i et
  have hu : ty et = some e := by
    rcases hu with hu | ⟨rfl, _⟩
    · exact hu
    · cases hne
  have hc : P.cellsOf et = e.sz := (hO _ _ hu).cellsOf
  rcases Go.Deep.open_slice hd h with ⟨rfl, _⟩ | ⟨a, len, cap, m, n, D, Pl, rfl, _, hl, hm, hmm, _, hx⟩
  · exact ⟨([] : List (den e)), ⟨none, 0, 0, rfl, rfl, Nat.le_refl _, .inl rfl⟩, Nat.zero_le _, fun y hy => by cases hy⟩
  · have hlm : len ≤ m := by rw [hmm]; split <;> omega
    have hex : ∀ i, i < len → ∃ y : den e, (∃ c : List Value, c.length = e.sz ∧ RX P e false w (fun b => b < w.heap.size) c y ∧ ∀ j, j < e.sz → w.cell? (a.add (i * e.sz + j)) = c[j]?) ∧ okD e y := fun i hi => by
      obtain ⟨cs', h1, h2⟩ := hx i (by omega)
      rw [hc] at h1
      obtain ⟨_, h3, h4⟩ := World.cells?_some h1
      obtain ⟨y, k1, k2⟩ := he et hu H enc spare held n cs' _ h2
      exact ⟨y, ⟨cs', h3, k1, fun j hj => by rw [← Go.Deep.add_add, h4 j hj]⟩, k2⟩
    by_cases h0 : len = 0
    · subst h0
      exact ⟨([] : List (den e)), ⟨some a, 0, cap, rfl, rfl, hl, .inl rfl⟩, Nat.zero_le _, fun y hy => by cases hy⟩
    · have hY : ∃ Y : Nat → den e, ∀ i, i < len → (∃ c : List Value, c.length = e.sz ∧ RX P e false w (fun b => b < w.heap.size) c (Y i) ∧ ∀ j, j < e.sz → w.cell? (a.add (i * e.sz + j)) = c[j]?) ∧ okD e (Y i) :=
        ⟨fun i => if h : i < len then (hex i h).choose else dflt e, fun i hi => by simp only [dif_pos hi]; exact (hex i hi).choose_spec⟩
      obtain ⟨Y, hY⟩ := hY
      -- the block
      have cellb : ∀ k, k < len * e.sz → ∃ u, w.cell? (a.add k) = some u := fun k hk => by
        have hi : k / e.sz < len := Nat.div_lt_of_lt_mul (by rw [Nat.mul_comm]; exact hk)
        obtain ⟨⟨c, c1, _, c3⟩, _⟩ := hY (k / e.sz) hi
        have hj := Nat.mod_lt k hs
        have := c3 (k % e.sz) hj
        rw [Nat.mul_comm, Nat.div_add_mod] at this
        exact ⟨c[k % e.sz]'(by omega), by rw [this, List.getElem?_eq_getElem]⟩
      have hpos : 0 < len * e.sz := Nat.mul_pos (by omega) hs
      obtain ⟨u0, hu0⟩ := cellb 0 hpos
      have ha : a.add 0 = a := by simp [Addr.add]
      rw [ha] at hu0
      unfold World.cell? at hu0
      split at hu0
      case h_2 => cases hu0
      rename_i arr bt fz hb
      have hspot : a.spot = none := by
        cases hsp : a.spot with
        | none => rfl
        | some q => rw [hsp] at hu0; simp at hu0
      have hadd : ∀ k, w.cell? (a.add k) = arr[a.off + k]? := fun k => by
        unfold Addr.add
        split
        · rename_i hk; subst hk; simp [World.cell?, hb, hspot]
        · simp [World.cell?, hb]
      have hin : a.off + len * e.sz ≤ arr.size := by
        obtain ⟨u, hu⟩ := cellb (len * e.sz - 1) (by omega)
        rw [hadd] at hu
        have := (Array.getElem?_eq_some_iff.1 hu).1
        omega
      have hlen : ((List.range len).map Y).length = len := by simp
      have hget : ∀ i y, ((List.range len).map Y)[i]? = some y → i < len ∧ y = Y i := fun i y hy => by
        rw [List.getElem?_map] at hy
        by_cases hi : i < len
        · rw [List.getElem?_range hi] at hy; exact ⟨hi, by simpa using hy.symm⟩
        · rw [List.getElem?_eq_none (by simpa using hi)] at hy; cases hy
      refine ⟨(List.range len).map Y, ⟨some a, len, cap, rfl, hlen.symm, hl, .inr ⟨a.block, a.off, arr, bt, fz, by rw [← hspot], (Array.getElem?_eq_some_iff.1 hb).1, hb, hin, fun i y hy => ?_⟩⟩, by rw [hlen]; omega, fun y hy => ?_⟩
      · obtain ⟨hi, rfl⟩ := hget i y hy
        obtain ⟨⟨c, c1, c2, c3⟩, _⟩ := hY i hi
        have e1 : seg arr.toList (a.off + i * e.sz) e.sz = c := by
          apply List.ext_getElem?
          intro j
          rw [seg_get]
          by_cases hj : j < e.sz
          · rw [if_pos hj, ← c3 j hj, hadd, Array.getElem?_toList]; congr 1; omega
          · rw [if_neg hj, List.getElem?_eq_none (by omega)]
        rw [e1]; exact c2
      · obtain ⟨i, hi, rfl⟩ := List.mem_map.1 hy
        exact (hY i (List.mem_range.1 hi)).2
theorem opensAll (hO : ∀ t T, ty t = some T → TyOk P ty t T) : ∀ T : Ty, (∀ t, ty t = some T → dataB T = true → OpensD P w t T) ∧ (∀ i t, ty t = some (fld T i) → dataB T = true → OpensD P w t (fld T i))
  | .int k => ⟨fun t ht _ H enc spare held fuel cs x h => by
      obtain ⟨d, hd, hu⟩ := (hO _ _ ht).und
      cases d <;> simp only [UnOk] at hu
      subst hu
      obtain ⟨n, rfl, _, hw⟩ := DataW.trod_int hd h
      exact ⟨n, rfl, hw⟩, fun i t ht _ => (no_unit (hO t .unit (by rw [ht]; cases i <;> rfl))).elim⟩
  | .bool => ⟨fun t ht _ H enc spare held fuel cs x h => by
      obtain ⟨d, hd, hu⟩ := (hO _ _ ht).und
      cases d <;> simp only [UnOk] at hu
      obtain ⟨b, rfl, _⟩ := DataW.trod_bool hd h
      exact ⟨b, rfl, trivial⟩, fun i t ht _ => (no_unit (hO t .unit (by rw [ht]; cases i <;> rfl))).elim⟩
  | .str => ⟨fun t ht _ H enc spare held fuel cs x h => by
      obtain ⟨d, hd, hu⟩ := (hO _ _ ht).und
      cases d <;> simp only [UnOk] at hu
      obtain ⟨s, rfl, _, hs⟩ := DataW.trod_string hd h
      exact ⟨s, rfl, hs⟩, fun i t ht _ => (no_unit (hO t .unit (by rw [ht]; cases i <;> rfl))).elim⟩
  | .unit => ⟨fun t ht _ => (no_unit (hO _ _ ht)).elim, fun i t ht _ => (no_unit (hO t .unit (by rw [ht]; cases i <;> rfl))).elim⟩
  | .pair A B => ⟨fun t ht _ => (no_pair (hO _ _ ht)).elim, fun i t ht hd => by
      simp only [dataB, Bool.and_eq_true] at hd
      cases i with
      | zero => exact (opensAll hO A).1 t ht hd.1
      | succ i => exact (opensAll hO B).2 i t ht hd.2⟩
  | .st f => ⟨fun t ht hd H enc spare held fuel cs x h => by
      obtain ⟨d, hdd, hu⟩ := (hO _ _ ht).und
      cases d <;> simp only [UnOk] at hu
      rename_i fs
      simp only [dataB, Bool.and_eq_true] at hd
      obtain ⟨xs, n, _, _, hl, hxl, hf⟩ := DataW.trod_struct hdd h
      have hsz : cs.length = f.sz := by rw [hl]; exact (hO _ _ ht).cellsOf
      obtain ⟨y, y1, y2⟩ := opens_fields (n := n) (enc := enc) (spare := spare) (held := held) (w := w) hO f fs.toList 0 cs xs hd.1 (by simpa using hu.1) (by simpa using hxl) (fun i g hg => by
        have := hu.2 i g (by simpa using hg)
        exact ⟨by rw [this.1, Nat.zero_add], this.2.1⟩) (fun i g hg => (opensAll hO f).2 i g.type (hu.2 i g (by simpa using hg)).2.1 hd.2) (fun i g hg => hf i g (by simpa using hg)) (by rw [hsz, Nat.zero_add])
      exact ⟨y, y1, y2⟩, fun i t ht _ => (no_unit (hO t .unit (by rw [ht]; cases i <;> rfl))).elim⟩
  | .sl e => ⟨fun t ht hd => by
      simp only [dataB, Bool.and_eq_true] at hd
      exact opens_sl hO (Nat.le_of_ble_eq_true hd.2) (by cases e <;> first | rfl | (rename_i f; cases f <;> first | rfl | exact absurd hd.1 (by decide))) ht fun et het => (opensAll hO e).1 et het hd.1, fun i t ht _ => (no_unit (hO t .unit (by rw [ht]; cases i <;> rfl))).elim⟩
  | .tup _ => ⟨fun t ht hd => (by cases hd), fun i t ht hd => (by cases hd)⟩
  | .arr _ _ => ⟨fun t ht hd => (by cases hd), fun i t ht hd => (by cases hd)⟩
  | .ptr _ => ⟨fun t ht hd => (by cases hd), fun i t ht hd => (by cases hd)⟩
  | .fn _ _ => ⟨fun t ht hd => (by cases hd), fun i t ht hd => (by cases hd)⟩
  | .frm => ⟨fun t ht hd => (by cases hd), fun i t ht hd => (by cases hd)⟩
end
end Go.Proofs.Ytefmjjpdflpnaaa.E
namespace Go.Proofs.Ytefmjjpdflpnaaa.E
open Go Go.RowKit
set_option linter.unusedVariables false
set_option linter.unusedSimpArgs false
theorem fnOk_none {P : Program} {f : Nat} {pas ret : Ty} {mu : List Bool} : FnOk P f ⟨pas, mu, ret, fun _ => none⟩ :=
  ⟨fun _ w vs x y _ h => (by cases h), fun _ R h => (by have h : ret = .pair R (outT pas mu) := h; subst h; intro w vs x y z bs _ _ h; cases h)⟩
/-- A call of a function with a body, told as the kit tells it. -/
theorem cf_of_calls {P : Program} {f : FuncId} {fn : Func} {c : Code} {args : Array Value} {w : World} {G : Value → World → Prop} (hf : P.funcs[f]? = some fn) (hname : (fn.name == "runtime.NumGoroutine") = false) (hb : fn.body = some c)
    (h : Calls P f args w fun e w' => ∃ v, e = .returned v ∧ G v w') : CF P f args w G := by
  intro o a next Q hn
  rw [run_enter hf hname hb, Oper.upon_enter]
  refine h.mono ?_
  rintro e w' ⟨v, rfl, g⟩
  exact hn v w' g
/-- A call that the model answers at once. -/
theorem cf_of_value {P : Program} {f : FuncId} {args : Array Value} {w w' : World} {v : Value} {G : Value → World → Prop} (h : (callFunc f args).run P w = .ok (.value v) w') (hG : G v w') : CF P f args w G := by
  intro o a next Q hn
  rw [h, Oper.upon_value]
  exact hn v w' hG
theorem ret_plain {R : Ty} (hm : R.mem = false) (hp : R.isPU = false) (ht : R.isTup = false) {y : den R} {w w' : World} {c : List Value} (h : TC R w' c y []) (hb : Below w.heap.size w w') : Ret R y w (valOf R c) w' := by
  refine ⟨[], ?_, List.nodup_nil, fun b hb => (by cases hb), hb⟩
  cases R <;> first | exact ⟨c, rfl, h⟩ | exact h.elim | exact absurd hp (by decide) | exact absurd ht (by decide) | exact absurd hp (fun h => by cases h) | exact absurd ht (fun h => by cases h)
end Go.Proofs.Ytefmjjpdflpnaaa.E
namespace Go.Proofs.Ytefmjjpdflpnaaa.E
open Go Go.RowKit Go.Shelf
set_option linter.unusedVariables false
set_option linter.unusedSimpArgs false
theorem cellAt {w : World} {b o : Nat} {arr : Array Value} {t : TypeId} {fz : Nat × Nat} (h : w.heap[b]? = some (.cells arr t fz)) (j : Nat) : w.cell? ⟨b, o + j, none⟩ = arr[o + j]? := by
  simp [World.cell?, h]
/-- The library's search for a byte in a string. -/
theorem indexByte_ok {P : Program} {f : FuncId} {fn : Func} (hf : P.funcs[f]? = some fn) (hname : (fn.name == "runtime.NumGoroutine") = false) (hb : fn.body.isNone = true) (hn : Extern.findNext fn = none) (he : Extern.find fn = some Extern.BytealgIndexByte.indexByte) :
    FnOk P f ⟨.pair .str (.pair (.int .u8) .unit), [false, false], .int .i64, fun x => some (Lib.indexByte (x.1 : ByteArray).data.toList (x.2.1 : Int).toNat.toUInt8)⟩ := by
  refine ⟨fun _ => ?_, fun h => by cases h⟩
  intro w vs x y hx hy
  obtain ⟨c, r, rfl, hc, c2, r2, rfl, hc2, hr⟩ := hx
  have hr : r2 = [] := hr
  subst hr
  have hc : c = [.string x.1] := hc
  have hc2 : c2 = [.int .u8 x.2.1] := hc2
  subst hc; subst hc2
  cases hy
  refine cf_of_value (by
    rw [run_callFunc_extern hf hname hb hn he]
    show ((Extern.BytealgIndexByte.indexByte #[.string x.1, .int .u8 x.2.1]).run P w).andThen _ = _
    rw [Lib.run_indexByteString]; rfl) ?_
  exact ⟨[], ⟨_, rfl, rfl, rfl⟩, List.nodup_nil, fun b hb => (by cases hb), Below.refl _ _⟩
end Go.Proofs.Ytefmjjpdflpnaaa.E
namespace Go.Proofs.Ytefmjjpdflpnaaa.E
open Go Go.RowKit Go.ChangeShapes Go.WideShapes Go.ChangeAt
set_option linter.unusedVariables false
set_option linter.unusedSimpArgs false
theorem ok_valOf {P : Program} {ty : Nat → Option Ty} {w : World} {base t : Nat} {T : Ty} (h : TyOk P ty t T) (hd : dataB T = true) {v : Value} (hv : Value.okWide P w .any base t v) : v = valOf T v.cells.toList := by
  obtain ⟨d, hu, hok⟩ := h.und
  cases T with
  | frm => cases d <;> simp [UnOk] at hok
  | st f =>
    cases d <;> simp only [UnOk] at hok
    simp only [Value.okWide, hu] at hv
    obtain ⟨cs, rfl, _⟩ := hv
    simp [Value.cells, valOf]
  | int k =>
    cases d <;> simp only [UnOk] at hok
    simp only [Value.okWide, Cell.okWide, hu] at hv
    cases v <;> simp_all [Cell.ok, Value.cells, valOf]
  | bool =>
    cases d <;> simp only [UnOk] at hok
    simp only [Value.okWide, Cell.okWide, hu] at hv
    cases v <;> simp_all [Cell.ok, Value.cells, valOf]
  | str =>
    cases d <;> simp only [UnOk] at hok
    simp only [Value.okWide, Cell.okWide, hu] at hv
    cases v <;> simp_all [Cell.ok, Value.cells, valOf]
  | sl e =>
    cases d <;> simp only [UnOk] at hok
    simp only [Value.okWide, Cell.okWide, hu] at hv
    cases v <;> simp_all [Cell.ok, Value.cells, valOf]
  | unit => exact (no_unit h).elim
  | pair a b => exact (no_pair h).elim
  | tup _ => cases hd
  | arr _ _ => cases hd
  | ptr _ => cases hd
  | fn _ _ => cases hd
/-- One argument: what it reads as, its cells, what is known of it. -/
theorem arg_open {P : Program} {ty : Nat → Option Ty} {w : World} {base t : Nat} {T : Ty} (O : ∀ t T, ty t = some T → TyOk P ty t T) (ht : ty t = some T) (hd : dataB T = true) {v : Value} (hv : Value.okWide P w .any base t v)
    {H : Type} {enc : TypeId × Value → H} {spare : Nat → Bool} {held : Bool} {d : DataW H} {ps : List MemPlace} (h : DataW.Trod enc P w 0 spare held t v d ps) :
    ∃ y : den T, v = valOf T v.cells.toList ∧ RX P T false w (fun b => b < w.heap.size) v.cells.toList y ∧ okD T y := by
  obtain ⟨m, hm⟩ := h
  obtain ⟨y, y1, y2⟩ := (opensAll (w := w) O T).1 t ht hd H enc spare held m _ _ hm
  exact ⟨y, ok_valOf (O t T ht) hd hv, y1, y2⟩
theorem ret_bool {w w' : World} {v : Value} {b : Bool} (h : Ret .bool b w v w') : v = .bool b ∧ Below w.heap.size w w' := by
  obtain ⟨bs, ⟨cs, e, h1, h2⟩, _, _, h3⟩ := h
  refine ⟨?_, h3⟩
  have h1 : cs = [.bool b] := h1
  subst h1
  simpa [valOf] using e
end Go.Proofs.Ytefmjjpdflpnaaa.E
namespace Go.Proofs.Ytefmjjpdflpnaaa.E
open Go Go.RowKit
set_option linter.unusedVariables false
set_option linter.unusedSimpArgs false
/-- An open number stops the computation here (so that the kernel does not open a segment that it need not). -/
def gN {α : Type} (n : Nat) (x : α) : α := match n with
  | 0 => x
  | _ + 1 => x
theorem gN_eq {α : Type} (n : Nat) (x : α) : gN n x = x := by cases n <;> rfl
/-- A loop (its first region, the live slots at its head, the slots that share roots, its plain function) or a segment (the live slots ahead of it and behind it; q: 0, or an open number that locks it). -/
inductive PD (R : Type) where
  | L (id : Nat) (l : Lv) (al : Al) (g : Nat → den l.ty → (Nat → St → Option R) → (St → Option R) → Option R)
  | J (id : Nat) (l ln : Lv) (q : Nat) (g : Nat → den l.ty → (den ln.ty → Option R) → (Nat → St → Option R) → (St → Option R) → Option R)
def lkL {R : Type} (k : Nat) : List (PD R) → Nat → Option (LoopS R)
  | [], _ => none
  | .L i l al g :: D, t => bif Nat.beq i t then some (mkLoopA l al (g k)) else lkL k D t
  | .J _ _ _ _ _ :: D, t => lkL k D t
def lkS {R : Type} (k : Nat) : List (PD R) → Nat → Option (SegS R)
  | [], _ => none
  | .L _ _ _ _ :: D, t => lkS k D t
  | .J i l ln q g :: D, t => bif Nat.beq i t then some (mkSeg l ln (g k)) else lkS k D t
def hasL {R : Type} : List (PD R) → Nat → Bool
  | [], _ => false
  | .L i _ _ _ :: D, t => Nat.beq i t || hasL D t
  | .J _ _ _ _ _ :: D, t => hasL D t
def hasS {R : Type} : List (PD R) → Nat → Bool
  | [], _ => false
  | .L _ _ _ _ :: D, t => hasS D t
  | .J i _ _ _ _ :: D, t => Nat.beq i t || hasS D t
def mkEn {R : Type} (D : List (PD R)) (X : List (Nat × Lv)) (rv : Lv) (k : Nat) : Env R := { L := lkL k D, X := lk X, S := lkS k D, rv := rv }
/-- The loops' bodies (true) and segments (false) of a code, in its order. -/
def partsA {R : Type} (D : List (PD R)) : Code → List (Bool × Code)
  | .seq a b => partsA D a ++ ((bif hasS D (rid b) then [(false, b)] else []) ++ partsA D b)
  | .cond _ a b => ((bif hasS D (rid a) then [(false, a)] else []) ++ partsA D a) ++ ((bif hasS D (rid b) then [(false, b)] else []) ++ partsA D b)
  | .block _ c => partsA D c
  | .loop c => (bif hasL D (rid c) then [(true, c)] else []) ++ partsA D c
  | _ => []
def nthC : List (Bool × Code) → Nat → Code
  | [], _ => .skip
  | c :: _, 0 => c.2
  | _ :: l, n + 1 => nthC l n
/-- The table has just these parts, each name once. -/
def idsB {R : Type} : List (PD R) → List (Bool × Code) → Bool
  | [], [] => true
  | .L i _ _ _ :: D, (b, c) :: ps => b && Nat.beq i (rid c) && !hasL D i && idsB D ps
  | .J i _ _ _ _ :: D, (b, c) :: ps => !b && Nat.beq i (rid c) && !hasS D i && idsB D ps
  | _, _ => false
/-- A part's plain function is one run of the evaluator over its code. -/
def EqOf {R : Type} (cf : Cfg) (en : Nat → Env R) : PD R → Code → Prop
  | .L _ l al g, c => (∀ k x kx kr, g (k + 1) x kx kr = evC cf (en k) c (mkStA l al x) (fun s => mkLoopA l al (g k) s kx kr) kx kr) ∧ ∀ x kx kr, g 0 x kx kr = none
  | .J _ l ln q g, c => ∀ k x kn kx kr, g k x kn kx kr = gN q (evC cf (en k) c (mkSt l x) (cutK ln kn) kx kr)
def HD {R : Type} (cf : Cfg) (en : Nat → Env R) (ps : List (Bool × Code)) : List (PD R) → Nat → Prop
  | [], _ => True
  | .L _ l al g :: D, i => ((∀ k x kx kr, g (k + 1) x kx kr = evC cf (en k) (nthC ps i) (mkStA l al x) (fun s => mkLoopA l al (g k) s kx kr) kx kr) ∧ ∀ x kx kr, g 0 x kx kr = none) ∧ HD cf en ps D (i + 1)
  | .J _ l ln q g :: D, i => (∀ k x kn kx kr, g k x kn kx kr = gN q (evC cf (en k) (nthC ps i) (mkSt l x) (cutK ln kn) kx kr)) ∧ HD cf en ps D (i + 1)
theorem hasL_lk {R : Type} {k t : Nat} : ∀ (D : List (PD R)), hasL D t = false → lkL k D t = none
  | [], _ => rfl
  | .L i l al g :: D, h => by
    simp only [hasL, Bool.or_eq_false_iff] at h
    simp only [lkL, h.1, cond_false]
    exact hasL_lk D h.2
  | .J _ _ _ _ _ :: D, h => hasL_lk D h
theorem hasS_lk {R : Type} {k t : Nat} : ∀ (D : List (PD R)), hasS D t = false → lkS k D t = none
  | [], _ => rfl
  | .J i l al q g :: D, h => by
    simp only [hasS, Bool.or_eq_false_iff] at h
    simp only [lkS, h.1, cond_false]
    exact hasS_lk D h.2
  | .L _ _ _ _ :: D, h => hasS_lk D h
theorem nthC_app : ∀ (p : List (Bool × Code)) (q : Bool × Code) (r : List (Bool × Code)), nthC (p ++ q :: r) p.length = q.2
  | [], q, r => rfl
  | a :: p, q, r => nthC_app p q r
theorem hd_all {R : Type} {cf : Cfg} {en : Nat → Env R} (ps0 : List (Bool × Code)) : ∀ (D : List (PD R)) (pre ps : List (Bool × Code)), ps0 = pre ++ ps → HD cf en ps0 D pre.length → idsB D ps = true →
    ∀ p ∈ ps, (p.1 = true ∧ ∃ l al g, (∀ k, lkL k D (rid p.2) = some (mkLoopA l al (g k))) ∧ EqOf cf en (.L 0 l al g) p.2) ∨ (p.1 = false ∧ ∃ l ln q g, (∀ k, lkS k D (rid p.2) = some (mkSeg l ln (g k))) ∧ EqOf cf en (.J 0 l ln q g) p.2)
  | [], pre, ps, e, h, hi, p, hp => by
    cases ps with
    | nil => cases hp
    | cons _ _ => cases hi
  | .L i l al g :: D, pre, [], e, h, hi, p, hp => by cases hp
  | .J i l ln q g :: D, pre, [], e, h, hi, p, hp => by cases hp
  | .L i l al g :: D, pre, (b, c) :: ps, e, h, hi, p, hp => by
    simp only [idsB, Bool.and_eq_true, Bool.not_eq_true'] at hi
    obtain ⟨⟨⟨rfl, hid⟩, hno⟩, hi⟩ := hi
    obtain ⟨h1, h2⟩ := h
    have hid := Nat.eq_of_beq_eq_true hid
    rcases List.mem_cons.1 hp with rfl | hp
    · refine .inl ⟨rfl, l, al, g, fun k => ?_, ?_⟩
      · simp only [lkL, hid, Nat.beq_refl, cond_true]
      · rw [e, nthC_app] at h1; exact h1
    · rcases hd_all ps0 D (pre ++ [(true, c)]) ps (by rw [e]; simp) (by simpa using h2) hi p hp with ⟨q, l', al', g', h3, h4⟩ | ⟨q, l', ln', q', g', h3, h4⟩
      · refine .inl ⟨q, l', al', g', fun k => ?_, h4⟩
        cases hb : Nat.beq i (rid p.2)
        · simp only [lkL, hb, cond_false]; exact h3 k
        · have hb := Nat.eq_of_beq_eq_true hb
          rw [← hb] at h3
          have := h3 0
          rw [hasL_lk D hno] at this; cases this
      · exact .inr ⟨q, l', ln', q', g', fun k => h3 k, h4⟩
  | .J i l ln q g :: D, pre, (b, c) :: ps, e, h, hi, p, hp => by
    simp only [idsB, Bool.and_eq_true, Bool.not_eq_true'] at hi
    obtain ⟨⟨⟨rfl, hid⟩, hno⟩, hi⟩ := hi
    obtain ⟨h1, h2⟩ := h
    have hid := Nat.eq_of_beq_eq_true hid
    rcases List.mem_cons.1 hp with rfl | hp
    · refine .inr ⟨rfl, l, ln, q, g, fun k => ?_, ?_⟩
      · simp only [lkS, hid, Nat.beq_refl, cond_true]
      · rw [e, nthC_app] at h1; exact h1
    · rcases hd_all ps0 D (pre ++ [(false, c)]) ps (by rw [e]; simp) (by simpa using h2) hi p hp with ⟨q, l', al', g', h3, h4⟩ | ⟨q, l', ln', q', g', h3, h4⟩
      · exact .inl ⟨q, l', al', g', fun k => h3 k, h4⟩
      · refine .inr ⟨q, l', ln', q', g', fun k => ?_, h4⟩
        cases hb : Nat.beq i (rid p.2)
        · simp only [lkS, hb, cond_false]; exact h3 k
        · have hb := Nat.eq_of_beq_eq_true hb
          rw [← hb] at h3
          have := h3 0
          rw [hasS_lk D hno] at this; cases this
theorem lp_all {C : Cx} {cf : Cfg} {R : Type} {D : List (PD R)} {X : List (Nat × Lv)} {rv : Lv} (O : CfgOk C cf) (hmix : C.P.follows .mixedOrders = true) : ∀ (c : Code),
    (∀ p ∈ partsA D c, (p.1 = true ∧ ∃ l al g, (∀ k, lkL k D (rid p.2) = some (mkLoopA l al (g k))) ∧ EqOf cf (mkEn D X rv) (.L 0 l al g) p.2) ∨ (p.1 = false ∧ ∃ l ln q g, (∀ k, lkS k D (rid p.2) = some (mkSeg l ln (g k))) ∧ EqOf cf (mkEn D X rv) (.J 0 l ln q g) p.2)) → ∀ k, LpOk C (mkEn D X rv k) c := by
  have sg : ∀ (b : Code) (l : List (Bool × Code)), (∀ k, LpOk C (mkEn D X rv k) b) → (∀ p ∈ (bif hasS D (rid b) then [(false, b)] else []) ++ l, (p.1 = true ∧ ∃ l al g, (∀ k, lkL k D (rid p.2) = some (mkLoopA l al (g k))) ∧ EqOf cf (mkEn D X rv) (.L 0 l al g) p.2) ∨ (p.1 = false ∧ ∃ l ln q g, (∀ k, lkS k D (rid p.2) = some (mkSeg l ln (g k))) ∧ EqOf cf (mkEn D X rv) (.J 0 l ln q g) p.2)) →
      ∀ k, ∀ J, (mkEn D X rv k).S (rid b) = some J → SgS C J b := fun b l hb hp k J hJ => by
    have hJ : lkS k D (rid b) = some J := hJ
    cases hh : hasS D (rid b)
    · rw [hasS_lk D hh] at hJ; cases hJ
    · rw [hh] at hp
      rcases hp (false, b) (by simp) with ⟨q, _⟩ | ⟨_, l, ln, q, g, h1, h2⟩
      · cases q
      · have h1 : lkS k D (rid b) = _ := h1 k
        rw [h1] at hJ; cases hJ
        exact seg_sound O hmix (fun x kn kx kr => (h2 k x kn kx kr).trans (gN_eq _ _)) (hb k)
  intro c
  induction c with
  | seq a b iha ihb =>
    intro hp k
    have hb := ihb fun p hm => hp p (by simp only [partsA]; exact List.mem_append_right _ (List.mem_append_right _ hm))
    exact ⟨iha (fun p hm => hp p (by simp only [partsA]; exact List.mem_append_left _ hm)) k, sg b (partsA D b) hb (fun p hm => hp p (by simp only [partsA]; exact List.mem_append_right _ hm)) k, fun _ => hb k⟩
  | cond t a b iha ihb =>
    intro hp k
    have ha := iha fun p hm => hp p (by simp only [partsA]; exact List.mem_append_left _ (List.mem_append_right _ hm))
    have hb := ihb fun p hm => hp p (by simp only [partsA]; exact List.mem_append_right _ (List.mem_append_right _ hm))
    exact ⟨⟨sg a (partsA D a) ha (fun p hm => hp p (by simp only [partsA]; exact List.mem_append_left _ hm)) k, fun _ => ha k⟩, sg b (partsA D b) hb (fun p hm => hp p (by simp only [partsA]; exact List.mem_append_right _ hm)) k, fun _ => hb k⟩
  | block i c ih => exact fun hp k => ih hp k
  | loop c ih =>
    intro hp k f hf
    have hf : lkL k D (rid c) = some f := hf
    have hc := ih fun p hm => hp p (by simp only [partsA]; exact List.mem_append_right _ hm)
    cases hh : hasL D (rid c)
    · rw [hasL_lk D hh] at hf; cases hf
    · rcases hp (true, c) (by simp [partsA, hh]) with ⟨_, l, al, g, h1, h2⟩ | ⟨q, _⟩
      · have h1 : lkL k D (rid c) = _ := h1 k
        rw [h1] at hf; cases hf
        exact loopA_sound O hmix h2.2 h2.1 hc k
      · cases q
  | _ => exact fun _ _ => trivial
/-- A callee with its contract. -/
inductive CB (P : Program) where
  | f (n : Nat) (sp : FnSpec) (h : FnOk P n sp)
  | s (n : Nat) (sp : ShSpec) (h : ShOk P n sp)
  | m (n t : Nat) (g : ByteArray → ByteArray) (h : MpOk P n t g)
def cbF {P : Program} : List (CB P) → Nat → Option FnSpec
  | [], _ => none
  | .f n sp _ :: l, t => bif Nat.beq n t then some sp else cbF l t
  | .s _ _ _ :: l, t => cbF l t
  | .m _ _ _ _ :: l, t => cbF l t
def cbS {P : Program} : List (CB P) → Nat → Option ShSpec
  | [], _ => none
  | .f _ _ _ :: l, t => cbS l t
  | .s n sp _ :: l, t => bif Nat.beq n t then some sp else cbS l t
  | .m _ _ _ _ :: l, t => cbS l t
def cbM {P : Program} : List (CB P) → Nat → Option (Nat × (ByteArray → ByteArray))
  | [], _ => none
  | .f _ _ _ :: l, t => cbM l t
  | .s _ _ _ :: l, t => cbM l t
  | .m n u g _ :: l, t => bif Nat.beq n t then some (u, g) else cbM l t
theorem cbF_ok {P : Program} : ∀ (l : List (CB P)) (g : Nat) (sp : FnSpec), cbF l g = some sp → FnOk P g sp
  | [], _, _, h => by cases h
  | .f n s h' :: l, g, sp, h => by
    unfold cbF at h
    cases hb : Nat.beq n g
    · rw [hb] at h; exact cbF_ok l g sp h
    · rw [hb] at h
      simp only [cond_true, Option.some.injEq] at h
      have := Nat.eq_of_beq_eq_true hb
      subst h; subst this; exact h'
  | .s _ _ _ :: l, g, sp, h => cbF_ok l g sp h
  | .m _ _ _ _ :: l, g, sp, h => cbF_ok l g sp h
theorem cbS_ok {P : Program} : ∀ (l : List (CB P)) (g : Nat) (sp : ShSpec), cbS l g = some sp → ShOk P g sp
  | [], _, _, h => by cases h
  | .s n s h' :: l, g, sp, h => by
    unfold cbS at h
    cases hb : Nat.beq n g
    · rw [hb] at h; exact cbS_ok l g sp h
    · rw [hb] at h
      simp only [cond_true, Option.some.injEq] at h
      have := Nat.eq_of_beq_eq_true hb
      subst h; subst this; exact h'
  | .f _ _ _ :: l, g, sp, h => cbS_ok l g sp h
  | .m _ _ _ _ :: l, g, sp, h => cbS_ok l g sp h
theorem cbM_ok {P : Program} : ∀ (l : List (CB P)) (g : Nat) (p : Nat × (ByteArray → ByteArray)), cbM l g = some p → MpOk P g p.1 p.2
  | [], _, _, h => by cases h
  | .m n u f h' :: l, g, sp, h => by
    unfold cbM at h
    cases hb : Nat.beq n g
    · rw [hb] at h; exact cbM_ok l g sp h
    · rw [hb] at h
      simp only [cond_true, Option.some.injEq] at h
      have := Nat.eq_of_beq_eq_true hb
      subst h; subst this; exact h'
  | .f _ _ _ :: l, g, sp, h => cbM_ok l g sp h
  | .s _ _ _ :: l, g, sp, h => cbM_ok l g sp h
def cfOf {P : Program} (tys : List (Nat × Ty)) (l : List (CB P)) (prot nt : Nat) : Cfg := { ty := lk tys, fn := cbF l, fs := cbS l, mp := cbM l, prot := prot, nt := nt }
def okB {R : Type} (P : Program) (fn : Func) (D : List (PD R)) : Bool := P.follows .mixedOrders && !(fn.name == "runtime.NumGoroutine") && fn.body.isSome && idsB D (partsA D (bodyOf fn))
theorem body_some {fn : Func} (h : fn.body.isSome = true) : fn.body = some (bodyOf fn) := by
  unfold bodyOf
  cases hb : fn.body
  · rw [hb] at h; cases h
  · rfl
theorem fn_okD {P : Program} {tys : List (Nat × Ty)} (hT : ∀ t T, lk tys t = some T → TyOk P (lk tys) t T) {f : FuncId} {fn : Func} {pas ret : Ty} {mu : List Bool} {F : den pas → Option (den ret)} (l : List (CB P)) (prot : Nat) (D : List (PD (den ret))) (X : List (Nat × Lv)) (rv : Lv) (K : Nat) (hf : P.funcs[f]? = some fn)
    (hB : (okB P fn D && Nat.ble prot pas.len && !((mu.drop prot).any id) && Nat.ble pas.len fn.ntmps && entB pas mu) = true)
    (hH : HD (cfOf tys l prot fn.ntmps) (mkEn D X rv) (partsA D (bodyOf fn)) D 0)
    (hF : ∀ x, F x = evFn (cfOf tys l prot fn.ntmps) pas mu ret (mkEn D X rv K) fn.results.toList (bodyOf fn) x) : FnOk P f ⟨pas, mu, ret, F⟩ := by
  simp only [okB, Bool.and_eq_true, Bool.not_eq_true'] at hB
  obtain ⟨⟨⟨⟨⟨⟨⟨h1, h2⟩, h3⟩, h4⟩, h5⟩, h6⟩, h7⟩, h8⟩ := hB
  refine fn_ok (cf := cfOf tys l prot fn.ntmps) (en := mkEn D X rv K) (c := bodyOf fn) hf h2 (body_some h3) hT (cbF_ok l) (cbS_ok l) (cbM_ok l) h1 rfl (Nat.le_of_ble_eq_true h5) h6 (Nat.le_of_ble_eq_true h7) h8 (fun C hP O => ?_) (fun x y h => by rw [← hF]; exact h)
  exact lp_all O (by rw [hP]; exact h1) _ (hd_all _ D [] _ rfl hH h4) K
end Go.Proofs.Ytefmjjpdflpnaaa.E
namespace Go.Proofs.Ytefmjjpdflpnaaa.E
open Go Go.Proofs Go.Proofs.Ytefmjjpdflpnaaa
set_option maxRecDepth 100000
noncomputable abbrev tq0 : Ty := (.st (.pair (.int .i64) (.pair (.int .i64) .unit)))
abbrev dq0 : Type := (Int × Int × Unit)
noncomputable abbrev tq1 : Ty := (.st (.pair (.int .u8) (.pair (.sl (.st .frm)) .unit)))
abbrev dq1 : Type := (Int × (List Frm) × Unit)
noncomputable abbrev tq2 : Ty := (.st (.pair .str (.pair .str .unit)))
abbrev dq2 : Type := (ByteArray × ByteArray × Unit)
noncomputable abbrev tq3 : Ty := (.st (.pair (.sl (.int .u8)) (.pair (.int .i64) (.pair (.int .u64) .unit))))
noncomputable abbrev tq4 : Ty := (.st (.pair (.int .i64) (.pair (.sl (.int .i64)) (.pair (.sl (.sl (.int .i64))) .unit))))
noncomputable def tys : List (Nat × Ty) := [(2, (.int .i64)), (3, (.int .i64)), (5, (.int .u8)), (9, .str), (23, tq0), (28, (.sl (.int .u8))), (38, (.sl (.int .i64))), (43, (.int .u64)), (51, (.sl (.st .frm))), (53, tq1), (65, (.sl (.sl (.int .i64)))), (67, tq4), (77, (.sl .str)), (79, (.sl tq0)), (89, tq3), (97, (.int .u64)), (121, (.sl tq2)), (124, tq2), (125, (.int .u32))]
theorem tysOk : ∀ t T, lk tys t = some T → TyOk Try.prog (lk tys) t T := tys_ok (by kernel_rfl)
noncomputable def tysR : List (Nat × Ty) := [(2, (.int .i64)), (3, (.int .i64)), (5, (.int .u8)), (9, .str), (23, tq0), (28, (.sl (.int .u8))), (38, (.sl (.int .i64))), (43, (.int .u64)), (51, (.sl (.st .frm))), (53, (.st .frm)), (65, (.sl (.sl (.int .i64)))), (67, tq4), (77, (.sl .str)), (79, (.sl tq0)), (89, tq3), (97, (.int .u64)), (121, (.sl tq2)), (124, tq2), (125, (.int .u32))]
theorem tysOkR : ∀ t T, lk tysR t = some T → TyOk Try.prog (lk tysR) t T := tys_ok (by kernel_rfl)
noncomputable def as_s_l05End : Ty := (.pair .str (.pair (.int .i64) .unit))
noncomputable def sp_s_l05End (F : (ByteArray × Int × Unit) → Option Int) : FnSpec := ⟨as_s_l05End, [false, false], (.int .i64), F⟩
noncomputable def as_s_l05Func : Ty := (.pair (.int .i64) (.pair .str .unit))
noncomputable def sp_s_l05Func (F : (Int × ByteArray × Unit) → Option dq0) : FnSpec := ⟨as_s_l05Func, [false, false], tq0, F⟩
noncomputable def as_i_readFormula : Ty := (.pair .str .unit)
noncomputable def sp_i_readFormula (F : (ByteArray × Unit) → Option (dq1 × ByteArray × Bool × Unit)) : FnSpec := ⟨as_i_readFormula, [false], (.tup (.pair tq1 (.pair .str (.pair .bool .unit)))), F⟩
noncomputable def as_i_formula_isOf_c1 : Ty := (.pair (.st .frm) (.pair (.ptr (.int .i64)) .unit))
noncomputable def sp_i_formula_isOf_c1 (F : (Frm × Int × Unit) → Option Bool) : FnSpec := ⟨as_i_formula_isOf_c1, [false, false], .bool, F⟩
noncomputable def as_i_formula_of : Ty := (.pair (.ptr (.st .frm)) (.pair (.int .i64) .unit))
noncomputable def sp_i_formula_of (F : (Frm × Int × Unit) → Option dq0) : FnSpec := ⟨as_i_formula_of, [false, false], tq0, F⟩
end Go.Proofs.Ytefmjjpdflpnaaa.E
namespace Go.Proofs.Ytefmjjpdflpnaaa.E
open Go Go.Proofs Go.Proofs.Ytefmjjpdflpnaaa
set_option maxRecDepth 100000
set_option linter.unusedVariables false
noncomputable def as_i_bit : Ty := (.pair (.int .i64) (.pair (.int .i64) .unit))
noncomputable def sp_i_bit (F : (Int × Int × Unit) → Option Int) : FnSpec := ⟨as_i_bit, [false, false], (.int .i64), F⟩
noncomputable def i_bit (K : Nat) (x : (Int × Int × Unit)) : Option Int :=
    (if (decide ((0 : Int) ≤ x.2.1)) = true then
    some (bitI .and .i64 (shrI .i64 x.1 x.2.1) (1 : Int))
    else
    none)
noncomputable def rv_i_bit : Lv := [(4, (.v (.int .i64)))]
theorem ok_i_bit (K : Nat) : FnOk Try.prog 88 (sp_i_bit (i_bit K)) :=
  fn_okD tysOk [] 0 [] [] rv_i_bit K Try.func88 (by kernel_rfl) trivial (fun _ => by kernel_rfl)
noncomputable def C_i_bit (K : Nat) : CB Try.prog := .f _ _ (ok_i_bit K)
noncomputable def as_i_Func_at : Ty := (.pair tq0 (.pair (.int .i64) .unit))
noncomputable def sp_i_Func_at (F : (dq0 × Int × Unit) → Option Int) : FnSpec := ⟨as_i_Func_at, [false, false], (.int .i64), F⟩
noncomputable def i_Func_at (K : Nat) (x : (dq0 × Int × Unit)) : Option Int :=
    (i_bit K (x.1.2.1, x.2.1, ())).bind fun y1 =>
    some y1
noncomputable def rv_i_Func_at : Lv := [(4, (.v (.int .i64)))]
theorem ok_i_Func_at (K : Nat) : FnOk Try.prog 91 (sp_i_Func_at (i_Func_at K)) :=
  fn_okD tysOk [C_i_bit K] 0 [] [] rv_i_Func_at K Try.func91 (by kernel_rfl) trivial (fun _ => by kernel_rfl)
noncomputable def C_i_Func_at (K : Nat) : CB Try.prog := .f _ _ (ok_i_Func_at K)
noncomputable def as_i_rowsOf : Ty := (.pair (.int .i64) .unit)
noncomputable def sp_i_rowsOf (F : (Int × Unit) → Option Int) : FnSpec := ⟨as_i_rowsOf, [false], (.int .i64), F⟩
noncomputable def i_rowsOf (K : Nat) (x : (Int × Unit)) : Option Int :=
    (if (decide ((0 : Int) ≤ x.1)) = true then
    some (shlI .i64 (1 : Int) x.1)
    else
    none)
noncomputable def rv_i_rowsOf : Lv := [(2, (.v (.int .i64)))]
theorem ok_i_rowsOf (K : Nat) : FnOk Try.prog 80 (sp_i_rowsOf (i_rowsOf K)) :=
  fn_okD tysOk [] 0 [] [] rv_i_rowsOf K Try.func80 (by kernel_rfl) trivial (fun _ => by kernel_rfl)
noncomputable def C_i_rowsOf (K : Nat) : CB Try.prog := .f _ _ (ok_i_rowsOf K)
noncomputable def as_i_funcBy : Ty := (.pair (.int .i64) (.pair (.fn (.pair (.int .i64) .unit) (.int .i64)) .unit))
noncomputable def sp_i_funcBy (F : (Int × ((Int × Unit) → Option Int) × Unit) → Option dq0) : FnSpec := ⟨as_i_funcBy, [false, false], tq0, F⟩
noncomputable def i_funcBy_l3 {R : Type} (K : Nat) : Nat → ((Int × Unit) → Option Int) → dq0 → dq0 → Int → Int → (dq0 → dq0 → Option R) → Option R
  | 0, _, _, _, _, _, _ => none
  | k + 1, v1, v4, v5, v10, v11, kx0 =>
    (if (decide (v11 < v10)) = true then
    (v1 (v11, ())).bind fun y2 =>
    (if (decide ((0 : Int) ≤ v11)) = true then
    i_funcBy_l3 K k v1 v4 (v5.1, (bitI .or .i64 v5.2.1 (shlI .i64 y2 v11)), ()) v10 (IntKind.i64.wrap (v11 + (1 : Int))) kx0
    else
    none)
    else
    kx0 v4 v5)
noncomputable def i_funcBy (K : Nat) (x : (Int × ((Int × Unit) → Option Int) × Unit)) : Option dq0 :=
    (i_rowsOf K (x.1, ())).bind fun y1 =>
    i_funcBy_l3 K K x.2.1 ((0 : Int), (0 : Int), ()) (x.1, ((0 : Int), (0 : Int), ()).2.1, ()) y1 (0 : Int) (fun z3 z4 =>
    some z4)
noncomputable def X0_i_funcBy : Lv := [(4, (.bx (.v tq0))), (5, (.bx (.v tq0)))]
noncomputable def rv_i_funcBy : Lv := [(4, (.bx (.v tq0)))]
noncomputable def D_i_funcBy (K : Nat) : List (PD (den tq0)) := [.L 3 [(1, (.v (.fn (.pair (.int .i64) .unit) (.int .i64)))), (4, (.bx (.v tq0))), (5, (.bx (.v tq0))), (10, (.v (.int .i64))), (11, (.v (.int .i64)))] [] (fun k x kx kr => i_funcBy_l3 K k x.1 x.2.1 x.2.2.1 x.2.2.2.1 x.2.2.2.2.1 (fun z0 z1 => kx 0 (mkSt X0_i_funcBy (z0, z1, ()))))]
theorem ok_i_funcBy (K : Nat) : FnOk Try.prog 86 (sp_i_funcBy (i_funcBy K)) :=
  fn_okD tysOk [C_i_rowsOf K] 0 (D_i_funcBy K) [(0, X0_i_funcBy)] rv_i_funcBy K Try.func86 (by kernel_rfl) ⟨⟨fun _ _ _ _ => by kernel_rfl, fun _ _ _ => rfl⟩, trivial⟩ (fun _ => by kernel_rfl)
noncomputable def C_i_funcBy (K : Nat) : CB Try.prog := .f _ _ (ok_i_funcBy K)
noncomputable def as_i_Func_put_c1 : Ty := (.pair (.int .i64) (.pair (.ptr (.sl tq0)) (.pair (.ptr tq0) .unit)))
noncomputable def sp_i_Func_put_c1 (F : (Int × (List dq0) × dq0 × Unit) → Option Int) : FnSpec := ⟨as_i_Func_put_c1, [false, false, false], (.int .i64), F⟩
noncomputable def i_Func_put_c1_l3 {R : Type} (K : Nat) : Nat → Int → dq0 → Int → (List dq0) → Int → Int → (dq0 → Int → Option R) → Option R
  | 0, _, _, _, _, _, _, _ => none
  | k + 1, v0, v2, v5, v8, v9, v10, kx0 =>
    (if (decide (v10 < v9)) = true then
    (if (bnds v10 (v8.length : Int)) = true then
    (i_Func_at K ((v8.getD v10.toNat ((0 : Int), (0 : Int), ())), v0, ())).bind fun y1 =>
    (if (decide ((0 : Int) ≤ v10)) = true then
    i_Func_put_c1_l3 K k v0 v2 (bitI .or .i64 v5 (shlI .i64 y1 v10)) v8 v9 (IntKind.i64.wrap (v10 + (1 : Int))) kx0
    else
    none)
    else
    none)
    else
    kx0 v2 v5)
noncomputable def i_Func_put_c1 (K : Nat) (x : (Int × (List dq0) × dq0 × Unit)) : Option Int :=
    i_Func_put_c1_l3 K K x.1 x.2.2.1 (0 : Int) x.2.1 (x.2.1.length : Int) (0 : Int) (fun z2 z3 =>
    (i_Func_at K (z2, z3, ())).bind fun y4 =>
    some y4)
noncomputable def X0_i_Func_put_c1 : Lv := [(2, (.v (.ptr tq0))), (5, (.v (.int .i64)))]
noncomputable def rv_i_Func_put_c1 : Lv := [(4, (.v (.int .i64)))]
noncomputable def D_i_Func_put_c1 (K : Nat) : List (PD (den (.int .i64))) := [.L 3 [(0, (.v (.int .i64))), (2, (.v (.ptr tq0))), (5, (.v (.int .i64))), (8, (.v (.sl tq0))), (9, (.v (.int .i64))), (10, (.v (.int .i64)))] [] (fun k x kx kr => i_Func_put_c1_l3 K k x.1 x.2.1 x.2.2.1 x.2.2.2.1 x.2.2.2.2.1 x.2.2.2.2.2.1 (fun z0 z1 => kx 0 (mkSt X0_i_Func_put_c1 (z0, z1, ()))))]
theorem ok_i_Func_put_c1 (K : Nat) : FnOk Try.prog 90 (sp_i_Func_put_c1 (i_Func_put_c1 K)) :=
  fn_okD tysOk [C_i_Func_at K] 0 (D_i_Func_put_c1 K) [(0, X0_i_Func_put_c1)] rv_i_Func_put_c1 K Try.func90 (by kernel_rfl) ⟨⟨fun _ _ _ _ => by kernel_rfl, fun _ _ _ => rfl⟩, trivial⟩ (fun _ => by kernel_rfl)
noncomputable def C_i_Func_put_c1 (K : Nat) : CB Try.prog := .f _ _ (ok_i_Func_put_c1 K)
noncomputable def as_i_Func_put : Ty := (.pair tq0 (.pair (.int .i64) (.pair (.sl tq0) .unit)))
noncomputable def sp_i_Func_put (F : (dq0 × Int × (List dq0) × Unit) → Option dq0) : FnSpec := ⟨as_i_Func_put, [false, false, false], tq0, F⟩
noncomputable def i_Func_put (K : Nat) (x : (dq0 × Int × (List dq0) × Unit)) : Option dq0 :=
    (i_funcBy K (x.2.1, (fun y2 => i_Func_put_c1 K (y2.1, x.2.2.1, x.1, ())), ())).bind fun y1 =>
    some y1
noncomputable def rv_i_Func_put : Lv := [(6, (.bx (.v tq0)))]
theorem ok_i_Func_put (K : Nat) : FnOk Try.prog 60 (sp_i_Func_put (i_Func_put K)) :=
  fn_okD tysOk [C_i_funcBy K, C_i_Func_put_c1 K] 0 [] [] rv_i_Func_put K Try.func60 (by kernel_rfl) trivial (fun _ => by kernel_rfl)
noncomputable def C_i_Func_put (K : Nat) : CB Try.prog := .f _ _ (ok_i_Func_put K)
noncomputable def as_i_funcsOf : Ty := (.pair (.int .i64) .unit)
noncomputable def sp_i_funcsOf (F : (Int × Unit) → Option Int) : FnSpec := ⟨as_i_funcsOf, [false], (.int .i64), F⟩
noncomputable def i_funcsOf (K : Nat) (x : (Int × Unit)) : Option Int :=
    (i_rowsOf K (x.1, ())).bind fun y1 =>
    (if (decide ((0 : Int) ≤ y1)) = true then
    some (shlI .i64 (1 : Int) y1)
    else
    none)
noncomputable def rv_i_funcsOf : Lv := [(2, (.v (.int .i64)))]
theorem ok_i_funcsOf (K : Nat) : FnOk Try.prog 41 (sp_i_funcsOf (i_funcsOf K)) :=
  fn_okD tysOk [C_i_rowsOf K] 0 [] [] rv_i_funcsOf K Try.func41 (by kernel_rfl) trivial (fun _ => by kernel_rfl)
noncomputable def C_i_funcsOf (K : Nat) : CB Try.prog := .f _ _ (ok_i_funcsOf K)
noncomputable def as_i_projection_c1 : Ty := (.pair (.int .i64) (.pair (.ptr (.int .i64)) .unit))
noncomputable def sp_i_projection_c1 (F : (Int × Int × Unit) → Option Int) : FnSpec := ⟨as_i_projection_c1, [false, false], (.int .i64), F⟩
noncomputable def i_projection_c1 (K : Nat) (x : (Int × Int × Unit)) : Option Int :=
    (i_bit K (x.1, x.2.1, ())).bind fun y1 =>
    some y1
noncomputable def rv_i_projection_c1 : Lv := [(3, (.v (.int .i64)))]
theorem ok_i_projection_c1 (K : Nat) : FnOk Try.prog 87 (sp_i_projection_c1 (i_projection_c1 K)) :=
  fn_okD tysOk [C_i_bit K] 0 [] [] rv_i_projection_c1 K Try.func87 (by kernel_rfl) trivial (fun _ => by kernel_rfl)
noncomputable def C_i_projection_c1 (K : Nat) : CB Try.prog := .f _ _ (ok_i_projection_c1 K)
noncomputable def as_i_projection : Ty := (.pair (.int .i64) (.pair (.int .i64) .unit))
noncomputable def sp_i_projection (F : (Int × Int × Unit) → Option dq0) : FnSpec := ⟨as_i_projection, [false, false], tq0, F⟩
noncomputable def i_projection (K : Nat) (x : (Int × Int × Unit)) : Option dq0 :=
    (i_funcBy K (x.1, (fun y2 => i_projection_c1 K (y2.1, x.2.1, ())), ())).bind fun y1 =>
    some y1
noncomputable def rv_i_projection : Lv := [(4, (.bx (.v tq0)))]
theorem ok_i_projection (K : Nat) : FnOk Try.prog 57 (sp_i_projection (i_projection K)) :=
  fn_okD tysOk [C_i_funcBy K, C_i_projection_c1 K] 0 [] [] rv_i_projection K Try.func57 (by kernel_rfl) trivial (fun _ => by kernel_rfl)
noncomputable def C_i_projection (K : Nat) : CB Try.prog := .f _ _ (ok_i_projection K)
noncomputable def as_i_within : Ty := (.pair (.int .i64) (.pair (.int .i64) (.pair (.int .i64) .unit)))
noncomputable def sp_i_within (F : (Int × Int × Int × Unit) → Option Bool) : FnSpec := ⟨as_i_within, [false, false, false], .bool, F⟩
noncomputable def i_within (K : Nat) (x : (Int × Int × Int × Unit)) : Option Bool :=
    (if (decide (x.1 ≥ x.2.1)) = true then
    some (decide (x.1 ≤ x.2.2.1))
    else
    some false)
noncomputable def rv_i_within : Lv := [(6, (.v .bool))]
theorem ok_i_within (K : Nat) : FnOk Try.prog 40 (sp_i_within (i_within K)) :=
  fn_okD tysOk [] 0 [] [] rv_i_within K Try.func40 (by kernel_rfl) trivial (fun _ => by kernel_rfl)
noncomputable def C_i_within (K : Nat) : CB Try.prog := .f _ _ (ok_i_within K)
noncomputable def as_s_l01Rows : Ty := (.pair (.int .i64) .unit)
noncomputable def sp_s_l01Rows (F : (Int × Unit) → Option Int) : FnSpec := ⟨as_s_l01Rows, [false], (.int .i64), F⟩
noncomputable def s_l01Rows (K : Nat) (x : (Int × Unit)) : Option Int :=
    (if (decide ((0 : Int) ≤ (IntKind.u64.wrap x.1))) = true then
    some (shlI .i64 (1 : Int) (IntKind.u64.wrap x.1))
    else
    none)
noncomputable def rv_s_l01Rows : Lv := [(2, (.v (.int .i64)))]
theorem ok_s_l01Rows (K : Nat) : FnOk Try.prog 62 (sp_s_l01Rows (s_l01Rows K)) :=
  fn_okD tysOk [] 0 [] [] rv_s_l01Rows K Try.func62 (by kernel_rfl) trivial (fun _ => by kernel_rfl)
noncomputable def C_s_l01Rows (K : Nat) : CB Try.prog := .f _ _ (ok_s_l01Rows K)
noncomputable def as_s_l01All : Ty := (.pair (.int .i64) .unit)
noncomputable def sp_s_l01All (F : (Int × Unit) → Option Int) : FnSpec := ⟨as_s_l01All, [false], (.int .i64), F⟩
noncomputable def s_l01All (K : Nat) (x : (Int × Unit)) : Option Int :=
    (s_l01Rows K (x.1, ())).bind fun y1 =>
    (if (decide ((0 : Int) ≤ (IntKind.u64.wrap y1))) = true then
    let x2 := (IntKind.i64.wrap ((shlI .i64 (1 : Int) (IntKind.u64.wrap y1)) - (1 : Int)))
    some x2
    else
    none)
noncomputable def rv_s_l01All : Lv := [(2, (.v (.int .i64)))]
theorem ok_s_l01All (K : Nat) : FnOk Try.prog 61 (sp_s_l01All (s_l01All K)) :=
  fn_okD tysOk [C_s_l01Rows K] 0 [] [] rv_s_l01All K Try.func61 (by kernel_rfl) trivial (fun _ => by kernel_rfl)
noncomputable def C_s_l01All (K : Nat) : CB Try.prog := .f _ _ (ok_s_l01All K)
noncomputable def as_s_l01At : Ty := (.pair tq0 (.pair (.int .i64) .unit))
noncomputable def sp_s_l01At (F : (dq0 × Int × Unit) → Option Int) : FnSpec := ⟨as_s_l01At, [false, false], (.int .i64), F⟩
noncomputable def s_l01At (K : Nat) (x : (dq0 × Int × Unit)) : Option Int :=
    (if (decide ((0 : Int) ≤ (IntKind.u64.wrap x.2.1))) = true then
    let x1 := (bitI .and .i64 (shrI .i64 x.1.2.1 (IntKind.u64.wrap x.2.1)) (1 : Int))
    some x1
    else
    none)
noncomputable def rv_s_l01At : Lv := [(4, (.v (.int .i64)))]
theorem ok_s_l01At (K : Nat) : FnOk Try.prog 83 (sp_s_l01At (s_l01At K)) :=
  fn_okD tysOk [] 0 [] [] rv_s_l01At K Try.func83 (by kernel_rfl) trivial (fun _ => by kernel_rfl)
noncomputable def C_s_l01At (K : Nat) : CB Try.prog := .f _ _ (ok_s_l01At K)
noncomputable def as_s_l01In : Ty := (.pair (.int .i64) (.pair (.int .i64) (.pair (.int .i64) .unit)))
noncomputable def sp_s_l01In (F : (Int × Int × Int × Unit) → Option Bool) : FnSpec := ⟨as_s_l01In, [false, false, false], .bool, F⟩
noncomputable def s_l01In (K : Nat) (x : (Int × Int × Int × Unit)) : Option Bool :=
    (if (decide (x.1 ≥ x.2.1)) = true then
    some (decide (x.1 ≤ x.2.2.1))
    else
    some false)
noncomputable def rv_s_l01In : Lv := [(6, (.v .bool))]
theorem ok_s_l01In (K : Nat) : FnOk Try.prog 22 (sp_s_l01In (s_l01In K)) :=
  fn_okD tysOk [] 0 [] [] rv_s_l01In K Try.func22 (by kernel_rfl) trivial (fun _ => by kernel_rfl)
noncomputable def C_s_l01In (K : Nat) : CB Try.prog := .f _ _ (ok_s_l01In K)
noncomputable def as_s_l01Of : Ty := (.pair (.int .i64) (.pair (.sl (.int .i64)) .unit))
noncomputable def sp_s_l01Of (F : (Int × (List Int) × Unit) → Option dq0) : FnSpec := ⟨as_s_l01Of, [false, false], tq0, F⟩
noncomputable def s_l01Of_l3 {R : Type} (K : Nat) : Nat → Int → (List Int) → dq0 → dq0 → Int → (dq0 → dq0 → Option R) → Option R
  | 0, _, _, _, _, _, _ => none
  | k + 1, v0, v1, v4, v5, v6, kx0 =>
    (s_l01Rows K (v0, ())).bind fun y1 =>
    (if (decide (v6 < y1)) = true then
    (if (bnds v6 (v1.length : Int)) = true then
    (if (decide ((0 : Int) ≤ (IntKind.u64.wrap v6))) = true then
    let x2 := (shlI .i64 (v1.getD v6.toNat (0 : Int)) (IntKind.u64.wrap v6))
    s_l01Of_l3 K k v0 v1 v4 (v5.1, (IntKind.i64.wrap (v5.2.1 + x2)), ()) (IntKind.i64.wrap (v6 + (1 : Int))) kx0
    else
    none)
    else
    none)
    else
    kx0 v4 v5)
noncomputable def s_l01Of (K : Nat) (x : (Int × (List Int) × Unit)) : Option dq0 :=
    s_l01Of_l3 K K x.1 x.2.1 ((0 : Int), (0 : Int), ()) (x.1, ((0 : Int), (0 : Int), ()).2.1, ()) (0 : Int) (fun z3 z4 =>
    some z4)
noncomputable def X0_s_l01Of : Lv := [(4, (.bx (.v tq0))), (5, (.bx (.v tq0)))]
noncomputable def rv_s_l01Of : Lv := [(4, (.bx (.v tq0)))]
noncomputable def D_s_l01Of (K : Nat) : List (PD (den tq0)) := [.L 3 [(0, (.v (.int .i64))), (1, (.v (.sl (.int .i64)))), (4, (.bx (.v tq0))), (5, (.bx (.v tq0))), (6, (.v (.int .i64)))] [] (fun k x kx kr => s_l01Of_l3 K k x.1 x.2.1 x.2.2.1 x.2.2.2.1 x.2.2.2.2.1 (fun z0 z1 => kx 0 (mkSt X0_s_l01Of (z0, z1, ()))))]
theorem ok_s_l01Of (K : Nat) : FnOk Try.prog 64 (sp_s_l01Of (s_l01Of K)) :=
  fn_okD tysOk [C_s_l01Rows K] 0 (D_s_l01Of K) [(0, X0_s_l01Of)] rv_s_l01Of K Try.func64 (by kernel_rfl) ⟨⟨fun _ _ _ _ => by kernel_rfl, fun _ _ _ => rfl⟩, trivial⟩ (fun _ => by kernel_rfl)
noncomputable def C_s_l01Of (K : Nat) : CB Try.prog := .f _ _ (ok_s_l01Of K)
end Go.Proofs.Ytefmjjpdflpnaaa.E
namespace Go.Proofs.Ytefmjjpdflpnaaa.E
open Go Go.Proofs
set_option maxRecDepth 100000
set_option linter.unusedVariables false
set_option linter.unusedSimpArgs false
variable {K : Nat} {R : Type}
theorem w64 {x : Int} (h1 : -9223372036854775808 ≤ x) (h2 : x < 9223372036854775808) : IntKind.i64.wrap x = x := by
  simp only [IntKind.wrap, IntKind.bits, IntKind.signed, Bool.true_and]
  simp only [show (2 : Int) ^ 64 = 18446744073709551616 from rfl, show (2 : Int) ^ (64 - 1) = 9223372036854775808 from rfl]
  split <;> rename_i h <;> simp only [decide_eq_true_eq] at h <;> omega
theorem w64n {n : Nat} (h : n < 9223372036854775808) : IntKind.i64.wrap (n : Int) = (n : Int) := w64 (by omega) (by omega)
theorem w64s {n : Nat} (h : n + 1 < 9223372036854775808) : IntKind.i64.wrap ((n : Int) + 1) = ((n + 1 : Nat) : Int) := by rw [w64 (by omega) (by omega)]; rfl
theorem w64m1 {n : Nat} (h : n < 9223372036854775808) : IntKind.i64.wrap ((n : Int) - 1) = (n : Int) - 1 := w64 (by omega) (by omega)
theorem u64n {n : Nat} (h : n < 18446744073709551616) : IntKind.u64.wrap (n : Int) = (n : Int) := by
  simp only [IntKind.wrap, IntKind.bits, IntKind.signed, Bool.false_and, Bool.false_eq_true, if_false]
  simp only [show (2 : Int) ^ 64 = 18446744073709551616 from rfl]
  omega
theorem u64_ge (x : Int) : 0 ≤ IntKind.u64.wrap x := by
  simp only [IntKind.wrap, IntKind.bits, IntKind.signed, Bool.false_and, Bool.false_eq_true, if_false]
  exact Int.emod_nonneg _ (by decide)
theorem u64_dec (x : Int) : decide ((0 : Int) ≤ IntKind.u64.wrap x) = true := decide_eq_true (u64_ge x)
theorem bnds_t {i n : Int} (h0 : 0 ≤ i) (h : i < n) : bnds i n = true := by simp [bnds, h0, h]
theorem bnds_n {i n : Nat} (h : i < n) : bnds (i : Int) (n : Int) = true := bnds_t (by omega) (by omega)
theorem nn (n : Nat) : decide ((0 : Int) ≤ (n : Int)) = true := decide_eq_true (by omega)
theorem emod2n (x : Nat) : ((x : Int) % 18446744073709551616).toNat = x % 18446744073709551616 := by omega
theorem bitI_and {a b : Nat} (ha : a < 9223372036854775808) (hb : b < 9223372036854775808) : bitI .and .i64 (a : Int) (b : Int) = ((a &&& b : Nat) : Int) := by
  have h : a &&& b ≤ a := Nat.and_le_left
  show IntKind.i64.wrap (((BitVec.ofInt 64 (a : Int) &&& BitVec.ofInt 64 (b : Int) : BitVec 64).toNat : Nat) : Int) = _
  simp only [BitVec.toNat_and, BitVec.toNat_ofInt]
  simp only [show ((2 ^ 64 : Nat) : Int) = 18446744073709551616 from rfl, emod2n]
  rw [Nat.mod_eq_of_lt (by omega), Nat.mod_eq_of_lt (by omega), w64n (by omega)]
theorem bitI_or {a b : Nat} (ha : a < 9223372036854775808) (hb : b < 9223372036854775808) : bitI .or .i64 (a : Int) (b : Int) = ((a ||| b : Nat) : Int) := by
  have h : a ||| b < 9223372036854775808 := Nat.or_lt_two_pow (n := 63) ha hb
  show IntKind.i64.wrap (((BitVec.ofInt 64 (a : Int) ||| BitVec.ofInt 64 (b : Int) : BitVec 64).toNat : Nat) : Int) = _
  simp only [BitVec.toNat_or, BitVec.toNat_ofInt]
  simp only [show ((2 ^ 64 : Nat) : Int) = 18446744073709551616 from rfl, emod2n]
  rw [Nat.mod_eq_of_lt (by omega), Nat.mod_eq_of_lt (by omega), w64n (by omega)]
theorem shrI_n (a j : Nat) (ha : a < 9223372036854775808) : shrI .i64 (a : Int) (j : Int) = ((a >>> j : Nat) : Int) := by
  simp only [shrI, IntKind.bits, Int.toNat_natCast, Nat.shiftRight_eq_div_pow]
  have : (2 : Int) ^ min j 64 = ((2 ^ min j 64 : Nat) : Int) := by simp
  rw [this, Int.fdiv_eq_ediv_of_nonneg _ (Int.natCast_nonneg _), ← Int.natCast_ediv]
  by_cases h : j ≤ 64
  · rw [Nat.min_eq_left h]
  · rw [Nat.min_eq_right (by omega), Nat.div_eq_of_lt (by omega), Nat.div_eq_of_lt]
    exact Nat.lt_of_lt_of_le ha (Nat.le_trans (show 9223372036854775808 ≤ 2 ^ 64 by decide) (Nat.pow_le_pow_right (by decide) (by omega)))
theorem shlI_n (a j : Nat) (h : a * 2 ^ j < 9223372036854775808) : shlI .i64 (a : Int) (j : Int) = ((a * 2 ^ j : Nat) : Int) := by
  simp only [shlI, IntKind.bits, Int.toNat_natCast]
  by_cases hj : j ≤ 64
  · rw [Nat.min_eq_left hj, ← w64n h]; congr 1
  · have ha : a = 0 := by
      rcases Nat.eq_zero_or_pos a with h0 | h0
      · exact h0
      · have := Nat.mul_le_mul_right (2 ^ j) h0
        have h2 : 2 ^ 64 ≤ 2 ^ j := Nat.pow_le_pow_right (by decide) (by omega)
        have : (18446744073709551616 : Nat) ≤ 2 ^ j := h2
        omega
    subst ha
    have := w64n (n := 0) (by decide)
    simpa using this
theorem shl1 {j : Nat} (h : j < 63) : shlI .i64 (1 : Int) (j : Int) = ((2 ^ j : Nat) : Int) := by
  have h2 : 2 ^ j < 2 ^ 63 := Nat.pow_lt_pow_right (by decide) h
  have := shlI_n 1 j (by simpa using h2)
  simpa using this
/-- A digit of a number. -/
def bt (b j : Nat) : Int := if b.testBit j then 1 else 0
theorem bt_eq (b j : Nat) : bt b j = (((b >>> j) &&& 1 : Nat) : Int) := by
  unfold bt
  rw [Nat.and_one_is_mod, Nat.shiftRight_eq_div_pow]
  have := Nat.testBit_eq_decide_div_mod_eq (x := b) (i := j)
  rw [this]
  have h2 := Nat.mod_lt (b / 2 ^ j) (show 0 < 2 by decide)
  split <;> rename_i h <;> simp only [decide_eq_true_eq] at h <;> omega
theorem bitI_bt {b : Nat} (j : Nat) (hb : b < 9223372036854775808) : bitI .and .i64 (shrI .i64 (b : Int) (j : Int)) (1 : Int) = bt b j := by
  rw [shrI_n b j hb, show (1 : Int) = ((1 : Nat) : Int) from rfl, bitI_and ?_ (by decide), bt_eq]
  rw [Nat.shiftRight_eq_div_pow]; exact Nat.lt_of_le_of_lt (Nat.div_le_self _ _) hb
def mkB (g : Nat → Bool) : Nat → Nat
  | 0 => 0
  | n + 1 => mkB g n + (if g n then 2 ^ n else 0)
theorem mkB_lt (g : Nat → Bool) : ∀ n, mkB g n < 2 ^ n
  | 0 => by simp [mkB]
  | n + 1 => by
    have := mkB_lt g n
    rw [mkB, Nat.pow_succ]; split <;> omega
theorem or_pow {x n : Nat} (h : x < 2 ^ n) : x ||| 2 ^ n = x + 2 ^ n := by
  have := Nat.two_pow_add_eq_or_of_lt h 1
  rw [Nat.or_comm, Nat.add_comm]
  simpa using this.symm
theorem getD_mid {α : Type} (p r : List α) (y d : α) : (p ++ y :: r).getD p.length d = y := by
  simp [List.getD]
theorem getD_midI {α : Type} (p r : List α) (y d : α) : (p ++ y :: r).getD ((p.length : Int)).toNat d = y := by
  rw [Int.toNat_natCast]; exact getD_mid p r y d
theorem len_mid {α : Type} (p r : List α) (y : α) : p.length < (p ++ y :: r).length := by simp
theorem mid_app {α : Type} (p r : List α) (y : α) : p ++ y :: r = (p ++ [y]) ++ r := by simp
theorem snoc_len {α : Type} (p : List α) (y : α) : (p ++ [y]).length = p.length + 1 := by simp
theorem ite_t {c : Bool} {α : Type} {a b : α} (h : c = true) : (if c = true then a else b) = a := if_pos h
theorem ite_f {c : Bool} {α : Type} {a b : α} (h : c = false) : (if c = true then a else b) = b := if_neg (by rw [h]; decide)
theorem some_bind' {α β : Type} (a : α) (f : α → Option β) : (some a).bind f = f a := rfl
abbrev DF := Int × Int × Unit
theorem i_within_eq (a b c : Int) : i_within K (a, b, c, ()) = some (decide (b ≤ a) && decide (a ≤ c)) := by
  simp only [i_within]
  by_cases h : b ≤ a
  · rw [if_pos (decide_eq_true h)]; simp [h]
  · rw [if_neg (by simpa using h)]; simp [h]
theorem s_l01In_eq (a b c : Int) : s_l01In K (a, b, c, ()) = some (decide (b ≤ a) && decide (a ≤ c)) := by
  simp only [s_l01In]
  by_cases h : b ≤ a
  · rw [if_pos (decide_eq_true h)]; simp [h]
  · rw [if_neg (by simpa using h)]; simp [h]
theorem i_rowsOf_eq {n : Nat} (h : n < 63) : i_rowsOf K ((n : Int), ()) = some ((2 ^ n : Nat) : Int) := by
  simp only [i_rowsOf]; rw [if_pos (nn n), shl1 h]
theorem s_l01Rows_eq {n : Nat} (h : n < 63) : s_l01Rows K ((n : Int), ()) = some ((2 ^ n : Nat) : Int) := by
  simp only [s_l01Rows]; rw [if_pos (u64_dec _), u64n (by omega), shl1 h]
theorem pw4 {n : Nat} (h : n ≤ 4) : 2 ^ n ≤ 16 := Nat.pow_le_pow_right (by decide) h
theorem ppw4 {n : Nat} (h : n ≤ 4) : 2 ^ 2 ^ n ≤ 65536 := Nat.pow_le_pow_right (by decide) (pw4 h)
theorem i_funcsOf_eq {n : Nat} (h : n ≤ 4) : i_funcsOf K ((n : Int), ()) = some ((2 ^ 2 ^ n : Nat) : Int) := by
  have h4 := pw4 h
  simp only [i_funcsOf, i_rowsOf_eq (show n < 63 by omega), some_bind']
  rw [if_pos (nn _), shl1 (by omega)]
theorem s_l01All_eq {n : Nat} (h : n ≤ 4) : s_l01All K ((n : Int), ()) = some ((2 ^ 2 ^ n : Nat) - 1 : Int) := by
  have h4 := pw4 h
  have h5 := ppw4 h
  simp only [s_l01All, s_l01Rows_eq (show n < 63 by omega), some_bind']
  rw [if_pos (u64_dec _), u64n (by omega), shl1 (by omega), w64m1 (by omega)]
theorem i_bit_eq {b : Nat} (j : Nat) (h : b < 9223372036854775808) : i_bit K ((b : Int), (j : Int), ()) = some (bt b j) := by
  simp only [i_bit]; rw [if_pos (nn j), bitI_bt j h]
theorem i_Func_at_eq {n : Int} {b : Nat} (j : Nat) (h : b < 9223372036854775808) : i_Func_at K ((n, (b : Int), ()), (j : Int), ()) = some (bt b j) := by
  simp only [i_Func_at, i_bit_eq j h]; rfl
theorem s_l01At_eq {n : Int} {b j : Nat} (h : b < 9223372036854775808) (hj : j < 9223372036854775808) : s_l01At K ((n, (b : Int), ()), (j : Int), ()) = some (bt b j) := by
  simp only [s_l01At]; rw [if_pos (u64_dec _), u64n (by omega), bitI_bt j h]
theorem lt_len {α : Type} {p r : List α} {y : α} : decide ((p.length : Int) < ((p ++ y :: r).length : Int)) = true := decide_eq_true (by simp; omega)
theorem nlt_len {α : Type} {p : List α} : decide ((p.length : Int) < ((p ++ []).length : Int)) = false := decide_eq_false (by simp)
theorem bnds_mid {α : Type} {p r : List α} {y : α} : bnds (p.length : Int) ((p ++ y :: r).length : Int) = true := bnds_n (len_mid p r y)
theorem next_i {α : Type} {p r : List α} {y : α} (h : (p ++ y :: r).length < 4611686018427387904) : IntKind.i64.wrap ((p.length : Int) + 1) = (((p ++ [y]).length : Nat) : Int) := by
  rw [snoc_len]; refine w64s ?_
  have := len_mid p r y; omega
def dg (b : Bool) (n : Nat) : Nat := if b = true then 2 ^ n else 0
theorem dg_le (b : Bool) (n : Nat) : dg b n ≤ 2 ^ n := by unfold dg; split <;> simp
theorem mkB_succ (g : Nat → Bool) (n : Nat) : mkB g (n + 1) = mkB g n + dg (g n) n := rfl
theorem shl_bt {a j n : Nat} (hn : n < 62) : shlI .i64 (bt a j) (n : Int) = ((dg (a.testBit j) n : Nat) : Int) := by
  unfold bt dg
  cases a.testBit j
  · have := shlI_n 0 n (by simp)
    simpa using this
  · rw [if_pos rfl, if_pos rfl, shl1 (by omega)]
theorem lt62 {n : Nat} (hn : n < 62) : 2 ^ (n + 1) ≤ 4611686018427387904 := Nat.le_trans (Nat.pow_le_pow_right (by decide) (show n + 1 ≤ 62 by omega)) (by decide)
theorem or_dg {x n : Nat} (hx : x < 2 ^ n) (hn : n < 62) (b : Bool) : bitI .or .i64 (x : Int) ((dg b n : Nat) : Int) = ((x + dg b n : Nat) : Int) := by
  have h2 := lt62 hn
  have h3 := Nat.pow_succ 2 n
  have h4 := dg_le b n
  rw [bitI_or (by omega) (by omega)]
  congr 1
  unfold dg; cases b
  · simp
  · rw [if_pos rfl, or_pow hx]
theorem shl_b1 {b : Bool} {n : Nat} (hn : n < 62) : shlI .i64 (if b = true then 1 else 0) (n : Int) = ((dg b n : Nat) : Int) := by
  unfold dg
  cases b
  · have := shlI_n 0 n (by simp)
    simpa using this
  · rw [if_pos rfl, if_pos rfl, shl1 (by omega)]
theorem funcBy_l (g : Nat → Bool) (f : Int × Unit → Option Int) (N : Nat) (hN : N ≤ 16) (hf : ∀ j : Nat, j < N → f ((j : Int), ()) = some (if g j = true then 1 else 0)) (v4 : DF) (a : Int) (kx : DF → DF → Option R) : ∀ (m i k : Nat), i + m = N → m < k →
    i_funcBy_l3 K k f v4 (a, ((mkB g i : Nat) : Int), ()) (N : Int) (i : Int) kx = kx v4 (a, ((mkB g N : Nat) : Int), ())
  | 0, i, k + 1, e, _ => by
    obtain rfl : i = N := by omega
    simp only [i_funcBy_l3]; rw [ite_f (decide_eq_false (by omega))]
  | m + 1, i, k + 1, e, hk => by
    have ih := funcBy_l g f N hN hf v4 a kx m (i + 1) k (by omega) (by omega)
    rw [mkB_succ] at ih
    simp only [i_funcBy_l3]
    rw [ite_t (decide_eq_true (by omega)), hf i (by omega), some_bind', ite_t (nn _), shl_b1 (by omega), or_dg (mkB_lt _ _) (by omega), w64s (by omega), ih]
theorem i_funcBy_eq (g : Nat → Bool) {f : Int × Unit → Option Int} {n : Nat} (hn : n ≤ 4) (hf : ∀ j : Nat, j < 2 ^ n → f ((j : Int), ()) = some (if g j = true then 1 else 0)) (hK : 4611686018427387904 ≤ K) : i_funcBy K ((n : Int), f, ()) = some ((n : Int), ((mkB g (2 ^ n) : Nat) : Int), ()) := by
  have hp := pw4 hn
  simp only [i_funcBy, i_rowsOf_eq (show n < 63 by omega), some_bind']
  have := funcBy_l (K := K) g f (2 ^ n) hp hf ((0 : Int), (0 : Int), ()) (n : Int) (fun z3 z4 => some z4) (2 ^ n) 0 K (by omega) (by omega)
  simp only [mkB] at this
  rw [show ((0 : Nat) : Int) = 0 from rfl] at this
  exact this
/-- A power of 2, closed to the arithmetic. -/
def pw (n : Nat) : Nat := 2 ^ n
theorem pwE_pos (n : Nat) : 0 < pw n := Nat.two_pow_pos n
theorem pw_mono {a b : Nat} (h : a ≤ b) : pw a ≤ pw b := Nat.pow_le_pow_right (by decide) h
theorem p_le {n : Nat} (hn : n ≤ 4) : pw n ≤ 16 := Nat.le_trans (pw_mono hn) (by decide)
/-- The number with these digits. -/
def packL : List Nat → Nat → Nat
  | [], _ => 0
  | x :: xs, j => x * pw j + packL xs (j + 1)
/-- Numbers of at least 0 as whole numbers. -/
def up (l : List Nat) : List Int := l.map (fun x : Nat => ((x : Nat) : Int))
theorem up_len (l : List Nat) : (up l).length = l.length := by simp [up]
theorem of_l3 {n : Nat} {l : List Nat} (hn : n ≤ 4) (hl : l.length = pw n) (hv : ∀ x ∈ l, x ≤ 1) (v4 : Int × Int × Unit) (u : Unit) (kx0 : (Int × Int × Unit) → (Int × Int × Unit) → Option R) :
    ∀ (d i k acc : Nat), i + d = pw n → d < k → acc < pw i → s_l01Of_l3 K k (n : Int) (up l) v4 ((n : Int), (acc : Int), u) (i : Int) kx0 = kx0 v4 ((n : Int), ((acc + packL (l.drop i) i : Nat) : Int), u)
  | d, i, 0, acc, _, h, _ => by omega
  | 0, i, k + 1, acc, e, _, _ => by
    rw [s_l01Of_l3, s_l01Rows_eq (by omega), some_bind', ite_f (decide_eq_false (by unfold pw at e; omega)), List.drop_eq_nil_of_le (by omega)]; rfl
  | d + 1, i, k + 1, acc, e, h, ha => by
    have hp := p_le hn
    have hil : i < l.length := by omega
    have hx := hv l[i] (List.getElem_mem hil)
    have hg : (up l).getD (i : Int).toNat (0 : Int) = ((l[i] : Nat) : Int) := by simp [up, List.getD, hil]
    have hpi : pw (i + 1) = pw i * 2 := by unfold pw; rw [Nat.pow_succ]
    have hp15 : pw i ≤ 65536 := Nat.le_trans (pw_mono (show i ≤ 16 by omega)) (by decide)
    have hm : l[i] * pw i ≤ pw i := Nat.le_trans (Nat.mul_le_mul_right _ hx) (by omega)
    have hu : ((up l).length : Int) = (l.length : Int) := by rw [up_len]
    have ih := of_l3 hn hl hv v4 () kx0 d (i + 1) k (acc + l[i] * pw i) (by omega) (by omega) (by omega)
    rw [s_l01Of_l3, s_l01Rows_eq (by omega), some_bind', ite_t (decide_eq_true (by unfold pw at e; omega)), hu, ite_t (bnds_n hil), ite_t (u64_dec _), hg, u64n (by omega)]
    have hs : shlI .i64 ((l[i] : Nat) : Int) (i : Int) = ((l[i] * pw i : Nat) : Int) := shlI_n _ _ (by unfold pw at hm hp15; omega)
    rw [hs, w64s (by omega)]
    dsimp only
    rw [show IntKind.i64.wrap ((acc : Int) + ((l[i] * pw i : Nat) : Int)) = ((acc + l[i] * pw i : Nat) : Int) by rw [w64 (by omega) (by omega)]; omega]
    rw [List.drop_eq_getElem_cons hil, packL, ← Nat.add_assoc]
    exact ih
theorem s_l01Of_eq {n : Nat} {l : List Nat} (hn : n ≤ 4) (hl : l.length = pw n) (hv : ∀ x ∈ l, x ≤ 1) (hK : 100 ≤ K) : s_l01Of K ((n : Int), up l, ()) = some ((n : Int), ((packL l 0 : Nat) : Int), ()) := by
  have hp := p_le hn
  simp only [s_l01Of]
  refine (of_l3 (K := K) hn hl hv _ () _ (pw n) 0 K 0 (by omega) (by omega) (pwE_pos 0)).trans ?_
  rw [List.drop_zero, Nat.zero_add]
theorem eql_iff (a b : ByteArray) : cmpS .eql a b = true ↔ a = b := by
  simp only [cmpS, beq_iff_eq, ByteArray.toList_eq]
  exact ⟨fun h => ByteArray.ext (Array.toList_inj.mp h), fun h => by rw [h]⟩
theorem eql_ne {a b : ByteArray} (h : a ≠ b) : cmpS .eql a b = false := by
  cases e : cmpS .eql a b
  · rfl
  · exact absurd ((eql_iff a b).1 e) h
def packN (l : List Nat) (r : Nat) : Nat := mkB (fun i => (l.getD i 0).testBit r) l.length
def putN (b n : Nat) (l : List Nat) : Nat := mkB (fun r => b.testBit (packN l r)) (2 ^ n)
theorem putN_lt (b n : Nat) (l : List Nat) : putN b n l < 2 ^ 2 ^ n := mkB_lt _ _
def fN (n b : Nat) : DF := ((n : Int), (b : Int), ())
def fnsN (n : Nat) (l : List Nat) : List DF := l.map (fN n)
theorem fns_len (n : Nat) (l : List Nat) : (fnsN n l).length = l.length := by simp [fnsN]
theorem fns_get (n : Nat) (l : List Nat) (i : Nat) (h : i < l.length) : (fnsN n l).getD (i : Int).toNat ((0 : Int), (0 : Int), ()) = fN n (l.getD i 0) := by
  simp [fnsN, List.getD, h]
theorem fns_snoc (n : Nat) (l : List Nat) (x : Nat) : fnsN n l ++ [fN n x] = fnsN n (l ++ [x]) := by simp [fnsN]
theorem getD_all {l : List Nat} {B : Nat} (hB : 0 < B) (h : ∀ x ∈ l, x < B) (i : Nat) : l.getD i 0 < B := by
  by_cases hi : i < l.length
  · have : l.getD i 0 = l[i] := by simp [List.getD, hi]
    rw [this]; exact h _ (List.getElem_mem hi)
  · simp [List.getD, hi, hB]
theorem putc_l {n j : Nat} (l : List Nat) (hl : l.length ≤ 4) (hb : ∀ x ∈ l, x < 65536) (v2 : DF) (kx : DF → Int → Option R) : ∀ (m i k : Nat), i + m = l.length → m < k →
    i_Func_put_c1_l3 K k (j : Int) v2 ((mkB (fun i => (l.getD i 0).testBit j) i : Nat) : Int) (fnsN n l) (l.length : Int) (i : Int) kx = kx v2 ((packN l j : Nat) : Int)
  | _, _, 0, _, h => by omega
  | 0, i, k + 1, e, _ => by
    obtain rfl : i = l.length := by omega
    simp only [i_Func_put_c1_l3]; rw [ite_f (decide_eq_false (by omega))]; rfl
  | m + 1, i, k + 1, e, hk => by
    have ih := putc_l (n := n) (j := j) l hl hb v2 kx m (i + 1) k (by omega) (by omega)
    rw [mkB_succ] at ih
    have hx := getD_all (by decide) hb i
    simp only [i_Func_put_c1_l3]
    rw [ite_t (decide_eq_true (by omega)), ite_t (bnds_n (by rw [fns_len]; omega)), fns_get n l i (by omega), fN, i_Func_at_eq j (by omega), some_bind', ite_t (nn _), shl_bt (by omega), or_dg (mkB_lt _ _) (by omega), w64s (by omega), ih]
theorem packN_lt (l : List Nat) (r : Nat) : packN l r < 2 ^ l.length := mkB_lt _ _
theorem i_Func_put_eq {a b n m : Nat} (hb : b < 65536) (hn : n ≤ 4) (l : List Nat) (hl : l.length ≤ 4) (hx : ∀ x ∈ l, x < 65536) (hK : 4611686018427387904 ≤ K) : i_Func_put K (fN a b, (n : Int), fnsN m l, ()) = some (fN n (putN b n l)) := by
  simp only [i_Func_put]
  rw [i_funcBy_eq (fun r => b.testBit (packN l r)) hn (fun j hj => ?_) hK, some_bind']
  · rfl
  · simp only [i_Func_put_c1, fns_len]
    have := putc_l (K := K) (n := m) (j := j) l hl hx (fN a b) (fun z2 z3 => (i_Func_at K (z2, z3, ())).bind fun y4 => some y4) l.length 0 K (by omega) (by omega)
    refine this.trans ?_
    have h16 : packN l j < 16 := Nat.lt_of_lt_of_le (packN_lt l j) (Nat.pow_le_pow_right (by decide) hl)
    rw [fN, i_Func_at_eq _ (by omega), some_bind']; rfl
def projN (n i : Nat) : Nat := mkB (fun r => r.testBit i) (2 ^ n)
theorem projN_lt (n i : Nat) : projN n i < 2 ^ 2 ^ n := mkB_lt _ _
theorem i_projection_eq {n i : Nat} (hn : n ≤ 4) (hK : 4611686018427387904 ≤ K) : i_projection K ((n : Int), (i : Int), ()) = some (fN n (projN n i)) := by
  simp only [i_projection]
  rw [i_funcBy_eq (fun r => r.testBit i) hn (fun j hj => ?_) hK, some_bind']
  · rfl
  · have h16 : j < 16 := Nat.lt_of_lt_of_le hj (Nat.pow_le_pow_right (by decide) hn)
    simp only [i_projection_c1]
    rw [i_bit_eq i (by omega), some_bind']; rfl
end Go.Proofs.Ytefmjjpdflpnaaa.E
namespace Go.Proofs.Ytefmjjpdflpnaaa.E
open Go Go.Proofs Go.Proofs.Ytefmjjpdflpnaaa
set_option maxRecDepth 100000
set_option linter.unusedVariables false
noncomputable def as_s_l05Places : Ty := (.pair (.int .u8) .unit)
noncomputable def sp_s_l05Places (F : (Int × Unit) → Option Int) : FnSpec := ⟨as_s_l05Places, [false], (.int .i64), F⟩
noncomputable def s_l05Places_j15 {R : Type} (K : Nat) (k : Nat) (v3 : Int) (kn : Option R) (kr : (Int → Option R)) : Option R :=
    gN K ((if (decide (v3 = (63 : Int))) = true then
    (if (decide (v3 = (63 : Int))) = true then
    kr (3 : Int)
    else
    kn)
    else
    (if (decide (v3 = (77 : Int))) = true then
    kr (3 : Int)
    else
    kn)))
noncomputable def s_l05Places_j9 {R : Type} (K : Nat) (k : Nat) (v3 : Int) (kn : Option R) (kr : (Int → Option R)) : Option R :=
    gN K ((if (decide (v3 = (33 : Int))) = true then
    kr (1 : Int)
    else
    (if (decide (v3 = (38 : Int))) = true then
    (if (decide (v3 = (38 : Int))) = true then
    kr (2 : Int)
    else
    s_l05Places_j15 K k v3 kn (fun z1 =>
    kr z1))
    else
    (if (decide (v3 = (124 : Int))) = true then
    (if (decide (v3 = (124 : Int))) = true then
    kr (2 : Int)
    else
    s_l05Places_j15 K k v3 kn (fun z2 =>
    kr z2))
    else
    (if (decide (v3 = (94 : Int))) = true then
    kr (2 : Int)
    else
    s_l05Places_j15 K k v3 kn (fun z3 =>
    kr z3))))))
noncomputable def s_l05Places_j18 {R : Type} (K : Nat) (k : Nat)  (kn : Option R) (kr : (Int → Option R)) : Option R :=
    kr (-1 : Int)
noncomputable def s_l05Places (K : Nat) (x : (Int × Unit)) : Option Int :=
    (if (decide (x.1 = (97 : Int))) = true then
    (if (decide (x.1 = (97 : Int))) = true then
    some (0 : Int)
    else
    s_l05Places_j9 K K x.1 (s_l05Places_j18 K K none (fun z4 =>
    some z4)) (fun z5 =>
    some z5))
    else
    (if (decide (x.1 = (98 : Int))) = true then
    (if (decide (x.1 = (98 : Int))) = true then
    some (0 : Int)
    else
    s_l05Places_j9 K K x.1 (s_l05Places_j18 K K none (fun z6 =>
    some z6)) (fun z7 =>
    some z7))
    else
    (if (decide (x.1 = (99 : Int))) = true then
    (if (decide (x.1 = (99 : Int))) = true then
    some (0 : Int)
    else
    s_l05Places_j9 K K x.1 (s_l05Places_j18 K K none (fun z8 =>
    some z8)) (fun z9 =>
    some z9))
    else
    (if (decide (x.1 = (100 : Int))) = true then
    (if (decide (x.1 = (100 : Int))) = true then
    some (0 : Int)
    else
    s_l05Places_j9 K K x.1 (s_l05Places_j18 K K none (fun z10 =>
    some z10)) (fun z11 =>
    some z11))
    else
    (if (decide (x.1 = (48 : Int))) = true then
    (if (decide (x.1 = (48 : Int))) = true then
    some (0 : Int)
    else
    s_l05Places_j9 K K x.1 (s_l05Places_j18 K K none (fun z12 =>
    some z12)) (fun z13 =>
    some z13))
    else
    (if (decide (x.1 = (49 : Int))) = true then
    some (0 : Int)
    else
    s_l05Places_j9 K K x.1 (s_l05Places_j18 K K none (fun z14 =>
    some z14)) (fun z15 =>
    some z15)))))))
noncomputable def rv_s_l05Places : Lv := [(2, (.v (.int .i64)))]
noncomputable def D_s_l05Places (K : Nat) : List (PD (den (.int .i64))) := [.J 9 [(3, (.v (.int .u8)))] [] K (fun k x kn kx kr => s_l05Places_j9 K k x.1 (kn ()) (fun z0 => kr (mkSt rv_s_l05Places (z0, ())))),
  .J 15 [(3, (.v (.int .u8)))] [] K (fun k x kn kx kr => s_l05Places_j15 K k x.1 (kn ()) (fun z0 => kr (mkSt rv_s_l05Places (z0, ())))),
  .J 18 [] [] 0 (fun k x kn kx kr => s_l05Places_j18 K k (kn ()) (fun z0 => kr (mkSt rv_s_l05Places (z0, ()))))]
theorem ok_s_l05Places (K : Nat) : FnOk Try.prog 48 (sp_s_l05Places (s_l05Places K)) :=
  fn_okD tysOk [] 0 (D_s_l05Places K) [] rv_s_l05Places K Try.func48 (by kernel_rfl) ⟨fun _ _ _ _ _ => by kernel_rfl, ⟨fun _ _ _ _ _ => by kernel_rfl, ⟨fun _ _ _ _ _ => by kernel_rfl, trivial⟩⟩⟩ (fun _ => by kernel_rfl)
noncomputable def C_s_l05Places (K : Nat) : CB Try.prog := .f _ _ (ok_s_l05Places K)
noncomputable def s_l05End_l7 {R : Type} (K : Nat) (r : (ByteArray × Int × Unit) → Option Int) : Nat → ByteArray → Int → Int → (Int → Option R) → (Int → Option R) → Option R
  | 0, _, _, _, _, _ => none
  | k + 1, v0, v1, v5, kx0, kr =>
    (if (decide (v5 > (0 : Int))) = true then
    (r (v0, v1, ())).bind fun y2 =>
    (if (decide (y2 < (0 : Int))) = true then
    kr (-1 : Int)
    else
    s_l05End_l7 K r k v0 y2 (IntKind.i64.wrap (v5 - (1 : Int))) kx0 kr)
    else
    kx0 v1)
noncomputable def s_l05End_b (K : Nat) (r : (ByteArray × Int × Unit) → Option Int) (x : (ByteArray × Int × Unit)) : Option Int :=
    (if (decide (x.2.1 ≥ (x.1.size : Int))) = true then
    some (-1 : Int)
    else
    (if (bnds x.2.1 (x.1.size : Int)) = true then
    (s_l05Places K ((byteAt x.1 x.2.1), ())).bind fun y1 =>
    (if (decide (y1 < (0 : Int))) = true then
    some (-1 : Int)
    else
    s_l05End_l7 K r K x.1 (IntKind.i64.wrap (x.2.1 + (1 : Int))) y1 (fun z3 =>
    some z3) (fun z4 =>
    some z4))
    else
    none))
noncomputable def s_l05End (K : Nat) : Nat → (ByteArray × Int × Unit) → Option Int
  | 0 => fun _ => none
  | k + 1 => s_l05End_b K (s_l05End K k)
noncomputable def X0_s_l05End : Lv := [(1, (.v (.int .i64)))]
noncomputable def rv_s_l05End : Lv := [(4, (.v (.int .i64)))]
noncomputable def D_s_l05End (K : Nat) (r : (ByteArray × Int × Unit) → Option Int) : List (PD (den (.int .i64))) := [.L 7 [(0, (.v .str)), (1, (.v (.int .i64))), (5, (.v (.int .i64)))] [] (fun k x kx kr => s_l05End_l7 K r k x.1 x.2.1 x.2.2.1 (fun z0 => kx 0 (mkSt X0_s_l05End (z0, ()))) (fun z0 => kr (mkSt rv_s_l05End (z0, ()))))]
theorem okb_s_l05End (K : Nat) (r : (ByteArray × Int × Unit) → Option Int) (hr : FnOk Try.prog 46 (sp_s_l05End r)) : FnOk Try.prog 46 (sp_s_l05End (s_l05End_b K r)) :=
  fn_okD tysOk [.f _ (sp_s_l05End (r)) (hr), C_s_l05Places K] 0 (D_s_l05End K r) [(0, X0_s_l05End)] rv_s_l05End K Try.func46 (by kernel_rfl) ⟨⟨fun _ _ _ _ => by kernel_rfl, fun _ _ _ => rfl⟩, trivial⟩ (fun _ => by kernel_rfl)
theorem ok_s_l05End (K : Nat) : ∀ k, FnOk Try.prog 46 (sp_s_l05End (s_l05End K k))
  | 0 => fnOk_none
  | k + 1 => okb_s_l05End K (s_l05End K k) (ok_s_l05End K k)
noncomputable def as_s_l05Is : Ty := (.pair .str .unit)
noncomputable def sp_s_l05Is (F : (ByteArray × Unit) → Option Bool) : FnSpec := ⟨as_s_l05Is, [false], .bool, F⟩
noncomputable def s_l05Is (K : Nat) (x : (ByteArray × Unit)) : Option Bool :=
    (if (decide ((x.1.size : Int) ≥ (1 : Int))) = true then
    (if (decide ((x.1.size : Int) ≤ (60 : Int))) = true then
    (s_l05End K K (x.1, (0 : Int), ())).bind fun y1 =>
    some (decide (y1 = (x.1.size : Int)))
    else
    some false)
    else
    some false)
noncomputable def rv_s_l05Is : Lv := [(2, (.v .bool))]
theorem ok_s_l05Is (K : Nat) : FnOk Try.prog 21 (sp_s_l05Is (s_l05Is K)) :=
  fn_okD tysOk [.f _ (sp_s_l05End (s_l05End K K)) (ok_s_l05End K K)] 0 [] [] rv_s_l05Is K Try.func21 (by kernel_rfl) trivial (fun _ => by kernel_rfl)
noncomputable def C_s_l05Is (K : Nat) : CB Try.prog := .f _ _ (ok_s_l05Is K)
noncomputable def as_s_l05Most : Ty := (.pair .str .unit)
noncomputable def sp_s_l05Most (F : (ByteArray × Unit) → Option Int) : FnSpec := ⟨as_s_l05Most, [false], (.int .i64), F⟩
noncomputable def s_l05Most_j6 {R : Type} (K : Nat) (k : Nat) (v0 : ByteArray) (v3 : Int) (v4 : Int) (kn : ByteArray → Int → Int → Option R)  : Option R :=
    gN K ((if (bnds v4 (v0.size : Int)) = true then
    let x1 := (IntKind.i64.wrap (IntKind.u8.wrap ((byteAt v0 v4) - (97 : Int))))
    kn v0 (maxL v3 [x1]) v4
    else
    none))
noncomputable def s_l05Most_j4 {R : Type} (K : Nat) (k : Nat) (v0 : ByteArray) (v3 : Int) (v4 : Int) (kn : ByteArray → Int → Int → Option R)  : Option R :=
    kn v0 v3 (IntKind.i64.wrap (v4 + (1 : Int)))
noncomputable def s_l05Most_l3 {R : Type} (K : Nat) : Nat → ByteArray → Int → Int → (Int → Option R) → Option R
  | 0, _, _, _, _ => none
  | k + 1, v0, v3, v4, kx0 =>
    (if (decide (v4 < (v0.size : Int))) = true then
    (if (bnds v4 (v0.size : Int)) = true then
    (if (decide ((byteAt v0 v4) ≥ (97 : Int))) = true then
    (if (bnds v4 (v0.size : Int)) = true then
    (if (decide ((byteAt v0 v4) ≤ (100 : Int))) = true then
    s_l05Most_j6 K k v0 v3 v4 (fun z2 z3 z4 =>
    s_l05Most_j4 K k z2 z3 z4 (fun z5 z6 z7 =>
    s_l05Most_l3 K k z5 z6 z7 kx0))
    else
    s_l05Most_j4 K k v0 v3 v4 (fun z8 z9 z10 =>
    s_l05Most_l3 K k z8 z9 z10 kx0))
    else
    none)
    else
    s_l05Most_j4 K k v0 v3 v4 (fun z11 z12 z13 =>
    s_l05Most_l3 K k z11 z12 z13 kx0))
    else
    none)
    else
    kx0 v3)
noncomputable def s_l05Most (K : Nat) (x : (ByteArray × Unit)) : Option Int :=
    s_l05Most_l3 K K x.1 (-1 : Int) (0 : Int) (fun z14 =>
    some z14)
noncomputable def X0_s_l05Most : Lv := [(3, (.v (.int .i64)))]
noncomputable def rv_s_l05Most : Lv := [(2, (.v (.int .i64)))]
noncomputable def D_s_l05Most (K : Nat) : List (PD (den (.int .i64))) := [.L 3 [(0, (.v .str)), (3, (.v (.int .i64))), (4, (.v (.int .i64)))] [] (fun k x kx kr => s_l05Most_l3 K k x.1 x.2.1 x.2.2.1 (fun z0 => kx 0 (mkSt X0_s_l05Most (z0, ())))),
  .J 6 [(0, (.v .str)), (3, (.v (.int .i64))), (4, (.v (.int .i64)))] [(0, (.v .str)), (3, (.v (.int .i64))), (4, (.v (.int .i64)))] K (fun k x kn kx kr => s_l05Most_j6 K k x.1 x.2.1 x.2.2.1 (fun z0 z1 z2 => kn (z0, z1, z2, ()))),
  .J 4 [(0, (.v .str)), (3, (.v (.int .i64))), (4, (.v (.int .i64)))] [(0, (.v .str)), (3, (.v (.int .i64))), (4, (.v (.int .i64)))] 0 (fun k x kn kx kr => s_l05Most_j4 K k x.1 x.2.1 x.2.2.1 (fun z0 z1 z2 => kn (z0, z1, z2, ())))]
theorem ok_s_l05Most (K : Nat) : FnOk Try.prog 23 (sp_s_l05Most (s_l05Most K)) :=
  fn_okD tysOk [] 0 (D_s_l05Most K) [(0, X0_s_l05Most)] rv_s_l05Most K Try.func23 (by kernel_rfl) ⟨⟨fun _ _ _ _ => by kernel_rfl, fun _ _ _ => rfl⟩, ⟨fun _ _ _ _ _ => by kernel_rfl, ⟨fun _ _ _ _ _ => by kernel_rfl, trivial⟩⟩⟩ (fun _ => by kernel_rfl)
noncomputable def C_s_l05Most (K : Nat) : CB Try.prog := .f _ _ (ok_s_l05Most K)
noncomputable def as_s_l01Constant : Ty := (.pair (.int .i64) (.pair (.int .i64) .unit))
noncomputable def sp_s_l01Constant (F : (Int × Int × Unit) → Option dq0) : FnSpec := ⟨as_s_l01Constant, [false, false], tq0, F⟩
noncomputable def s_l01Constant (K : Nat) (x : (Int × Int × Unit)) : Option dq0 :=
    (s_l01All K (x.1, ())).bind fun y1 =>
    let x2 := ((x.1, ((0 : Int), (0 : Int), ()).2.1, ()).1, (IntKind.i64.wrap (x.2.1 * y1)), ())
    some x2
noncomputable def rv_s_l01Constant : Lv := [(4, (.bx (.v tq0)))]
theorem ok_s_l01Constant (K : Nat) : FnOk Try.prog 47 (sp_s_l01Constant (s_l01Constant K)) :=
  fn_okD tysOk [C_s_l01All K] 0 [] [] rv_s_l01Constant K Try.func47 (by kernel_rfl) trivial (fun _ => by kernel_rfl)
noncomputable def C_s_l01Constant (K : Nat) : CB Try.prog := .f _ _ (ok_s_l01Constant K)
noncomputable def as_s_l01Projection : Ty := (.pair (.int .i64) (.pair (.int .i64) .unit))
noncomputable def sp_s_l01Projection (F : (Int × Int × Unit) → Option dq0) : FnSpec := ⟨as_s_l01Projection, [false, false], tq0, F⟩
noncomputable def s_l01Projection_l3 {R : Type} (K : Nat) : Nat → Int → Int → dq0 → (List Int) → Int → (Int → dq0 → (List Int) → Option R) → Option R
  | 0, _, _, _, _, _, _ => none
  | k + 1, v0, v1, v4, v5, v6, kx0 =>
    (s_l01Rows K (v0, ())).bind fun y2 =>
    (if (decide (v6 < y2)) = true then
    (if (decide ((0 : Int) ≤ (IntKind.u64.wrap v1))) = true then
    let x3 := (bitI .and .i64 (shrI .i64 v6 (IntKind.u64.wrap v1)) (1 : Int))
    (if (decide (v5.length + ([x3]).length ≤ lim)) = true then
    let l4 := (v5 ++ [x3])
    s_l01Projection_l3 K k v0 v1 v4 l4 (IntKind.i64.wrap (v6 + (1 : Int))) kx0
    else
    none)
    else
    none)
    else
    kx0 v0 v4 v5)
noncomputable def s_l01Projection (K : Nat) (x : (Int × Int × Unit)) : Option dq0 :=
    let l1 := ([] : List Int)
    s_l01Projection_l3 K K x.1 x.2.1 ((0 : Int), (0 : Int), ()) l1 (0 : Int) (fun z5 z6 z7 =>
    (s_l01Of K (z5, z7, ())).bind fun y8 =>
    some y8)
noncomputable def X0_s_l01Projection : Lv := [(0, (.v (.int .i64))), (4, (.bx (.v tq0))), (5, (.r (.int .i64)))]
noncomputable def rv_s_l01Projection : Lv := [(4, (.bx (.v tq0)))]
noncomputable def D_s_l01Projection (K : Nat) : List (PD (den tq0)) := [.L 3 [(0, (.v (.int .i64))), (1, (.v (.int .i64))), (4, (.bx (.v tq0))), (5, (.r (.int .i64))), (6, (.v (.int .i64)))] [] (fun k x kx kr => s_l01Projection_l3 K k x.1 x.2.1 x.2.2.1 x.2.2.2.1 x.2.2.2.2.1 (fun z0 z1 z2 => kx 0 (mkSt X0_s_l01Projection (z0, z1, z2, ()))))]
theorem ok_s_l01Projection (K : Nat) : FnOk Try.prog 49 (sp_s_l01Projection (s_l01Projection K)) :=
  fn_okD tysOk [C_s_l01Rows K, C_s_l01Of K] 0 (D_s_l01Projection K) [(0, X0_s_l01Projection)] rv_s_l01Projection K Try.func49 (by kernel_rfl) ⟨⟨fun _ _ _ _ => by kernel_rfl, fun _ _ _ => rfl⟩, trivial⟩ (fun _ => by kernel_rfl)
noncomputable def C_s_l01Projection (K : Nat) : CB Try.prog := .f _ _ (ok_s_l01Projection K)
noncomputable def as_s_l05Parts : Ty := (.pair .str .unit)
noncomputable def sp_s_l05Parts (F : (ByteArray × Unit) → Option (List ByteArray)) : FnSpec := ⟨as_s_l05Parts, [false], (.sl .str), F⟩
noncomputable def s_l05Parts_l2 {R : Type} (K : Nat) : Nat → ByteArray → (List ByteArray) → Int → ((List ByteArray) → Option R) → Option R
  | 0, _, _, _, _ => none
  | k + 1, v0, v3, v4, kx0 =>
    (if (decide (v4 < (v0.size : Int))) = true then
    (s_l05End K K (v0, v4, ())).bind fun y2 =>
    (if (decide (0 ≤ v4) && decide (v4 ≤ y2) && decide (y2 ≤ (v0.size : Int))) = true then
    let l3 := [(v0.extract v4.toNat y2.toNat)]
    (if (decide (v3.length + l3.length ≤ lim)) = true then
    let l4 := (v3 ++ l3)
    s_l05Parts_l2 K k v0 l4 y2 kx0
    else
    none)
    else
    none)
    else
    kx0 v3)
noncomputable def s_l05Parts (K : Nat) (x : (ByteArray × Unit)) : Option (List ByteArray) :=
    let l1 := ([] : List ByteArray)
    s_l05Parts_l2 K K x.1 l1 (1 : Int) (fun z5 =>
    some z5)
noncomputable def X0_s_l05Parts : Lv := [(3, (.r .str))]
noncomputable def rv_s_l05Parts : Lv := [(2, (.r .str))]
noncomputable def D_s_l05Parts (K : Nat) : List (PD (den (.sl .str))) := [.L 2 [(0, (.v .str)), (3, (.r .str)), (4, (.v (.int .i64)))] [] (fun k x kx kr => s_l05Parts_l2 K k x.1 x.2.1 x.2.2.1 (fun z0 => kx 0 (mkSt X0_s_l05Parts (z0, ()))))]
theorem ok_s_l05Parts (K : Nat) : FnOk Try.prog 50 (sp_s_l05Parts (s_l05Parts K)) :=
  fn_okD tysOk [.f _ (sp_s_l05End (s_l05End K K)) (ok_s_l05End K K)] 0 (D_s_l05Parts K) [(0, X0_s_l05Parts)] rv_s_l05Parts K Try.func50 (by kernel_rfl) ⟨⟨fun _ _ _ _ => by kernel_rfl, fun _ _ _ => rfl⟩, trivial⟩ (fun _ => by kernel_rfl)
noncomputable def C_s_l05Parts (K : Nat) : CB Try.prog := .f _ _ (ok_s_l05Parts K)
noncomputable def as_s_l01Put : Ty := (.pair tq0 (.pair (.sl tq0) .unit))
noncomputable def sp_s_l01Put (F : (dq0 × (List dq0) × Unit) → Option dq0) : FnSpec := ⟨as_s_l01Put, [false, false], tq0, F⟩
noncomputable def s_l01Put_l7 {R : Type} (K : Nat) : Nat → (List dq0) → dq0 → dq0 → Int → (List Int) → Int → Int → Int → ((List dq0) → dq0 → dq0 → Int → (List Int) → Int → Int → Option R) → Option R
  | 0, _, _, _, _, _, _, _, _, _ => none
  | k + 1, v1, v2, v4, v5, v6, v7, v8, v9, kx2 =>
    (if (decide (v9 < (v1.length : Int))) = true then
    (if (bnds v9 (v1.length : Int)) = true then
    (s_l01At K ((v1.getD v9.toNat ((0 : Int), (0 : Int), ())), v7, ())).bind fun y3 =>
    (if (decide ((0 : Int) ≤ (IntKind.u64.wrap v9))) = true then
    let x4 := (IntKind.i64.wrap (v8 + (shlI .i64 y3 (IntKind.u64.wrap v9))))
    s_l01Put_l7 K k v1 v2 v4 v5 v6 v7 x4 (IntKind.i64.wrap (v9 + (1 : Int))) kx2
    else
    none)
    else
    none)
    else
    kx2 v1 v2 v4 v5 v6 v7 v8)
noncomputable def s_l01Put_l3 {R : Type} (K : Nat) : Nat → (List dq0) → dq0 → dq0 → Int → (List Int) → Int → (dq0 → Int → (List Int) → Option R) → Option R
  | 0, _, _, _, _, _, _, _ => none
  | k + 1, v1, v2, v4, v5, v6, v7, kx0 =>
    (s_l01Rows K (v5, ())).bind fun y2 =>
    (if (decide (v7 < y2)) = true then
    s_l01Put_l7 K k v1 v2 v4 v5 v6 v7 (0 : Int) (0 : Int) (fun z5 z6 z7 z8 z9 z10 z11 =>
    (s_l01At K (z6, z11, ())).bind fun y12 =>
    (if (decide (z9.length + ([y12]).length ≤ lim)) = true then
    let l13 := (z9 ++ [y12])
    s_l01Put_l3 K k z5 z6 z7 z8 l13 (IntKind.i64.wrap (z10 + (1 : Int))) kx0
    else
    none))
    else
    kx0 v4 v5 v6)
noncomputable def s_l01Put (K : Nat) (x : (dq0 × (List dq0) × Unit)) : Option dq0 :=
    (if (bnds (0 : Int) (x.2.1.length : Int)) = true then
    let l1 := ([] : List Int)
    s_l01Put_l3 K K x.2.1 x.1 ((0 : Int), (0 : Int), ()) ((x.2.1.getD (0 : Int).toNat ((0 : Int), (0 : Int), ())).1) l1 (0 : Int) (fun z14 z15 z16 =>
    (s_l01Of K (z15, z16, ())).bind fun y17 =>
    some y17)
    else
    none)
noncomputable def X0_s_l01Put : Lv := [(4, (.bx (.v tq0))), (5, (.v (.int .i64))), (6, (.r (.int .i64)))]
noncomputable def X2_s_l01Put : Lv := [(1, (.v (.sl tq0))), (2, (.bx (.v tq0))), (4, (.bx (.v tq0))), (5, (.v (.int .i64))), (6, (.r (.int .i64))), (7, (.v (.int .i64))), (8, (.v (.int .i64)))]
noncomputable def rv_s_l01Put : Lv := [(4, (.bx (.v tq0)))]
noncomputable def D_s_l01Put (K : Nat) : List (PD (den tq0)) := [.L 3 [(1, (.v (.sl tq0))), (2, (.bx (.v tq0))), (4, (.bx (.v tq0))), (5, (.v (.int .i64))), (6, (.r (.int .i64))), (7, (.v (.int .i64)))] [] (fun k x kx kr => s_l01Put_l3 K k x.1 x.2.1 x.2.2.1 x.2.2.2.1 x.2.2.2.2.1 x.2.2.2.2.2.1 (fun z0 z1 z2 => kx 0 (mkSt X0_s_l01Put (z0, z1, z2, ())))),
  .L 7 [(1, (.v (.sl tq0))), (2, (.bx (.v tq0))), (4, (.bx (.v tq0))), (5, (.v (.int .i64))), (6, (.r (.int .i64))), (7, (.v (.int .i64))), (8, (.v (.int .i64))), (9, (.v (.int .i64)))] [] (fun k x kx kr => s_l01Put_l7 K k x.1 x.2.1 x.2.2.1 x.2.2.2.1 x.2.2.2.2.1 x.2.2.2.2.2.1 x.2.2.2.2.2.2.1 x.2.2.2.2.2.2.2.1 (fun z0 z1 z2 z3 z4 z5 z6 => kx 2 (mkSt X2_s_l01Put (z0, z1, z2, z3, z4, z5, z6, ()))))]
theorem ok_s_l01Put (K : Nat) : FnOk Try.prog 51 (sp_s_l01Put (s_l01Put K)) :=
  fn_okD tysOk [C_s_l01Rows K, C_s_l01Of K, C_s_l01At K] 0 (D_s_l01Put K) [(0, X0_s_l01Put), (2, X2_s_l01Put)] rv_s_l01Put K Try.func51 (by kernel_rfl) ⟨⟨fun _ _ _ _ => by kernel_rfl, fun _ _ _ => rfl⟩, ⟨⟨fun _ _ _ _ => by kernel_rfl, fun _ _ _ => rfl⟩, trivial⟩⟩ (fun _ => by kernel_rfl)
noncomputable def C_s_l01Put (K : Nat) : CB Try.prog := .f _ _ (ok_s_l01Put K)
noncomputable def as_s_l01Bits : Ty := (.pair (.sl (.int .i64)) .unit)
noncomputable def sp_s_l01Bits (F : ((List Int) × Unit) → Option Bool) : FnSpec := ⟨as_s_l01Bits, [false], .bool, F⟩
noncomputable def s_l01Bits_l2 {R : Type} (K : Nat) : Nat → (List Int) → Int → (Option R) → (Bool → Option R) → Option R
  | 0, _, _, _, _ => none
  | k + 1, v0, v3, kx0, kr =>
    (if (decide (v3 < (v0.length : Int))) = true then
    (if (bnds v3 (v0.length : Int)) = true then
    (s_l01In K ((v0.getD v3.toNat (0 : Int)), (0 : Int), (1 : Int), ())).bind fun y1 =>
    (if (!y1) = true then
    kr false
    else
    s_l01Bits_l2 K k v0 (IntKind.i64.wrap (v3 + (1 : Int))) kx0 kr)
    else
    none)
    else
    kx0)
noncomputable def s_l01Bits (K : Nat) (x : ((List Int) × Unit)) : Option Bool :=
    s_l01Bits_l2 K K x.1 (0 : Int) (some true) (fun z2 =>
    some z2)
noncomputable def X0_s_l01Bits : Lv := []
noncomputable def rv_s_l01Bits : Lv := [(2, (.v .bool))]
noncomputable def D_s_l01Bits (K : Nat) : List (PD (den .bool)) := [.L 2 [(0, (.v (.sl (.int .i64)))), (3, (.v (.int .i64)))] [] (fun k x kx kr => s_l01Bits_l2 K k x.1 x.2.1 (kx 0 (mkSt X0_s_l01Bits ())) (fun z0 => kr (mkSt rv_s_l01Bits (z0, ()))))]
theorem ok_s_l01Bits (K : Nat) : FnOk Try.prog 92 (sp_s_l01Bits (s_l01Bits K)) :=
  fn_okD tysOk [C_s_l01In K] 0 (D_s_l01Bits K) [(0, X0_s_l01Bits)] rv_s_l01Bits K Try.func92 (by kernel_rfl) ⟨⟨fun _ _ _ _ => by kernel_rfl, fun _ _ _ => rfl⟩, trivial⟩ (fun _ => by kernel_rfl)
noncomputable def C_s_l01Bits (K : Nat) : CB Try.prog := .f _ _ (ok_s_l01Bits K)
noncomputable def as_s_l01Read : Ty := (.pair .str .unit)
noncomputable def sp_s_l01Read (F : (ByteArray × Unit) → Option (dq0 × Bool × Unit)) : FnSpec := ⟨as_s_l01Read, [false], (.tup (.pair tq0 (.pair .bool .unit))), F⟩
noncomputable def s_l01Read_l7 {R : Type} (K : Nat) : Nat → ByteArray → dq0 → Int → (List Int) → Int → (dq0 → Int → (List Int) → Option R) → Option R
  | 0, _, _, _, _, _, _ => none
  | k + 1, v0, v2, v4, v5, v6, kx0 =>
    (if (decide (v6 < (v0.size : Int))) = true then
    (if (bnds v6 (v0.size : Int)) = true then
    let x6 := (IntKind.i64.wrap ((IntKind.i64.wrap (byteAt v0 v6)) - (48 : Int)))
    (if (decide (v5.length + ([x6]).length ≤ lim)) = true then
    let l7 := (v5 ++ [x6])
    s_l01Read_l7 K k v0 v2 v4 l7 (IntKind.i64.wrap (v6 + (1 : Int))) kx0
    else
    none)
    else
    none)
    else
    kx0 v2 v4 v5)
noncomputable def s_l01Read_j6 {R : Type} (K : Nat) (k : Nat) (v0 : ByteArray) (v2 : dq0) (v4 : Int) (v5 : (List Int)) (kn : Option R) (kr : (dq0 → Bool → Option R)) : Option R :=
    s_l01Read_l7 K k v0 v2 v4 v5 (2 : Int) (fun z8 z9 z10 =>
    (s_l01Bits K (z10, ())).bind fun y11 =>
    (if (!y11) = true then
    kr ((0 : Int), (0 : Int), ()) false
    else
    (s_l01Of K (z9, z10, ())).bind fun y12 =>
    kr y12 true))
noncomputable def s_l01Read_j3 {R : Type} (K : Nat) (k : Nat) (v0 : ByteArray) (v2 : dq0) (kn : Option R) (kr : (dq0 → Bool → Option R)) : Option R :=
    (if (bnds (0 : Int) (v0.size : Int)) = true then
    let x1 := (IntKind.i64.wrap ((IntKind.i64.wrap (byteAt v0 (0 : Int))) - (48 : Int)))
    let l2 := ([] : List Int)
    (s_l01In K (x1, (0 : Int), (4 : Int), ())).bind fun y3 =>
    (if (!y3) = true then
    kr ((0 : Int), (0 : Int), ()) false
    else
    (s_l01Rows K (x1, ())).bind fun y4 =>
    let x5 := (!decide ((v0.size : Int) = (IntKind.i64.wrap ((2 : Int) + y4))))
    (if x5 = true then
    kr ((0 : Int), (0 : Int), ()) false
    else
    s_l01Read_j6 K k v0 v2 x1 l2 none (fun z13 z14 =>
    kr z13 z14)))
    else
    none)
noncomputable def s_l01Read (K : Nat) (x : (ByteArray × Unit)) : Option (dq0 × Bool × Unit) :=
    (if (decide ((x.1.size : Int) < (3 : Int))) = true then
    some (((0 : Int), (0 : Int), ()), false, ())
    else
    (if (bnds (1 : Int) (x.1.size : Int)) = true then
    (if (!decide ((byteAt x.1 (1 : Int)) = (58 : Int))) = true then
    some (((0 : Int), (0 : Int), ()), false, ())
    else
    s_l01Read_j3 K K x.1 ((0 : Int), (0 : Int), ()) none (fun z15 z16 =>
    some (z15, z16, ())))
    else
    none))
noncomputable def X0_s_l01Read : Lv := [(2, (.bx (.v tq0))), (4, (.v (.int .i64))), (5, (.r (.int .i64)))]
noncomputable def rv_s_l01Read : Lv := [(2, (.bx (.v tq0))), (3, (.v .bool))]
noncomputable def D_s_l01Read (K : Nat) : List (PD (den (.tup (.pair tq0 (.pair .bool .unit))))) := [.J 3 [(0, (.v .str)), (2, (.bx (.v tq0)))] [] 0 (fun k x kn kx kr => s_l01Read_j3 K k x.1 x.2.1 (kn ()) (fun z0 z1 => kr (mkSt rv_s_l01Read (z0, z1, ())))),
  .J 6 [(0, (.v .str)), (2, (.bx (.v tq0))), (4, (.v (.int .i64))), (5, (.r (.int .i64)))] [] 0 (fun k x kn kx kr => s_l01Read_j6 K k x.1 x.2.1 x.2.2.1 x.2.2.2.1 (kn ()) (fun z0 z1 => kr (mkSt rv_s_l01Read (z0, z1, ())))),
  .L 7 [(0, (.v .str)), (2, (.bx (.v tq0))), (4, (.v (.int .i64))), (5, (.r (.int .i64))), (6, (.v (.int .i64)))] [] (fun k x kx kr => s_l01Read_l7 K k x.1 x.2.1 x.2.2.1 x.2.2.2.1 x.2.2.2.2.1 (fun z0 z1 z2 => kx 0 (mkSt X0_s_l01Read (z0, z1, z2, ()))))]
theorem ok_s_l01Read (K : Nat) : FnOk Try.prog 66 (sp_s_l01Read (s_l01Read K)) :=
  fn_okD tysOk [C_s_l01In K, C_s_l01Rows K, C_s_l01Of K, C_s_l01Bits K] 0 (D_s_l01Read K) [(0, X0_s_l01Read)] rv_s_l01Read K Try.func66 (by kernel_rfl) ⟨fun _ _ _ _ _ => by kernel_rfl, ⟨fun _ _ _ _ _ => by kernel_rfl, ⟨⟨fun _ _ _ _ => by kernel_rfl, fun _ _ _ => rfl⟩, trivial⟩⟩⟩ (fun _ => by kernel_rfl)
noncomputable def C_s_l01Read (K : Nat) : CB Try.prog := .f _ _ (ok_s_l01Read K)
noncomputable def as_s_l05Gate : Ty := (.pair (.int .u8) .unit)
noncomputable def sp_s_l05Gate (F : (Int × Unit) → Option dq0) : FnSpec := ⟨as_s_l05Gate, [false], tq0, F⟩
noncomputable def s_l05Gate_l3 {R : Type} (K : Nat) : Nat → Int → dq0 → (List ByteArray) → Int → (dq0 → Option R) → (dq0 → Option R) → Option R
  | 0, _, _, _, _, _, _ => none
  | k + 1, v0, v2, v3, v4, kx0, kr =>
    (if (decide (v4 < (v3.length : Int))) = true then
    (if (bnds v4 ((⟨#[33, 38, 124, 94, 63, 77]⟩ : ByteArray).size : Int)) = true then
    let x2 := (decide ((byteAt (⟨#[33, 38, 124, 94, 63, 77]⟩ : ByteArray) v4) = v0))
    (if x2 = true then
    (if (bnds v4 (v3.length : Int)) = true then
    (s_l01Read K ((v3.getD v4.toNat ByteArray.empty), ())).bind fun y3 =>
    kr y3.1
    else
    none)
    else
    s_l05Gate_l3 K k v0 v2 v3 (IntKind.i64.wrap (v4 + (1 : Int))) kx0 kr)
    else
    none)
    else
    kx0 v2)
noncomputable def s_l05Gate (K : Nat) (x : (Int × Unit)) : Option dq0 :=
    let l1 := [(⟨#[49, 58, 49, 48]⟩ : ByteArray), (⟨#[50, 58, 48, 48, 48, 49]⟩ : ByteArray), (⟨#[50, 58, 48, 49, 49, 49]⟩ : ByteArray), (⟨#[50, 58, 48, 49, 49, 48]⟩ : ByteArray), (⟨#[51, 58, 48, 48, 48, 49, 49, 48, 49, 49]⟩ : ByteArray), (⟨#[51, 58, 48, 48, 48, 49, 48, 49, 49, 49]⟩ : ByteArray)]
    s_l05Gate_l3 K K x.1 ((0 : Int), (0 : Int), ()) l1 (0 : Int) (fun z4 =>
    some ((0 : Int), (0 : Int), ())) (fun z5 =>
    some z5)
noncomputable def X0_s_l05Gate : Lv := [(2, (.bx (.v tq0)))]
noncomputable def rv_s_l05Gate : Lv := [(2, (.bx (.v tq0)))]
noncomputable def D_s_l05Gate (K : Nat) : List (PD (den tq0)) := [.L 3 [(0, (.v (.int .u8))), (2, (.bx (.v tq0))), (3, (.r .str)), (4, (.v (.int .i64)))] [] (fun k x kx kr => s_l05Gate_l3 K k x.1 x.2.1 x.2.2.1 x.2.2.2.1 (fun z0 => kx 0 (mkSt X0_s_l05Gate (z0, ()))) (fun z0 => kr (mkSt rv_s_l05Gate (z0, ()))))]
theorem ok_s_l05Gate (K : Nat) : FnOk Try.prog 52 (sp_s_l05Gate (s_l05Gate K)) :=
  fn_okD tysOk [C_s_l01Read K] 0 (D_s_l05Gate K) [(0, X0_s_l05Gate)] rv_s_l05Gate K Try.func52 (by kernel_rfl) ⟨⟨fun _ _ _ _ => by kernel_rfl, fun _ _ _ => rfl⟩, trivial⟩ (fun _ => by kernel_rfl)
noncomputable def C_s_l05Gate (K : Nat) : CB Try.prog := .f _ _ (ok_s_l05Gate K)
noncomputable def s_l05Func_j3 {R : Type} (K : Nat) (r : (Int × ByteArray × Unit) → Option dq0) (k : Nat) (v0 : Int) (v4 : dq0) (v5 : Int) (kn : Option R) (kr : (dq0 → Option R)) : Option R :=
    gN K ((s_l01Constant K (v0, (IntKind.i64.wrap (IntKind.u8.wrap (v5 - (48 : Int)))), ())).bind fun y1 =>
    kr y1)
noncomputable def s_l05Func_j4 {R : Type} (K : Nat) (r : (Int × ByteArray × Unit) → Option dq0) (k : Nat) (v0 : Int) (v1 : ByteArray) (v4 : dq0) (v5 : Int) (kn : Int → ByteArray → dq0 → Int → Option R) (kr : (dq0 → Option R)) : Option R :=
    gN K ((s_l05Places K (v5, ())).bind fun y4 =>
    (if (decide (y4 = (0 : Int))) = true then
    (s_l01Projection K (v0, (IntKind.i64.wrap (IntKind.u8.wrap (v5 - (97 : Int)))), ())).bind fun y5 =>
    kr y5
    else
    kn v0 v1 v4 v5))
noncomputable def s_l05Func_l8 {R : Type} (K : Nat) (r : (Int × ByteArray × Unit) → Option dq0) : Nat → Int → dq0 → Int → (List ByteArray) → (List dq0) → Int → (dq0 → Int → (List dq0) → Option R) → Option R
  | 0, _, _, _, _, _, _, _ => none
  | k + 1, v0, v4, v5, v6, v7, v8, kx1 =>
    (if (decide (v8 < (v6.length : Int))) = true then
    (if (bnds v8 (v6.length : Int)) = true then
    (r (v0, (v6.getD v8.toNat ByteArray.empty), ())).bind fun y12 =>
    (if (decide (v7.length + ([y12]).length ≤ lim)) = true then
    let l13 := (v7 ++ [y12])
    s_l05Func_l8 K r k v0 v4 v5 v6 l13 (IntKind.i64.wrap (v8 + (1 : Int))) kx1
    else
    none)
    else
    none)
    else
    kx1 v4 v5 v7)
noncomputable def s_l05Func_j6 {R : Type} (K : Nat) (r : (Int × ByteArray × Unit) → Option dq0) (k : Nat) (v0 : Int) (v1 : ByteArray) (v4 : dq0) (v5 : Int) (kn : Option R) (kr : (dq0 → Option R)) : Option R :=
    (s_l05Parts K (v1, ())).bind fun y10 =>
    let l11 := ([] : List dq0)
    s_l05Func_l8 K r k v0 v4 v5 y10 l11 (0 : Int) (fun z14 z15 z16 =>
    (s_l05Gate K (z15, ())).bind fun y17 =>
    (s_l01Put K (y17, z16, ())).bind fun y18 =>
    kr y18)
noncomputable def s_l05Func_b (K : Nat) (r : (Int × ByteArray × Unit) → Option dq0) (x : (Int × ByteArray × Unit)) : Option dq0 :=
    (if (bnds (0 : Int) (x.2.1.size : Int)) = true then
    (if (decide ((byteAt x.2.1 (0 : Int)) = (48 : Int))) = true then
    s_l05Func_j3 K r K x.1 ((0 : Int), (0 : Int), ()) (byteAt x.2.1 (0 : Int)) none (fun z2 =>
    some z2)
    else
    (if (decide ((byteAt x.2.1 (0 : Int)) = (49 : Int))) = true then
    s_l05Func_j3 K r K x.1 ((0 : Int), (0 : Int), ()) (byteAt x.2.1 (0 : Int)) none (fun z3 =>
    some z3)
    else
    s_l05Func_j4 K r K x.1 x.2.1 ((0 : Int), (0 : Int), ()) (byteAt x.2.1 (0 : Int)) (fun z6 z7 z8 z9 =>
    s_l05Func_j6 K r K z6 z7 z8 z9 none (fun z19 =>
    some z19)) (fun z20 =>
    some z20)))
    else
    none)
noncomputable def s_l05Func (K : Nat) : Nat → (Int × ByteArray × Unit) → Option dq0
  | 0 => fun _ => none
  | k + 1 => s_l05Func_b K (s_l05Func K k)
noncomputable def X1_s_l05Func : Lv := [(4, (.bx (.v tq0))), (5, (.v (.int .u8))), (7, (.r tq0))]
noncomputable def rv_s_l05Func : Lv := [(4, (.bx (.v tq0)))]
noncomputable def D_s_l05Func (K : Nat) (r : (Int × ByteArray × Unit) → Option dq0) : List (PD (den tq0)) := [.J 3 [(0, (.v (.int .i64))), (4, (.bx (.v tq0))), (5, (.v (.int .u8)))] [] K (fun k x kn kx kr => s_l05Func_j3 K r k x.1 x.2.1 x.2.2.1 (kn ()) (fun z0 => kr (mkSt rv_s_l05Func (z0, ())))),
  .J 4 [(0, (.v (.int .i64))), (1, (.v .str)), (4, (.bx (.v tq0))), (5, (.v (.int .u8)))] [(0, (.v (.int .i64))), (1, (.v .str)), (4, (.bx (.v tq0))), (5, (.v (.int .u8)))] K (fun k x kn kx kr => s_l05Func_j4 K r k x.1 x.2.1 x.2.2.1 x.2.2.2.1 (fun z0 z1 z2 z3 => kn (z0, z1, z2, z3, ())) (fun z0 => kr (mkSt rv_s_l05Func (z0, ())))),
  .J 6 [(0, (.v (.int .i64))), (1, (.v .str)), (4, (.bx (.v tq0))), (5, (.v (.int .u8)))] [] 0 (fun k x kn kx kr => s_l05Func_j6 K r k x.1 x.2.1 x.2.2.1 x.2.2.2.1 (kn ()) (fun z0 => kr (mkSt rv_s_l05Func (z0, ())))),
  .L 8 [(0, (.v (.int .i64))), (4, (.bx (.v tq0))), (5, (.v (.int .u8))), (6, (.r .str)), (7, (.r tq0)), (8, (.v (.int .i64)))] [] (fun k x kx kr => s_l05Func_l8 K r k x.1 x.2.1 x.2.2.1 x.2.2.2.1 x.2.2.2.2.1 x.2.2.2.2.2.1 (fun z0 z1 z2 => kx 1 (mkSt X1_s_l05Func (z0, z1, z2, ()))))]
theorem okb_s_l05Func (K : Nat) (r : (Int × ByteArray × Unit) → Option dq0) (hr : FnOk Try.prog 24 (sp_s_l05Func r)) : FnOk Try.prog 24 (sp_s_l05Func (s_l05Func_b K r)) :=
  fn_okD tysOk [.f _ (sp_s_l05Func (r)) (hr), C_s_l01Constant K, C_s_l05Places K, C_s_l01Projection K, C_s_l05Parts K, C_s_l01Put K, C_s_l05Gate K] 0 (D_s_l05Func K r) [(1, X1_s_l05Func)] rv_s_l05Func K Try.func24 (by kernel_rfl) ⟨fun _ _ _ _ _ => by kernel_rfl, ⟨fun _ _ _ _ _ => by kernel_rfl, ⟨fun _ _ _ _ _ => by kernel_rfl, ⟨⟨fun _ _ _ _ => by kernel_rfl, fun _ _ _ => rfl⟩, trivial⟩⟩⟩⟩ (fun _ => by kernel_rfl)
theorem ok_s_l05Func (K : Nat) : ∀ k, FnOk Try.prog 24 (sp_s_l05Func (s_l05Func K k))
  | 0 => fnOk_none
  | k + 1 => okb_s_l05Func K (s_l05Func K k) (ok_s_l05Func K k)
noncomputable def as_s_FuncOfFormula : Ty := (.pair (.int .i64) (.pair .str .unit))
noncomputable def sp_s_FuncOfFormula (F : (Int × ByteArray × Unit) → Option (dq0 × Int × Unit)) : FnSpec := ⟨as_s_FuncOfFormula, [false, false], (.tup (.pair tq0 (.pair (.int .i64) .unit))), F⟩
noncomputable def s_FuncOfFormula (K : Nat) (x : (Int × ByteArray × Unit)) : Option (dq0 × Int × Unit) :=
    (s_l05Is K (x.2.1, ())).bind fun y1 =>
    (if (!y1) = true then
    some (((0 : Int), (0 : Int), ()), (6 : Int), ())
    else
    (s_l01In K (x.1, (0 : Int), (4 : Int), ())).bind fun y2 =>
    (if (!y2) = true then
    some (((0 : Int), (0 : Int), ()), (2 : Int), ())
    else
    (s_l05Most K (x.2.1, ())).bind fun y3 =>
    (if (decide (y3 ≥ x.1)) = true then
    some (((0 : Int), (0 : Int), ()), (2 : Int), ())
    else
    (s_l05Func K K (x.1, x.2.1, ())).bind fun y4 =>
    some (y4, (0 : Int), ()))))
noncomputable def rv_s_FuncOfFormula : Lv := [(4, (.bx (.v tq0))), (5, (.v (.int .i64)))]
theorem ok_s_FuncOfFormula (K : Nat) : FnOk Try.prog 5 (sp_s_FuncOfFormula (s_FuncOfFormula K)) :=
  fn_okD tysOk [C_s_l05Is K, C_s_l01In K, C_s_l05Most K, .f _ (sp_s_l05Func (s_l05Func K K)) (ok_s_l05Func K K)] 0 [] [] rv_s_FuncOfFormula K Try.func5 (by kernel_rfl) trivial (fun _ => by kernel_rfl)
noncomputable def C_s_FuncOfFormula (K : Nat) : CB Try.prog := .f _ _ (ok_s_FuncOfFormula K)
end Go.Proofs.Ytefmjjpdflpnaaa.E
