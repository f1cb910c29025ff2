/-
  Contracts by shapes: what they say; reading values by shapes. Conditions: those of each theorem.
-/
import Derived.Test.YtckkagmccbkfbaaCFnIdentities2
namespace Go.Proofs.Ytckkagmccbkfbaa.E
open Go Go.RowKit
set_option linter.unusedVariables false
set_option linter.unusedSimpArgs false
section
variable {C : Cx} {cf : Cfg} {st st' : St} {a : Act} {w w' : World} {G G' : Gh} {us : U}
theorem frz_run (I : InvM C st w G) {S : Nat → Prop} (hS : ∀ b, Fz st G w b → S b) (hSl : ∀ b, S b → b < w.heap.size) : ∀ (n : Nat) (T : Ty) (v : SV) {x : den T} {ts : List (Nat × Nat)} {cs : List Value}, frzS st n T v = some (x, ts) → SX C.P st G w (Fz st G w) v false cs →
    (∀ p ∈ ts, RT st p) ∧ ((∀ p ∈ ts, ∀ b ∈ G.bl (rk p.1), S b) → RX C.P T false w S cs x) ∧ valS v cs = valOf T cs
  | 0, T, v, x, ts, cs, h, hs => by cases h
  | n + 1, T, v, x, ts, cs, h, hs => by
    cases v with
    | val T' x0 =>
      have h : (if h : T' = T then some ((h ▸ x0 : den T), ([] : List (Nat × Nat))) else Option.none) = some (x, ts) := by cases T <;> exact h
      split at h
      case isFalse => cases h
      rename_i e; subst e
      cases h
      exact ⟨fun p hp => (by cases hp), fun _ => RX_congr C.P T' false (Nat.le_refl _) (fun b hb _ => ⟨hS b hb, rfl⟩) hSl hs, rfl⟩
    | nil =>
      cases T <;> try (cases h; done)
      rename_i e
      have h : some (([] : List (den e)), ([] : List (Nat × Nat))) = some (x, ts) := h
      cases h
      have hs : cs = [.slice none 0 0] := hs
      subst hs
      exact ⟨fun p hp => (by cases hp), fun _ => ⟨none, 0, 0, rfl, rfl, Nat.le_refl _, .inl rfl⟩, rfl⟩
    | ref t g e1 =>
      cases T <;> try (cases h; done)
      rename_i e
      have h : (match st (rk t) with
        | .root g' _ e' l => if h : e' = e then bif Nat.beq g g' then some ((h ▸ l : List (den e)), [(t, g)]) else Option.none else Option.none
        | _ => Option.none) = some (x, ts) := h
      split at h
      case h_2 => cases h
      rename_i g' hh e' l hr
      split at h
      case isFalse => cases h
      rename_i e2; subst e2
      cases hb : Nat.beq g g'
      · rw [hb] at h; cases h
      rw [hb] at h
      have hg : g = g' := Nat.eq_of_beq_eq_true hb
      subst hg
      simp only [cond_true, Option.some.injEq, Prod.mk.injEq] at h
      obtain ⟨rfl, rfl⟩ := h
      obtain ⟨xv, rfl, _, _, hx⟩ := hs
      obtain ⟨rfl, _⟩ := hx _ _ _ hr
      exact ⟨fun p hp => by simp only [List.mem_singleton] at hp; subst hp; exact ⟨hh, e', l, hr⟩, fun hb => RX_of_TC C.P (.sl e') (I.rt _ _ _ _ _ hr) (hb (t, g) (by simp)), rfl⟩
    | vw t g lo n0 e0 =>
      cases T <;> try (cases h; done)
      rename_i e
      have h : (match st (rk t) with
        | .root g' _ e' l => if hh : e' = e then bif Nat.beq g g' then some ((hh ▸ sliceL l lo (lo + n0) : List (den e)), [(t, g)]) else Option.none else Option.none
        | _ => Option.none) = some (x, ts) := h
      split at h
      case h_2 => cases h
      rename_i g' hh e' l hr
      split at h
      case isFalse => cases h
      rename_i e2; subst e2
      cases hb : Nat.beq g g'
      · rw [hb] at h; cases h
      rw [hb] at h
      have hg : g = g' := Nat.eq_of_beq_eq_true hb
      subst hg
      simp only [cond_true, Option.some.injEq, Prod.mk.injEq] at h
      obtain ⟨rfl, rfl⟩ := h
      obtain ⟨xv, rfl, _, _, hx⟩ := hs
      obtain ⟨e9, k1, k2, k3, k4⟩ := hx _ _ _ hr
      rw [← e9] at k4
      exact ⟨fun p hp => by simp only [List.mem_singleton] at hp; subst hp; exact ⟨hh, e', l, hr⟩, fun hb => vw_rx (RX_of_TC C.P (.sl e') (I.rt _ _ _ _ _ hr) (hb (t, g) (by simp))) k4 k1 k2 k3, rfl⟩
    | sub t g h0 i fs e1 =>
      cases T <;> try (cases h; done)
      rename_i e
      have h : (match st (rk t) with
        | .root g' h' e' l => bif Nat.beq g g' && Nat.beq h0 h' then asTy (.sl e) (getP fs e' (l.getD i.toNat (dflt e'))) Option.none (fun y => some (y, [(t, g)])) else Option.none
        | _ => Option.none) = some (x, ts) := h
      split at h
      case h_2 => cases h
      rename_i g' hh e' l hr
      cases hb : (Nat.beq g g' && Nat.beq h0 hh)
      · rw [hb] at h; cases h
      rw [hb] at h
      rw [Bool.and_eq_true] at hb
      have hg : g = g' := Nat.eq_of_beq_eq_true hb.1
      have hh2 : h0 = hh := Nat.eq_of_beq_eq_true hb.2
      subst hg; subst hh2
      obtain ⟨xv, rfl, _, _, _, hx⟩ := hs
      obtain ⟨i0, i1, ⟨y0, hy0⟩, b, o, k, c, arr, ty, fz, e1', e2', e3'⟩ := hx _ _ hr
      simp only [cond_true] at h
      rw [hy0] at h
      unfold asTy at h
      split at h
      case isFalse => cases h
      rename_i e2
      have e2 : Ty.sl e1 = Ty.sl e := e2
      injection e2 with e2; subst e2
      cases h
      obtain ⟨b', o', n', c', arr', ty', bi, k1, k2, k3, k4, k5, k6, k7⟩ := root_elem I hr i0 i1
      rw [k1] at e1'; simp only [Value.slice.injEq, Option.some.injEq, Addr.mk.injEq] at e1'
      obtain ⟨⟨rfl, rfl, _⟩, rfl, rfl⟩ := e1'
      rw [k2] at e2'; simp only [Option.some.injEq, Obj.cells.injEq] at e2'
      obtain ⟨rfl, rfl, _⟩ := e2'
      obtain ⟨hty, d1, d2, d3, hbi, m1, m2⟩ := lensP k5 hy0
      have hle := offP_le fs e'
      rw [hty] at hle
      have hle : offP fs e' + 1 ≤ e'.sz := hle
      have hsl : (Ty.sl e1).sz = 1 := rfl
      have hcell : seg (seg arr'.toList (o' + i.toNat * e'.sz) e'.sz) (offP fs e') 1 = [xv] := by
        rw [seg_seg _ hle]; exact seg_one (by simpa using e3')
      rw [hsl, hcell] at m1
      exact ⟨fun p hp => by simp only [List.mem_singleton] at hp; subst hp; exact ⟨h0, e', l, hr⟩, fun hb => RX_of_TC C.P (.sl e1) m1 fun z hz => hb (t, g) (by simp) z (k6 z (by rw [hbi]; simp [hz])), rfl⟩
    | unit =>
      cases T <;> try (cases h; done)
      have h : some ((), ([] : List (Nat × Nat))) = some (x, ts) := h
      cases h
      have hs : cs = [] := hs
      subst hs
      exact ⟨fun p hp => (by cases hp), fun _ => rfl, rfl⟩
    | st a =>
      cases T <;> try (cases h; done)
      rename_i F
      obtain ⟨k1, k2, _⟩ := frz_run I hS hSl n F a (cs := cs) h hs
      exact ⟨k1, k2, rfl⟩
    | pair a b =>
      cases T <;> try (cases h; done)
      rename_i A B
      obtain ⟨c1, c2, rfl, s1, s2⟩ := hs
      have h : (match frzS st n A a with
        | some (x, r) => (match frzS st n B b with
          | some (y, r') => some ((x, y), r ++ r')
          | Option.none => Option.none)
        | Option.none => Option.none) = some (x, ts) := h
      split at h
      case h_2 => cases h
      rename_i x1 r1 h1
      split at h
      case h_2 => cases h
      rename_i x2 r2 h2
      cases h
      obtain ⟨k1, k2, _⟩ := frz_run I hS hSl n A a h1 s1
      obtain ⟨j1, j2, _⟩ := frz_run I hS hSl n B b h2 s2
      exact ⟨fun p hp => (List.mem_append.1 hp).elim (k1 p) (j1 p), fun hb => ⟨c1, c2, rfl, k2 fun p hp => hb p (List.mem_append_left _ hp), j2 fun p hp => hb p (List.mem_append_right _ hp)⟩, rfl⟩
    | tup a => exact hs.elim
    | pel t g i fs => cases T <;> cases h
    | pbx b g fs => cases T <;> cases h
    | pix b g fs i => cases T <;> cases h
    | clo k fi ca => cases T <;> cases h
theorem upds_some : ∀ (u : U) (s : St) (k : Nat), (∃ p ∈ u, p.1 = k) → ∃ p ∈ u, p.1 = k ∧ upds s u k = p.2
  | [], _, _, h => by obtain ⟨p, hp, _⟩ := h; cases hp
  | (j, c) :: r, s, k, h => by
    by_cases hr : ∃ p ∈ r, p.1 = k
    · obtain ⟨p, hp, h1, h2⟩ := upds_some r (upd s j c) k hr
      exact ⟨p, List.mem_cons_of_mem _ hp, h1, h2⟩
    · obtain ⟨p, hp, h1⟩ := h
      rcases List.mem_cons.1 hp with hp | hp
      · subst hp
        have h1 : j = k := h1
        subst h1
        refine ⟨(j, c), List.mem_cons_self, rfl, ?_⟩
        show upds (upd s j c) r j = c
        rw [upds_out r _ _ fun p hp e => hr ⟨p, hp, e⟩, upd_same]
      · exact absurd ⟨p, hp, h1⟩ hr
theorem gone_at {ts : List (Nat × Nat)} (h : ∀ p ∈ ts, RT st p) {p : Nat × Nat} (hp : p ∈ ts) : upds st (goneU ts) (rk p.1) = .gone p.2 := by
  obtain ⟨q, hq, h1, h2⟩ := upds_some (goneU ts) st (rk p.1) ⟨(rk p.1, .gone p.2), List.mem_map.2 ⟨p, hp, rfl⟩, rfl⟩
  obtain ⟨r, hr, rfl⟩ := List.mem_map.1 hq
  have h1 := rk_inj h1
  rw [h2]
  obtain ⟨_, _, _, e1⟩ := h r hr
  obtain ⟨_, _, _, e2⟩ := h p hp
  rw [h1, e2] at e1
  simp only [Cell.root.injEq] at e1
  show Cell.gone r.2 = .gone p.2
  rw [e1.1]
theorem gone_inv (I : Inv C st a w G) {ts : List (Nat × Nat)} (h : ∀ p ∈ ts, RT st p) : Inv C (upds st (goneU ts)) a w G := by
  have hk : ∀ k, k ∈ ts.map (fun p => rk p.1) → ∃ p ∈ ts, k = rk p.1 := fun k hk => by
    obtain ⟨p, hp, rfl⟩ := List.mem_map.1 hk; exact ⟨p, hp, rfl⟩
  have hown : ∀ p ∈ ts, ownB (upds st (goneU ts)) G (rk p.1) = [] := fun p hp => by unfold ownB; rw [gone_at h hp]
  refine Step.inv (K := ts.map fun p => rk p.1) (D := fun _ => False) I { os := rfl, tape := rfl, output := rfl, size := Nat.le_refl _, block := (fun b _ _ => rfl), own := (fun b hb => False.elim hb), s0 := rfl, out := (fun k hk => ⟨goneU_out fun p hp e => hk (List.mem_map.2 ⟨p, hp, e⟩), rfl, rfl, rfl⟩), nosk := (fun i hi => ?_), ks := (fun k hk' => ?_), sub := (fun k hk' b hb => ?_), lt := (fun k hk' b hb => ?_), nd := (fun k hk' => ?_), dj := (fun k hk' k' _ b hb _ => ?_), rt := (fun k hk' g hh e l hr => ?_), bx := (fun k hk' g T v hr => ?_) }
  · obtain ⟨p, _, e⟩ := hk _ hi; exact sk_ne_rk _ _ e
  · obtain ⟨p, hp, rfl⟩ := hk _ hk'
    obtain ⟨hh, e, l, hr⟩ := h p hp
    refine ⟨by rw [gone_at h hp, hr]; exact Nat.le_refl _, fun g' h' e' l' hr' _ => ?_, fun g' T' c' hr' _ => ?_⟩
    · rw [gone_at h hp] at hr'; cases hr'
    · rw [gone_at h hp] at hr'; cases hr'
  · obtain ⟨p, hp, rfl⟩ := hk _ hk'; rw [hown p hp] at hb; cases hb
  · obtain ⟨p, hp, rfl⟩ := hk _ hk'; rw [hown p hp] at hb; cases hb
  · obtain ⟨p, hp, rfl⟩ := hk _ hk'; rw [hown p hp]; exact List.nodup_nil
  · obtain ⟨p, hp, rfl⟩ := hk _ hk'; rw [hown p hp] at hb; cases hb
  · obtain ⟨p, hp, rfl⟩ := hk _ hk'; rw [gone_at h hp] at hr; cases hr
  · obtain ⟨p, hp, rfl⟩ := hk _ hk'; rw [gone_at h hp] at hr; cases hr
theorem fzM_run {α : Type} : ∀ (n : Nat) (T : Ty) (v : SV) {f : den T → List (Nat × Nat) → M α} {u : α}, Rn (fzM n T v f) st u → ∃ x ts, frzS st n T v = some (x, ts) ∧ Rn (f x ts) st u
  | 0, T, v, f, u, h => (Rn_fail.1 h).elim
  | n + 1, T, v, f, u, h => by
    cases v with
    | val T' x0 =>
      have h : Rn (if h : T' = T then f (h ▸ x0) [] else .fail) st u := by cases T <;> exact h
      split at h
      case isFalse => exact (Rn_fail.1 h).elim
      rename_i e; subst e
      refine ⟨x0, [], ?_, h⟩
      show (match T', x0 with | _, _ => frzS st (n + 1) T' (.val T' x0)) = _
      have e2 : frzS st (n + 1) T' (.val T' x0) = if h : T' = T' then some ((h ▸ x0 : den T'), ([] : List (Nat × Nat))) else Option.none := by cases T' <;> rfl
      rw [e2]; simp
    | nil =>
      cases T <;> first | exact ⟨_, _, rfl, h⟩ | exact (Rn_fail.1 h).elim
    | ref t g e0 =>
      cases T <;> try exact (Rn_fail.1 h).elim
      rename_i e
      unfold fzM at h
      rw [Rn_get] at h
      split at h
      case h_2 => exact (Rn_fail.1 h).elim
      rename_i g' h' e' l hr
      split at h
      case isFalse => exact (Rn_fail.1 h).elim
      rename_i ee; subst ee
      rw [Rn_chk] at h
      obtain ⟨hg, h⟩ := h
      refine ⟨l, [(t, g)], ?_, h⟩
      simp only [frzS, hr, hg, dite_true, cond_true]
    | vw t g lo n0 e0 =>
      cases T <;> try exact (Rn_fail.1 h).elim
      rename_i e
      unfold fzM at h
      rw [Rn_get] at h
      split at h
      case h_2 => exact (Rn_fail.1 h).elim
      rename_i g' h' e' l hr
      split at h
      case isFalse => exact (Rn_fail.1 h).elim
      rename_i ee; subst ee
      rw [Rn_chk] at h
      obtain ⟨hg, h⟩ := h
      refine ⟨sliceL l lo (lo + n0), [(t, g)], ?_, h⟩
      simp only [frzS, hr, hg, dite_true, cond_true]
    | sub t g h0 i fs e0 =>
      cases T <;> try exact (Rn_fail.1 h).elim
      rename_i e
      unfold fzM at h
      rw [Rn_get] at h
      split at h
      case h_2 => exact (Rn_fail.1 h).elim
      rename_i g' h' e' l hr
      rw [Rn_chk] at h
      obtain ⟨hg, h⟩ := h
      unfold asTy at h
      split at h
      case isFalse => exact (Rn_fail.1 h).elim
      rename_i ee
      refine ⟨_, [(t, g)], ?_, h⟩
      simp only [frzS, hr, hg, cond_true, asTy, ee, dite_true]
    | unit => cases T <;> first | exact ⟨_, _, rfl, h⟩ | exact (Rn_fail.1 h).elim
    | st a =>
      cases T <;> try exact (Rn_fail.1 h).elim
      rename_i F
      obtain ⟨x, ts, h1, h2⟩ := fzM_run n F a (f := f) h
      exact ⟨x, ts, h1, h2⟩
    | pair a b =>
      cases T <;> try exact (Rn_fail.1 h).elim
      rename_i A B
      obtain ⟨x, ts, h1, h2⟩ := fzM_run n A a (f := fun x r => fzM n B b fun y r' => f (x, y) (r ++ r')) h
      obtain ⟨y, ts', j1, j2⟩ := fzM_run n B b h2
      refine ⟨(x, y), ts ++ ts', ?_, j2⟩
      simp only [frzS, h1, j1]
    | tup a => cases T <;> exact (Rn_fail.1 h).elim
    | pel t g i fs => cases T <;> exact (Rn_fail.1 h).elim
    | pbx b g fs => cases T <;> exact (Rn_fail.1 h).elim
    | pix b g fs i => cases T <;> exact (Rn_fail.1 h).elim
    | clo k fi ca => cases T <;> exact (Rn_fail.1 h).elim
def KS.ids : KS → List (Nat × Nat)
  | .r t g => [(t, g)]
  | .pair a b => a.ids ++ b.ids
  | .st a => a.ids
  | _ => []
/-- Numbers that fit a shape. -/
def KFit : Shp → KS → Prop
  | .v _, .v => True
  | .r _, .r _ _ => True
  | .unit, .unit => True
  | .pair a b, .pair k k' => KFit a k ∧ KFit b k'
  | .st a, .st k => KFit a k
  | _, _ => False
structure RdOk (P : Program) (st : St) (G : Gh) (w : World) (sh : Shp) (v : SV) (cs : List Value) (x : den sh.ty) (k : KS) (gs : List (Nat × Nat)) (od : List Nat) : Prop where
  gone : ∀ p ∈ gs, RT st p
  live : ∀ q ∈ od, ∃ t g h e l, q = rk t ∧ st (rk t) = .root g h e l
  xs : ∀ S : Nat → Prop, (∀ b, Fz st G w b → S b) → (∀ b, S b → b < w.heap.size) → (∀ p ∈ gs, ∀ b ∈ G.bl (rk p.1), S b) → XI P sh w S cs x (od.flatMap (ownB st G))
  val : valS v cs = valOf sh.ty cs
  fit : KFit sh k
  gens : ∀ p ∈ k.ids, (st (rk p.1)).gen < p.2
theorem rdS_run {α : Type} (I : InvM C st w G) : ∀ (sh : Shp) (v : SV) (d : Nat) {f : den sh.ty → KS → List (Nat × Nat) → List Nat → Nat → M α} {u : α} {cs : List Value}, Rn (rdS sh v d f) st u → SX C.P st G w (Fz st G w) v false cs →
    ∃ x k gs od d', Rn (f x k gs od d') st u ∧ RdOk C.P st G w sh v cs x k gs od
  | .v T, v, d, f, u, cs, h, hs => by
    obtain ⟨x, ts, h1, h2⟩ := fzM_run 8 T v (f := fun x gs => f x .v gs [] d) h
    have k1 := fun S hS hSl => frz_run I (S := S) hS hSl 8 T v h1 hs
    obtain ⟨g1, _, g3⟩ := k1 (Fz st G w) (fun _ h => h) (fun _ h => h.1)
    exact ⟨x, .v, ts, [], d, h2, ⟨g1, fun q hq => (by cases hq), fun S hS hSl hg => ⟨rfl, (k1 S hS hSl).2.1 hg⟩, g3, trivial, fun p hp => (by cases hp)⟩⟩
  | .r e, v, d, f, u, cs, h, hs => by
    cases v with
    | ref t g e0 =>
      unfold rdS at h
      rw [Rn_get] at h
      split at h
      case h_2 => exact (Rn_fail.1 h).elim
      rename_i g' h' e' l hr
      split at h
      case isFalse => exact (Rn_fail.1 h).elim
      rename_i ee; subst ee
      rw [Rn_chk] at h
      obtain ⟨hg, h⟩ := h
      have hg := Nat.eq_of_beq_eq_true hg
      subst hg
      obtain ⟨x, c1, c2, c3, c4⟩ := hs
      refine ⟨l, .r t (g + 1), [], [rk t], d, h, ⟨fun p hp => (by cases hp), fun q hq => ?_, fun S _ _ _ => ?_, ?_, trivial, fun p hp => ?_⟩⟩
      · simp only [List.mem_singleton] at hq; exact ⟨t, g, h', e', l, hq, hr⟩
      · have h1 := (c4 _ _ _ hr).1
        have := I.rt _ _ _ _ _ hr
        rw [← h1, ← c1] at this
        show TC (.sl e') w cs l _
        have e2 : [rk t].flatMap (ownB st G) = G.bl (rk t) := by
          rw [List.flatMap_cons, List.flatMap_nil, List.append_nil]; exact root_own ⟨_, _, _, _, hr⟩
        rw [e2]; exact this
      · rfl
      · simp only [KS.ids, List.mem_singleton] at hp; subst hp
        show (st (rk t)).gen < g + 1
        rw [hr]; exact Nat.lt_succ_self _
    | nil =>
      unfold rdS at h
      rw [Rn_get] at h
      have hs : cs = [.slice none 0 0] := hs
      refine ⟨[], .r d ((st (rk d)).gen + 1), [], [], d + 1, h, ⟨fun p hp => (by cases hp), fun q hq => (by cases hq), fun S _ _ _ => .inl ⟨hs, rfl, rfl⟩, rfl, trivial, fun p hp => ?_⟩⟩
      simp only [KS.ids, List.mem_singleton] at hp; subst hp; exact Nat.lt_succ_self _
    | _ => exact (Rn_fail.1 h).elim
  | .bx c, v, d, f, u, cs, h, hs => by
    unfold rdS at h
    exact (Rn_fail.1 h).elim
  | .unit, v, d, f, u, cs, h, hs => by
    cases v with
    | unit =>
      have hs : cs = [] := hs
      exact ⟨(), .unit, [], [], d, h, ⟨fun p hp => (by cases hp), fun q hq => (by cases hq), fun S _ _ _ => ⟨hs, rfl⟩, rfl, trivial, fun p hp => (by cases hp)⟩⟩
    | _ => exact (Rn_fail.1 h).elim
  | .pair a b, v, d, f, u, cs, h, hs => by
    cases v with
    | pair v1 v2 =>
      obtain ⟨c1, c2, rfl, s1, s2⟩ := hs
      obtain ⟨x, k, gs, od, d1, h1, A⟩ := rdS_run I a v1 d (f := fun x k gs od d1 => rdS b v2 d1 fun y k' gs' od' d2 => f (x, y) (.pair k k') (gs ++ gs') (od ++ od') d2) h s1
      obtain ⟨y, k', gs', od', d2, h2, B⟩ := rdS_run I b v2 d1 h1 s2
      refine ⟨(x, y), .pair k k', gs ++ gs', od ++ od', d2, h2, ⟨fun p hp => (List.mem_append.1 hp).elim (A.gone p) (B.gone p), fun q hq => (List.mem_append.1 hq).elim (A.live q) (B.live q), fun S hS hSl hg => ?_, rfl, ⟨A.fit, B.fit⟩, fun p hp => (List.mem_append.1 hp).elim (A.gens p) (B.gens p)⟩⟩
      exact ⟨c1, c2, _, _, rfl, List.flatMap_append, A.xs S hS hSl fun p hp => hg p (List.mem_append_left _ hp), B.xs S hS hSl fun p hp => hg p (List.mem_append_right _ hp)⟩
    | _ => exact (Rn_fail.1 h).elim
  | .st a, v, d, f, u, cs, h, hs => by
    cases v with
    | st v1 =>
      obtain ⟨x, k, gs, od, d1, h1, A⟩ := rdS_run I a v1 d (f := fun x k gs od d' => f x (.st k) gs od d') h (cs := cs) hs
      exact ⟨x, .st k, gs, od, d1, h1, ⟨A.gone, A.live, A.xs, rfl, A.fit, A.gens⟩⟩
    | val T x0 =>
      unfold rdS at h
      split at h
      case h_2 => exact (Rn_fail.1 h).elim
      rename_i v1 hv1
      cases T <;> simp only [stFld, reduceCtorEq] at hv1
      rename_i F
      cases hl : F.isList
      · rw [hl] at hv1; cases hv1
      rw [hl] at hv1
      simp only [cond_true, Option.some.injEq] at hv1
      subst hv1
      have hs : RX C.P F false w (Fz st G w) cs x0 := hs
      obtain ⟨x, k, gs, od, d1, h1, A⟩ := rdS_run I a (expd F x0) d (f := fun x k gs od d' => f x (.st k) gs od d') h (cs := cs) (SX_expd F hl hs).1
      exact ⟨x, .st k, gs, od, d1, h1, ⟨A.gone, A.live, A.xs, rfl, A.fit, A.gens⟩⟩
    | _ => exact (Rn_fail.1 h).elim
end
end Go.Proofs.Ytckkagmccbkfbaa.E
namespace Go.Proofs.Ytckkagmccbkfbaa.E
open Go Go.RowKit
set_option linter.unusedVariables false
set_option linter.unusedSimpArgs false
section
variable {C : Cx} {cf : Cfg} {st st' : St} {a : Act} {w w' : World} {G G' : Gh} {us : U}
/-- Numbers of a list of values: roots are new; a box is new, or it is the old one. -/
def FitL (st : St) (G : Gh) : Lv → List (Nat × Nat × KS) → List Value → Prop
  | [], [], [] => True
  | (_, .bx c) :: l, (b, g, k) :: ks, v :: vs => KFit c k ∧ (∀ p ∈ k.ids, (st (rk p.1)).gen < p.2) ∧ ((st (bk b)).gen < g ∨ ∃ v0, st (bk b) = .box g c.ty v0 ∧ v = .pointer (some ⟨G.bx (bk b), 0, none⟩)) ∧ FitL st G l ks vs
  | (_, sh) :: l, (_, _, k) :: ks, _ :: vs => KFit sh k ∧ (∀ p ∈ k.ids, (st (rk p.1)).gen < p.2) ∧ FitL st G l ks vs
  | _, _, _ => False
structure RlOk (P : Program) (st : St) (G : Gh) (w : World) (l : Lv) (vs : List Value) (x : den l.ty) (ks : List (Nat × Nat × KS)) (gs : List (Nat × Nat)) (od : List Nat) : Prop where
  gone : ∀ p ∈ gs, RT st p
  live : ∀ q ∈ od, (∃ t g h e l, q = rk t ∧ st (rk t) = .root g h e l) ∨ ∃ b g T v, q = bk b ∧ st (bk b) = .box g T v
  xs : ∀ S : Nat → Prop, (∀ b, Fz st G w b → S b) → (∀ b, S b → b < w.heap.size) → (∀ p ∈ gs, ∀ b ∈ G.bl (rk p.1), S b) → XL P l w S vs x (od.flatMap (ownB st G))
  fit : FitL st G l ks vs
theorem box_own {b g : Nat} {T : Ty} {v : SV} (h : st (bk b) = .box g T v) : ownB st G (bk b) = [G.bx (bk b)] := by unfold ownB; rw [h]
theorem rdL_run {α : Type} (I : InvM C st w G) : ∀ (l : Lv) (v : SV) (d : Nat) {f : den l.ty → List (Nat × Nat × KS) → List (Nat × Nat) → List Nat → Nat → M α} {u : α} {vs : List Value}, Rn (rdL l v d f) st u → SX C.P st G w (Fz st G w) v true vs →
    ∃ x ks gs od d', Rn (f x ks gs od d') st u ∧ RlOk C.P st G w l vs x ks gs od
  | [], v, d, f, u, vs, h, hs => by
    cases v with
    | unit =>
      have hs : vs = [] := hs
      subst hs
      exact ⟨(), [], [], [], d, h, ⟨fun p hp => (by cases hp), fun q hq => (by cases hq), fun _ _ _ _ => ⟨rfl, rfl⟩, trivial⟩⟩
    | _ => exact (Rn_fail.1 (by simpa only [rdL] using h)).elim
  | (i, sh) :: l, v, d, f, u, vs, h, hs => by
    cases v with
    | pair v1 v2 =>
      obtain ⟨c, r, rfl, s1, s2⟩ := hs
      have gen : Rn (rdS sh v1 d fun x k gs od d1 => rdL l v2 d1 fun y ks gs' od' d2 => f (x, y) ((0, 0, k) :: ks) (gs ++ gs') (od ++ od') d2) st u → (∀ c', sh ≠ .bx c') → ∃ x ks gs od d', Rn (f x ks gs od d') st u ∧ RlOk C.P st G w ((i, sh) :: l) (valS v1 c :: r) x ks gs od := fun h hsh => by
        obtain ⟨x, k, gs, od, d1, h1, A⟩ := rdS_run I sh v1 d h s1
        obtain ⟨y, ks, gs', od', d2, h2, B⟩ := rdL_run I l v2 d1 h1 s2
        refine ⟨(x, y), (0, 0, k) :: ks, gs ++ gs', od ++ od', d2, h2, ⟨fun p hp => (List.mem_append.1 hp).elim (A.gone p) (B.gone p), fun q hq => (List.mem_append.1 hq).elim (fun h => .inl (A.live q h)) (B.live q), fun S hS hSl hg => ?_, ?_⟩⟩
        · refine ⟨c, r, _, _, by rw [A.val], List.flatMap_append, ?_, B.xs S hS hSl fun p hp => hg p (List.mem_append_right _ hp)⟩
          have := A.xs S hS hSl fun p hp => hg p (List.mem_append_left _ hp)
          cases sh <;> first | exact this | exact absurd rfl (hsh _)
        · cases sh <;> first | exact ⟨A.fit, A.gens, B.fit⟩ | exact absurd rfl (hsh _)
      cases sh with
      | bx c0 =>
        cases v1 with
        | pbx b g fs =>
          cases fs with
          | nil =>
            unfold rdL at h
            rw [Rn_get] at h
            split at h
            case h_2 => exact (Rn_fail.1 h).elim
            rename_i g' B0 v0 hb
            rw [Rn_chk] at h
            obtain ⟨hg, h⟩ := h
            have hg := Nat.eq_of_beq_eq_true hg
            subst hg
            rw [Rn_bif] at h
            rcases h with ⟨hB, h⟩ | ⟨_, h⟩
            case inr => exact (Rn_fail.1 h).elim
            have hB := of_decide_eq_true hB
            subst hB
            obtain ⟨p, c1, c2, c3, c4⟩ := s1
            obtain ⟨b1, arr, ty, b2, b3⟩ := I.bx _ _ _ _ hb
            have hp := c4 _ _ hb
            obtain ⟨x, k, gs, od, d1, h1, A⟩ := rdS_run I c0 v0 d h b3
            obtain ⟨y, ks, gs', od', d2, h2, B⟩ := rdL_run I l v2 d1 h1 s2
            refine ⟨(x, y), (b, g, k) :: ks, gs ++ gs', bk b :: od ++ od', d2, h2, ⟨fun p hp => (List.mem_append.1 hp).elim (A.gone p) (B.gone p), fun q hq => ?_, fun S hS hSl hg => ?_, ?_⟩⟩
            · rcases List.mem_append.1 hq with hq | hq
              · rcases List.mem_cons.1 hq with hq | hq
                · exact .inr ⟨b, g, c0.ty, v0, hq, hb⟩
                · exact .inl (A.live q hq)
              · exact B.live q hq
            · refine ⟨[p], r, [G.bx (bk b)] ++ od.flatMap (ownB st G), _, by rw [c1]; rfl, ?_, ⟨G.bx (bk b), od.flatMap (ownB st G), arr, ty, ?_, rfl, b2, A.xs S hS hSl fun p hp => hg p (List.mem_append_left _ hp)⟩, B.xs S hS hSl fun p hp => hg p (List.mem_append_right _ hp)⟩
              · rw [List.flatMap_append, List.flatMap_cons, box_own hb]
              · rw [hp]; simp [offP]
            · refine ⟨A.fit, A.gens, .inr ⟨v0, hb, ?_⟩, B.fit⟩
              rw [c1]
              show p = _
              rw [hp]; simp [offP]
          | cons n fs => exact (Rn_fail.1 (by simpa only [rdL, rdS] using h)).elim
        | _ => exact (Rn_fail.1 (by simpa only [rdL, rdS] using h)).elim
      | _ => exact gen h (fun _ e => by cases e)
    | _ => exact (Rn_fail.1 (by simpa only [rdL] using h)).elim
theorem FitL_out : ∀ (l : Lv) {ks : List (Nat × Nat × KS)} {vs : List Value}, FitL st G l ks vs → FitL st G (outL l) (outK l ks) (outV l vs)
  | [], [], [], _ => trivial
  | [], [], _ :: _, h => h.elim
  | [], _ :: _, _, h => by simp [FitL] at h
  | (i, sh) :: l, [], vs, h => by cases sh <;> cases vs <;> exact h.elim
  | (i, sh) :: l, k :: ks, [], h => by cases sh <;> exact h.elim
  | (i, sh) :: l, (b, g, k) :: ks, v :: vs, h => by
    cases sh with
    | bx c => exact ⟨h.1, h.2.1, h.2.2.1, FitL_out l h.2.2.2⟩
    | _ => exact FitL_out l h.2.2
def GA (G' : Gh) (ge : List (Nat × Value × List Nat)) : Prop := ∀ q ∈ ge, G'.hd q.1 = q.2.1 ∧ G'.bl q.1 = q.2.2 ∧ G'.bx q.1 = q.2.2.headD 0
/-- A state, a ghost and readable blocks behind the writing of the cells u. -/
structure Inst (u : U) (ge : List (Nat × Value × List Nat)) (S : Nat → Prop) (w : World) (st' : St) (G' : Gh) (S' : Nat → Prop) : Prop where
  st : ∀ p ∈ u, st' p.1 = p.2
  ga : GA G' ge
  sub : ∀ b, S b → S' b
  lt : ∀ b, S' b → b < w.heap.size
theorem Inst.left {u v : U} {ge he : List (Nat × Value × List Nat)} {S S' : Nat → Prop} (h : Inst (u ++ v) (ge ++ he) S w st' G' S') : Inst u ge S w st' G' S' :=
  ⟨fun p hp => h.st p (List.mem_append_left _ hp), fun q hq => h.ga q (List.mem_append_left _ hq), h.sub, h.lt⟩
theorem Inst.right {u v : U} {ge he : List (Nat × Value × List Nat)} {S S' : Nat → Prop} (h : Inst (u ++ v) (ge ++ he) S w st' G' S') : Inst v he S w st' G' S' :=
  ⟨fun p hp => h.st p (List.mem_append_right _ hp), fun q hq => h.ga q (List.mem_append_right _ hq), h.sub, h.lt⟩
theorem Inst.tail {p : Nat × Cell} {u : U} {q : Nat × Value × List Nat} {ge : List (Nat × Value × List Nat)} {S S' : Nat → Prop} (h : Inst (p :: u) (q :: ge) S w st' G' S') : Inst u ge S w st' G' S' :=
  ⟨fun p hp => h.st p (List.mem_cons_of_mem _ hp), fun q hq => h.ga q (List.mem_cons_of_mem _ hq), h.sub, h.lt⟩
def RootC (st : St) (w : World) (p : Nat × Cell) (q : Nat × Value × List Nat) : Prop := ∃ t g e l, p = (rk t, .root g 0 e l) ∧ TC (.sl e) w [q.2.1] l q.2.2 ∧ (st (rk t)).gen < g
def BoxC (P : Program) (st : St) (G : Gh) (w : World) (u : U) (ge : List (Nat × Value × List Nat)) (S : Nat → Prop) (p : Nat × Cell) (q : Nat × Value × List Nat) : Prop :=
  ∃ b g T v blk arr ty, p = (bk b, .box g T v) ∧ q.2.2 = [blk] ∧ v.hasTy T = true ∧ w.heap[blk]? = some (.cells arr ty (0, 0)) ∧ ((st (bk b)).gen < g ∨ ∃ v0, st (bk b) = .box g T v0 ∧ blk = G.bx (bk b)) ∧
    ∀ st' G' S', Inst u ge S w st' G' S' → SX P st' G' w S' v false arr.toList
structure PutOk (P : Program) (st : St) (w : World) (S : Nat → Prop) (sh : Shp) (p : SV × U) (cs : List Value) (bs : List Nat) (ge : List (Nat × Value × List Nat)) : Prop where
  keys : p.2.map (·.1) = ge.map (·.1)
  bls : bs = ge.flatMap (·.2.2)
  cell : ∀ z ∈ p.2, ∃ q ∈ ge, q.1 = z.1 ∧ RootC st w z q
  ty : p.1.hasTy sh.ty = true
  val : valS p.1 cs = valOf sh.ty cs
  sx : ∀ st' G' S', Inst p.2 ge S w st' G' S' → SX P st' G' w S' p.1 false cs
theorem TC_hd {e : Ty} {cs : List Value} {l : List (den e)} {bs : List Nat} (h : TC (.sl e) w cs l bs) : ∃ v, cs = [v] ∧ v.oneCell' = true := by
  rcases h with ⟨rfl, _⟩ | ⟨b, o, n, c, arr, ty, bss, rfl, _⟩ <;> exact ⟨_, rfl, rfl⟩
theorem putS_ok {P : Program} {S : Nat → Prop} (hSw : ∀ b, S b → b < w.heap.size) : ∀ (sh : Shp) (k : KS) (x : den sh.ty) {cs : List Value} {bs : List Nat}, KFit sh k → (∀ p ∈ k.ids, (st (rk p.1)).gen < p.2) → XI P sh w S cs x bs →
    ∃ ge, PutOk P st w S sh (putS sh k x) cs bs ge
  | .v T, k, x, cs, bs, hf, hg, h => by
    obtain ⟨rfl, h⟩ := h
    refine ⟨[], rfl, rfl, fun z hz => (by cases hz), by simp [putS, SV.hasTy, Shp.ty], rfl, fun st' G' S' hi => ?_⟩
    exact RX_congr P T false (Nat.le_refl _) (fun b hb _ => ⟨hi.sub b hb, rfl⟩) hi.lt h
  | .r e, k, x, cs, bs, hf, hg, h => by
    cases k with
    | r t g =>
      have h : TC (.sl e) w cs x bs := h
      obtain ⟨v, rfl, hv⟩ := TC_hd h
      refine ⟨[(rk t, v, bs)], rfl, by simp, fun z hz => ?_, by simp [putS, SV.hasTy, Shp.ty], rfl, fun st' G' S' hi => ?_⟩
      · simp only [putS, List.mem_singleton] at hz
        exact ⟨(rk t, v, bs), by simp, by rw [hz], t, g, e, x, hz, h, hg (t, g) (by simp [KS.ids])⟩
      · have h1 := hi.st (rk t, .root g 0 e x) (by simp [putS])
        have h2 := hi.ga (rk t, v, bs) (by simp)
        have h1 : st' (rk t) = .root g 0 e x := h1
        refine ⟨v, rfl, hv, by rw [h1]; exact Nat.le_refl _, fun h' e' l' hr => ?_⟩
        rw [h1] at hr; cases hr
        exact ⟨h2.1.symm, rfl⟩
    | _ => exact hf.elim
  | .bx c, k, x, cs, bs, hf, hg, h => h.elim
  | .unit, k, x, cs, bs, hf, hg, h => by
    cases k with
    | unit =>
      obtain ⟨rfl, rfl⟩ := h
      exact ⟨[], rfl, rfl, fun z hz => (by cases hz), rfl, rfl, fun st' G' S' hi => rfl⟩
    | _ => exact hf.elim
  | .pair A B, k, x, cs, bs, hf, hg, h => by
    cases k with
    | pair k1 k2 =>
      obtain ⟨c1, c2, b1, b2, rfl, rfl, h1, h2⟩ := h
      obtain ⟨ge, K⟩ := putS_ok hSw A k1 x.1 hf.1 (fun p hp => hg p (List.mem_append_left _ hp)) h1
      obtain ⟨he, L⟩ := putS_ok hSw B k2 x.2 hf.2 (fun p hp => hg p (List.mem_append_right _ hp)) h2
      refine ⟨ge ++ he, ?_, ?_, fun z hz => ?_, ?_, rfl, fun st' G' S' hi => ⟨c1, c2, rfl, K.sx st' G' S' hi.left, L.sx st' G' S' hi.right⟩⟩
      · show ((putS A k1 x.1).2 ++ (putS B k2 x.2).2).map (·.1) = _
        rw [List.map_append, List.map_append, K.keys, L.keys]
      · rw [List.flatMap_append, K.bls, L.bls]
      · rcases List.mem_append.1 hz with hz | hz
        · obtain ⟨q, hq, h⟩ := K.cell z hz; exact ⟨q, List.mem_append_left _ hq, h⟩
        · obtain ⟨q, hq, h⟩ := L.cell z hz; exact ⟨q, List.mem_append_right _ hq, h⟩
      · show ((putS A k1 x.1).1.hasTy A.ty && (putS B k2 x.2).1.hasTy B.ty) = true
        rw [K.ty, L.ty]; rfl
    | _ => exact hf.elim
  | .st A, k, x, cs, bs, hf, hg, h => by
    cases k with
    | st k1 =>
      obtain ⟨ge, K⟩ := putS_ok (P := P) hSw A k1 x hf hg h
      exact ⟨ge, K.keys, K.bls, K.cell, K.ty, rfl, K.sx⟩
    | _ => exact hf.elim
structure PutLOk (P : Program) (st : St) (G : Gh) (w : World) (S : Nat → Prop) (p : SV × U) (vs : List Value) (bs : List Nat) (ge : List (Nat × Value × List Nat)) : Prop where
  keys : p.2.map (·.1) = ge.map (·.1)
  bls : bs = ge.flatMap (·.2.2)
  cell : ∀ z ∈ p.2, ∃ q ∈ ge, q.1 = z.1 ∧ (RootC st w z q ∨ BoxC P st G w p.2 ge S z q)
  sx : ∀ st' G' S', Inst p.2 ge S w st' G' S' → SX P st' G' w S' p.1 true vs
theorem BoxC.mono {P : Program} {S : Nat → Prop} {u u' : U} {ge ge' : List (Nat × Value × List Nat)} {p : Nat × Cell} {q : Nat × Value × List Nat} (h : BoxC P st G w u ge S p q) (hi : ∀ st' G' S', Inst u' ge' S w st' G' S' → Inst u ge S w st' G' S') : BoxC P st G w u' ge' S p q := by
  obtain ⟨b, g, T, v, blk, arr, ty, h1, h2, h3, h4, h5, h6⟩ := h
  exact ⟨b, g, T, v, blk, arr, ty, h1, h2, h3, h4, h5, fun st' G' S' h => h6 st' G' S' (hi st' G' S' h)⟩
theorem putL_ok {P : Program} {S : Nat → Prop} (hSw : ∀ b, S b → b < w.heap.size) : ∀ (l : Lv) (ks : List (Nat × Nat × KS)) (x : den l.ty) {vs : List Value} {bs : List Nat}, FitL st G l ks vs → XL P l w S vs x bs →
    ∃ ge, PutLOk P st G w S (putL l ks x) vs bs ge
  | [], [], x, vs, bs, hf, h => by
    obtain ⟨rfl, rfl⟩ := h
    exact ⟨[], rfl, rfl, fun z hz => (by cases hz), fun _ _ _ _ => rfl⟩
  | [], _ :: _, x, vs, bs, hf, h => by simp [FitL] at hf
  | (i, sh) :: l, [], x, vs, bs, hf, h => by cases sh <;> cases vs <;> exact hf.elim
  | (i, sh) :: l, (b, g, k) :: ks, x, vs, bs, hf, h => by
    obtain ⟨c, r, b1, b2, rfl, rfl, h1, h2⟩ := h
    have gen : (∀ c', sh ≠ .bx c') → KFit sh k → (∀ p ∈ k.ids, (st (rk p.1)).gen < p.2) → FitL st G l ks r → XI P sh w S c x.1 b1 → putL ((i, sh) :: l) ((b, g, k) :: ks) x = (.pair (putS sh k x.1).1 (putL l ks x.2).1, (putS sh k x.1).2 ++ (putL l ks x.2).2) → ∃ ge, PutLOk P st G w S (putL ((i, sh) :: l) ((b, g, k) :: ks) x) (valOf sh.ty c :: r) (b1 ++ b2) ge := fun _ f1 f2 f3 h1 e => by
      obtain ⟨ge, K⟩ := putS_ok hSw sh k x.1 f1 f2 h1
      obtain ⟨he, L⟩ := putL_ok hSw l ks x.2 f3 h2
      rw [e]
      refine ⟨ge ++ he, ?_, ?_, fun z hz => ?_, fun st' G' S' hi => ⟨c, r, by rw [K.val], K.sx st' G' S' hi.left, L.sx st' G' S' hi.right⟩⟩
      · show ((putS sh k x.1).2 ++ (putL l ks x.2).2).map (·.1) = _
        rw [List.map_append, List.map_append, K.keys, L.keys]
      · rw [List.flatMap_append, K.bls, L.bls]
      · rcases List.mem_append.1 hz with hz | hz
        · obtain ⟨q, hq, h1, h2⟩ := K.cell z hz; exact ⟨q, List.mem_append_left _ hq, h1, .inl h2⟩
        · obtain ⟨q, hq, h1, h2⟩ := L.cell z hz
          exact ⟨q, List.mem_append_right _ hq, h1, h2.imp id fun h => h.mono fun _ _ _ h => h.right⟩
    cases sh with
    | bx c0 =>
      obtain ⟨f1, f2, f3, f4⟩ := hf
      obtain ⟨blk, b3, arr, ty, rfl, rfl, h4, h5⟩ := h1
      obtain ⟨ge, K⟩ := putS_ok hSw c0 k x.1 f1 f2 h5
      obtain ⟨he, L⟩ := putL_ok hSw l ks x.2 f4 h2
      have e : putL ((i, .bx c0) :: l) ((b, g, k) :: ks) x = (.pair (.pbx b g []) (putL l ks x.2).1, ((bk b, .box g c0.ty (putS c0 k x.1).1) :: (putS c0 k x.1).2) ++ (putL l ks x.2).2) := rfl
      rw [e]
      let q0 : Nat × Value × List Nat := (bk b, .pointer (some ⟨blk, 0, none⟩), [blk])
      have left : ∀ st' G' S', Inst (((bk b, .box g c0.ty (putS c0 k x.1).1) :: (putS c0 k x.1).2) ++ (putL l ks x.2).2) ((q0 :: ge) ++ he) S w st' G' S' → Inst (putS c0 k x.1).2 ge S w st' G' S' := fun st' G' S' hi => hi.left.tail
      refine ⟨(q0 :: ge) ++ he, ?_, ?_, fun z hz => ?_, fun st' G' S' hi => ⟨[.pointer (some ⟨blk, 0, none⟩)], r, rfl, ?_, L.sx st' G' S' hi.right⟩⟩
      · rw [List.map_append, List.map_append, List.map_cons, List.map_cons, K.keys, L.keys]
      · rw [List.flatMap_append, List.flatMap_cons, K.bls, L.bls]; rfl
      · rcases List.mem_append.1 hz with hz | hz
        · rcases List.mem_cons.1 hz with hz | hz
          · refine ⟨q0, by simp, by rw [hz], .inr ⟨b, g, c0.ty, _, blk, arr, ty, hz, rfl, K.ty, h4, ?_, fun st' G' S' hi => K.sx st' G' S' (left st' G' S' hi)⟩⟩
            rcases f3 with f3 | ⟨v0, f3, f5⟩
            · exact .inl f3
            · refine .inr ⟨v0, f3, ?_⟩
              have : Value.pointer (some ⟨blk, 0, none⟩) = .pointer (some ⟨G.bx (bk b), 0, none⟩) := f5
              simpa using this
          · obtain ⟨q, hq, h1, h2⟩ := K.cell z hz
            exact ⟨q, List.mem_append_left _ (List.mem_cons_of_mem _ hq), h1, .inl h2⟩
        · obtain ⟨q, hq, h1, h2⟩ := L.cell z hz
          exact ⟨q, List.mem_append_right _ hq, h1, h2.imp id fun h => h.mono fun _ _ _ h => h.right⟩
      · have h6 : st' (bk b) = .box g c0.ty (putS c0 k x.1).1 := hi.st (bk b, .box g c0.ty (putS c0 k x.1).1) (by simp)
        have h7 := (hi.ga q0 (by simp)).2.2
        refine ⟨_, rfl, rfl, by rw [h6]; exact Nat.le_refl _, fun T c hb => ?_⟩
        rw [h6] at hb; cases hb
        rw [show G'.bx (bk b) = blk from h7]; simp [offP]
    | v T => exact gen (fun _ e => by cases e) hf.1 hf.2.1 hf.2.2 h1 rfl
    | r T => exact gen (fun _ e => by cases e) hf.1 hf.2.1 hf.2.2 h1 rfl
    | unit => exact gen (fun _ e => by cases e) hf.1 hf.2.1 hf.2.2 h1 rfl
    | pair A B => exact gen (fun _ e => by cases e) hf.1 hf.2.1 hf.2.2 h1 rfl
    | st A => exact gen (fun _ e => by cases e) hf.1 hf.2.1 hf.2.2 h1 rfl
end
end Go.Proofs.Ytckkagmccbkfbaa.E
namespace Go.Proofs.Ytckkagmccbkfbaa.E
open Go Go.RowKit
set_option linter.unusedVariables false
set_option linter.unusedSimpArgs false
section
variable {C : Cx} {cf : Cfg} {dst : Option Tmp} {type : TypeId} {pos : String} {after : Array Edge} {guard : Option (Nat × Bool)} {st : St} {a : Act} {w w' : World} {G : Gh} {us : U}
theorem lkp_mem {β : Type} : ∀ (l : List (Nat × β)) {d : Nat} {o : β}, (l.map (·.1)).Nodup → (d, o) ∈ l → l.lookup d = some o
  | (e, p) :: l, d, o, hn, h => by
    rw [List.map_cons, List.nodup_cons] at hn
    rw [List.lookup_cons]
    rcases List.mem_cons.1 h with h | h
    · simp only [Prod.mk.injEq] at h
      rw [h.1, h.2]; simp
    · have hne : d ≠ e := fun e' => hn.1 (List.mem_map.2 ⟨(d, o), h, e'⟩)
      have : (d == e) = false := by simpa using hne
      rw [this]
      exact lkp_mem l hn.2 h
theorem lkp_none {β : Type} : ∀ (l : List (Nat × β)) {d : Nat}, (∀ q ∈ l, q.1 ≠ d) → l.lookup d = none
  | [], d, h => rfl
  | (e, p) :: l, d, h => by
    rw [List.lookup_cons]
    have : (d == e) = false := by
      have := h (e, p) List.mem_cons_self
      simpa using fun e' => this e'.symm
    rw [this]
    exact lkp_none l fun q hq => h q (List.mem_cons_of_mem _ hq)
theorem flat_nd : ∀ {ge : List (Nat × Value × List Nat)}, (ge.flatMap (·.2.2)).Nodup → ∀ q ∈ ge, q.2.2.Nodup
  | [], _, q, hq => by cases hq
  | p :: ge, h, q, hq => by
    rw [List.flatMap_cons, List.nodup_append] at h
    rcases List.mem_cons.1 hq with e | hq
    · rw [e]; exact h.1
    · exact flat_nd h.2.1 q hq
theorem flat_dj : ∀ {ge : List (Nat × Value × List Nat)}, (ge.flatMap (·.2.2)).Nodup → ∀ q ∈ ge, ∀ q' ∈ ge, ∀ b, b ∈ q.2.2 → b ∈ q'.2.2 → q = q'
  | [], _, q, hq, _, _, _, _, _ => by cases hq
  | p :: ge, h, q, hq, q', hq', b, hb, hb' => by
    rw [List.flatMap_cons, List.nodup_append] at h
    rcases List.mem_cons.1 hq with e | hm <;> rcases List.mem_cons.1 hq' with e' | hm'
    · rw [e, e']
    · subst e; exact absurd rfl (h.2.2 b hb b (List.mem_flatMap.2 ⟨q', hm', hb'⟩))
    · subst e'; exact absurd rfl (h.2.2 b hb' b (List.mem_flatMap.2 ⟨q, hm, hb⟩))
    · exact flat_dj h.2.1 q hm q' hm' b hb hb'
theorem inst_step (I : Inv C st a w G) {u : U} {ge : List (Nat × Value × List Nat)} {S : Nat → Prop} {od : List Nat} (hk : (u.map (·.1)).Nodup) (e1 : u.map (·.1) = ge.map (·.1))
    (cell : ∀ z ∈ u, ∃ q ∈ ge, q.1 = z.1 ∧ (RootC st w' z q ∨ BoxC C.P st G w' u ge S z q)) (hod : ∀ q ∈ od, q ∈ u.map (·.1))
    (bn : (ge.flatMap (·.2.2)).Nodup) (bm : ∀ b ∈ ge.flatMap (·.2.2), (b ∈ od.flatMap (ownB st G) ∨ w.heap.size ≤ b) ∧ b < w'.heap.size)
    (hS : ∀ b, S b → b < w'.heap.size ∧ (Fz st G w b ∨ w.heap.size ≤ b ∨ b ∈ od.flatMap (ownB st G)) ∧ b ∉ ge.flatMap (·.2.2))
    (hos : w'.os = w.os) (hta : w'.tape = w.tape) (hou : w'.output = w.output) (hsz : w.heap.size ≤ w'.heap.size) (hblk : ∀ b, b < w.heap.size → b ∉ od.flatMap (ownB st G) → w'.heap[b]? = w.heap[b]?) :
    ∃ G', Inv C (upds st u) a w' G' ∧ Inst u ge S w' (upds st u) G' (Fz (upds st u) G' w') := by
  have hkg : (ge.map (·.1)).Nodup := e1 ▸ hk
  let G' : Gh := ⟨fun k => match ge.lookup k with | some q => q.1 | none => G.hd k, fun k => match ge.lookup k with | some q => q.2 | none => G.bl k, fun k => match ge.lookup k with | some q => q.2.headD 0 | none => G.bx k, G.s0⟩
  have hga : GA G' ge := fun q hq => by
    have := lkp_mem ge hkg (show (q.1, q.2) ∈ ge from hq)
    refine ⟨?_, ?_, ?_⟩
    · show (match ge.lookup q.1 with | some q => q.1 | none => G.hd q.1) = _; rw [this]
    · show (match ge.lookup q.1 with | some q => q.2 | none => G.bl q.1) = _; rw [this]
    · show (match ge.lookup q.1 with | some q => q.2.headD 0 | none => G.bx q.1) = _; rw [this]
  have hin : ∀ z ∈ u, upds st u z.1 = z.2 := fun z hz => upds_in _ _ hk (by simpa using hz)
  have hout : ∀ k, k ∉ u.map (·.1) → upds st u k = st k := fun k hk => upds_out _ _ _ fun p hp e => hk (List.mem_map.2 ⟨p, hp, e⟩)
  have hG : ∀ k, k ∉ u.map (·.1) → G'.hd k = G.hd k ∧ G'.bl k = G.bl k ∧ G'.bx k = G.bx k := fun k hk => by
    have : ge.lookup k = none := lkp_none ge fun q hq e => hk (by rw [e1]; exact List.mem_map.2 ⟨q, hq, e⟩)
    refine ⟨?_, ?_, ?_⟩
    · show (match ge.lookup k with | some q => q.1 | none => G.hd k) = _; rw [this]
    · show (match ge.lookup k with | some q => q.2 | none => G.bl k) = _; rw [this]
    · show (match ge.lookup k with | some q => q.2.headD 0 | none => G.bx k) = _; rw [this]
  -- who owns what behind the step
  have hown : ∀ z ∈ u, ∃ q ∈ ge, q.1 = z.1 ∧ ownB (upds st u) G' z.1 = q.2.2 := fun z hz => by
    obtain ⟨q, hq, e, h⟩ := cell z hz
    refine ⟨q, hq, e, ?_⟩
    have hz2 := hin z hz
    have g := hga q hq
    rw [e] at g
    unfold ownB
    rw [hz2]
    rcases h with ⟨t, g', e', l, h1, _⟩ | ⟨b, g', T, v, blk, arr, ty, h1, h2, _⟩
    · rw [h1]; rw [h1] at g; exact g.2.1
    · rw [h1]; rw [h1] at g
      show [G'.bx (bk b)] = _
      rw [g.2.2, h2]; rfl
  have hmem : ∀ k ∈ u.map (·.1), ∃ z ∈ u, z.1 = k := fun k hk => by
    obtain ⟨z, hz, e⟩ := List.mem_map.1 hk; exact ⟨z, hz, e⟩
  have hnosk : ∀ i, sk i ∉ u.map (·.1) := fun i hi => by
    obtain ⟨z, hz, e⟩ := hmem _ hi
    obtain ⟨q, hq, _, h⟩ := cell z hz
    rcases h with ⟨t, g', e', l, h1, _⟩ | ⟨b, g', T, v, blk, arr, ty, h1, _⟩
    · rw [h1] at e; exact sk_ne_rk _ _ e.symm
    · rw [h1] at e; exact sk_ne_bk _ _ e.symm
  have h0 : Step0 st G w (upds st u) G' w' (u.map (·.1)) (fun b => b ∈ od.flatMap (ownB st G)) := {
    s0 := rfl
    os := hos, tape := hta, output := hou, size := hsz, block := hblk
    own := fun b hb => by
      obtain ⟨q, hq, hb⟩ := List.mem_flatMap.1 hb
      exact ⟨q, hod q hq, hb⟩
    out := fun k hk => ⟨hout k hk, hG k hk⟩
    nosk := hnosk
    ks := fun k hk => by
      obtain ⟨z, hz, rfl⟩ := hmem k hk
      obtain ⟨q, hq, e, h⟩ := cell z hz
      have hz2 := hin z hz
      have g := hga q hq
      rw [e] at g
      rcases h with ⟨t, g', e', l, h1, _, h3⟩ | ⟨b, g', T, v, blk, arr, ty, h1, h2, _, _, h5, _⟩
      · rw [h1] at hz2 ⊢
        refine ⟨by rw [hz2]; exact Nat.le_of_lt h3, fun g1 h e l hr hg => ?_, fun g1 T1 c hr _ => ?_⟩
        · rw [hz2] at hr; cases hr; exact absurd h3 (Nat.not_lt.2 hg)
        · rw [hz2] at hr; cases hr
      · rw [h1] at hz2 g ⊢
        refine ⟨?_, fun g1 h e l hr hg => ?_, fun g1 T1 c hr hg => ?_⟩
        · rw [hz2]
          rcases h5 with h5 | ⟨v0, h5, _⟩
          · exact Nat.le_of_lt h5
          · rw [h5]; exact Nat.le_refl _
        · rw [hz2] at hr; cases hr
        · rw [hz2] at hr; cases hr
          rcases h5 with h5 | ⟨v0, h5, h6⟩
          · exact absurd h5 (Nat.not_lt.2 hg)
          · exact ⟨v0, h5, by rw [g.2.2, h2, h6]; rfl⟩
    sub := fun k hk b hb => by
      obtain ⟨z, hz, rfl⟩ := hmem k hk
      obtain ⟨q, hq, e, ho⟩ := hown z hz
      rw [ho] at hb
      rcases (bm b (List.mem_flatMap.2 ⟨q, hq, hb⟩)).1 with h | h
      · obtain ⟨k', hk', hb'⟩ := List.mem_flatMap.1 h
        exact .inl ⟨k', hod k' hk', hb'⟩
      · exact .inr h
    lt := fun k hk b hb => by
      obtain ⟨z, hz, rfl⟩ := hmem k hk
      obtain ⟨q, hq, e, ho⟩ := hown z hz
      rw [ho] at hb
      exact (bm b (List.mem_flatMap.2 ⟨q, hq, hb⟩)).2
    nd := fun k hk => by
      obtain ⟨z, hz, rfl⟩ := hmem k hk
      obtain ⟨q, hq, e, ho⟩ := hown z hz
      rw [ho]; exact flat_nd bn q hq
    dj := fun k hk k' hk' b hb hb' => by
      obtain ⟨z, hz, rfl⟩ := hmem k hk
      obtain ⟨z', hz', rfl⟩ := hmem k' hk'
      obtain ⟨q, hq, e, ho⟩ := hown z hz
      obtain ⟨q', hq', e', ho'⟩ := hown z' hz'
      rw [ho] at hb; rw [ho'] at hb'
      rw [← e, ← e', flat_dj bn q hq q' hq' b hb hb'] }
  have hfz : ∀ b, S b → Fz (upds st u) G' w' b := fun b hb => by
    obtain ⟨h1, h2, h3⟩ := hS b hb
    refine ⟨h1, fun k hkb => ?_, ?_⟩
    · by_cases hku : k ∈ u.map (·.1)
      · obtain ⟨z, hz, rfl⟩ := hmem k hku
        obtain ⟨q, hq, e, ho⟩ := hown z hz
        rw [ho] at hkb
        exact h3 (List.mem_flatMap.2 ⟨q, hq, hkb⟩)
      · rw [h0.ownB_out hku] at hkb
        rcases h2 with h2 | h2 | h2
        · exact h2.2.1 k hkb
        · have := (I.lt k b hkb).1; omega
        · obtain ⟨k', hk', hb'⟩ := List.mem_flatMap.1 h2
          have := I.dj _ _ _ hkb hb'
          subst this
          exact hku (hod _ hk')
    · show G.s0 b
      rcases h2 with h2 | h2 | h2
      · exact h2.2.2
      · exact I.m0 b (.inl (Nat.le_trans I.size h2))
      · obtain ⟨k', hk', hb'⟩ := List.mem_flatMap.1 h2
        exact I.m0 b (I.lt _ _ hb').2
  have hinst : Inst u ge S w' (upds st u) G' (Fz (upds st u) G' w') := ⟨hin, hga, hfz, fun b hb => hb.1⟩
  refine ⟨G', Step.inv I { toStep0 := h0, rt := fun k hk g h e l hr => ?_, bx := fun k hk g T v hr => ?_ }, hinst⟩
  · obtain ⟨z, hz, rfl⟩ := hmem k hk
    obtain ⟨q, hq, e', hc⟩ := cell z hz
    have hz2 := hin z hz
    have gg := hga q hq
    rw [e'] at gg
    rw [hz2] at hr
    rcases hc with ⟨t, g', e2, l2, h1, h2, _⟩ | ⟨b, g', T, v, blk, arr, ty, h1, _⟩
    · rw [h1] at hr; cases hr
      rw [gg.1, gg.2.1]; exact h2
    · rw [h1] at hr; cases hr
  · obtain ⟨z, hz, rfl⟩ := hmem k hk
    obtain ⟨q, hq, e', hc⟩ := cell z hz
    have hz2 := hin z hz
    have gg := hga q hq
    rw [e'] at gg
    rw [hz2] at hr
    rcases hc with ⟨t, g', e2, l2, h1, _⟩ | ⟨b, g', T', v', blk, arr, ty, h1, h2, h3, h4, h5, h6⟩
    · rw [h1] at hr; cases hr
    · rw [h1] at hr; cases hr
      refine ⟨h3, arr, ty, ?_, h6 _ _ _ hinst⟩
      rw [gg.2.2, h2]; exact h4
/-! the call -/
theorem gone_gen {gs : List (Nat × Nat)} (h : ∀ p ∈ gs, RT st p) (k : Nat) : (upds st (goneU gs) k).gen = (st k).gen := by
  by_cases hk : ∃ p ∈ gs, rk p.1 = k
  · obtain ⟨p, hp, rfl⟩ := hk
    rw [gone_at h hp]
    obtain ⟨h', e, l, hr⟩ := h p hp
    rw [hr]; rfl
  · rw [goneU_out fun p hp e => hk ⟨p, hp, e⟩]
theorem FitL_gone {gs : List (Nat × Nat)} (h : ∀ p ∈ gs, RT st p) : ∀ (l : Lv) {ks : List (Nat × Nat × KS)} {vs : List Value}, FitL st G l ks vs → FitL (upds st (goneU gs)) G l ks vs
  | [], [], [], _ => trivial
  | [], [], _ :: _, h => h.elim
  | [], _ :: _, _, h => by simp [FitL] at h
  | (i, sh) :: l, [], vs, h => by cases sh <;> cases vs <;> exact h.elim
  | (i, sh) :: l, k :: ks, [], h => by cases sh <;> exact h.elim
  | (i, sh) :: l, (b, g, k) :: ks, v :: vs, hf => by
    have hb : upds st (goneU gs) (bk b) = st (bk b) := goneU_out fun p hp e => rk_ne_bk _ _ e
    cases sh with
    | bx c => exact ⟨hf.1, fun p hp => by rw [gone_gen h]; exact hf.2.1 p hp, by rw [hb]; exact hf.2.2.1, FitL_gone h l hf.2.2.2⟩
    | _ => exact ⟨hf.1, fun p hp => by rw [gone_gen h]; exact hf.2.1 p hp, FitL_gone h l hf.2.2⟩
theorem newS_run {α : Type} {u : α} : ∀ (sh : Shp) (d : Nat) {f : KS → Nat → M α}, Rn (newS sh d f) st u → ∃ k d', Rn (f k d') st u ∧ KFit sh k ∧ ∀ p ∈ k.ids, (st (rk p.1)).gen < p.2
  | .v T, d, f, h => ⟨.v, d, h, trivial, fun p hp => (by cases hp)⟩
  | .r e, d, f, h => by
    unfold newS at h
    rw [Rn_get] at h
    exact ⟨_, _, h, trivial, fun p hp => by simp only [KS.ids, List.mem_singleton] at hp; subst hp; exact Nat.lt_succ_self _⟩
  | .unit, d, f, h => ⟨.unit, d, h, trivial, fun p hp => (by cases hp)⟩
  | .bx c, d, f, h => (Rn_fail.1 h).elim
  | .st A, d, f, h => by
    obtain ⟨k, d', h1, h2, h3⟩ := newS_run A d (f := fun k d' => f (.st k) d') h
    exact ⟨.st k, d', h1, h2, h3⟩
  | .pair A B, d, f, h => by
    obtain ⟨k, d1, h1, h2, h3⟩ := newS_run A d (f := fun k d1 => newS B d1 fun k' d2 => f (.pair k k') d2) h
    obtain ⟨k', d2, j1, j2, j3⟩ := newS_run B d1 h1
    exact ⟨.pair k k', d2, j1, ⟨h2, j2⟩, fun p hp => (List.mem_append.1 hp).elim (h3 p) (j3 p)⟩
theorem newL_run {α : Type} {u : α} : ∀ (l : Lv) (d : Nat) {f : List (Nat × Nat × KS) → Nat → M α}, Rn (newL l d f) st u → ∃ ks d', Rn (f ks d') st u ∧ ∀ vs : List Value, vs.length = l.length → FitL st G l ks vs
  | [], d, f, h => ⟨[], d, h, fun vs hv => by rw [List.length_eq_zero_iff.1 hv]; trivial⟩
  | (i, sh) :: l, d, f, h => by
    have gen : (∀ c, sh ≠ .bx c) → Rn (newS sh d fun k d1 => newL l d1 fun ks d2 => f ((0, 0, k) :: ks) d2) st u → ∃ ks d', Rn (f ks d') st u ∧ ∀ vs : List Value, vs.length = ((i, sh) :: l).length → FitL st G ((i, sh) :: l) ks vs := fun hs h => by
      obtain ⟨k, d1, h1, h2, h3⟩ := newS_run sh d h
      obtain ⟨ks, d2, j1, j2⟩ := newL_run l d1 h1
      refine ⟨_, d2, j1, fun vs hv => ?_⟩
      cases vs with
      | nil => simp at hv
      | cons v vs =>
        have := j2 vs (by simpa using hv)
        cases sh <;> first | exact ⟨h2, h3, this⟩ | exact absurd rfl (hs _)
    cases sh with
    | bx c =>
      unfold newL at h
      rw [Rn_get] at h
      obtain ⟨k, d1, h1, h2, h3⟩ := newS_run c (d + 1) h
      obtain ⟨ks, d2, j1, j2⟩ := newL_run l d1 h1
      refine ⟨_, d2, j1, fun vs hv => ?_⟩
      cases vs with
      | nil => simp at hv
      | cons v vs => exact ⟨h2, h3, .inl (Nat.lt_succ_self _), j2 vs (by simpa using hv)⟩
    | _ => exact gen (fun _ e => by cases e) h
theorem XL_len {P : Program} {S : Nat → Prop} : ∀ (l : Lv) {vs : List Value} {x : den l.ty} {bs : List Nat}, XL P l w S vs x bs → vs.length = l.length
  | [], vs, x, bs, h => by rw [h.1]; rfl
  | (i, sh) :: l, vs, x, bs, h => by
    obtain ⟨c, r, b1, b2, rfl, _, _, h2⟩ := h
    rw [List.length_cons, List.length_cons, XL_len l h2]
theorem flat_cg {α β : Type} {f g : α → List β} : ∀ (l : List α), (∀ x ∈ l, f x = g x) → l.flatMap f = l.flatMap g
  | [], _ => rfl
  | a :: l, h => by rw [List.flatMap_cons, List.flatMap_cons, h a List.mem_cons_self, flat_cg l fun x hx => h x (List.mem_cons_of_mem _ hx)]
theorem own_nd (I : InvM C st w G) : ∀ (od : List Nat), od.Nodup → (od.flatMap (ownB st G)).Nodup
  | [], _ => List.nodup_nil
  | k :: od, h => by
    rw [List.nodup_cons] at h
    rw [List.flatMap_cons, List.nodup_append]
    refine ⟨I.nd k, own_nd I od h.2, fun b hb b' hb' e => ?_⟩
    subst e
    obtain ⟨k', hk', hb'⟩ := List.mem_flatMap.1 hb'
    have := I.dj _ _ _ hb hb'
    subst this
    exact h.1 hk'
theorem upds_app : ∀ (u v : U) (s : St), upds s (u ++ v) = upds (upds s u) v
  | [], _, _ => rfl
  | (k, c) :: u, v, s => upds_app u v (upd s k c)
theorem ret_sw {P : Program} {S : Nat → Prop} {v : SV} {rs : List Value} (h : SX P st G w S v true rs) : SW P st G w S (retSV v) (retV rs) := by
  cases v with
  | unit =>
    have h : rs = [] := h
    subst h
    exact ⟨[], rfl, rfl⟩
  | pair a b =>
    obtain ⟨c, r, rfl, h1, h2⟩ := h
    cases b with
    | unit =>
      have h2 : r = [] := h2
      subst h2
      show SW P st G w S a (valS a c)
      cases a <;> first | exact ⟨c, rfl, h1⟩ | exact h1.elim
    | pair b1 b2 =>
      obtain ⟨c2, r2, rfl, h3, h4⟩ := h2
      refine ⟨valS a c :: valS b1 c2 :: r2, ?_, ⟨c, _, rfl, h1, c2, r2, rfl, h3, h4⟩⟩
      show retV _ = _
      unfold retV
      rw [dif_neg (by simp)]
    | _ => exact h2.elim
  | _ => exact h.elim
theorem snd_callShape (O : CfgOk C cf) {g : FuncId} {args : Array Operand} {tys : Array TypeId} {sp : ShSpec} (hfn : cf.fn g = none) (hfs : cf.fs g = some sp) : Snd C cf ⟨dst, .call ⟨.value (.func g), args, tys⟩, type, pos, after, guard⟩ := by
  intro st a w G us next Q I h hn
  simp only [exec, hfn, hfs] at h
  obtain ⟨v, hv, h⟩ := opds_run I h
  unfold callS at h
  obtain ⟨x, ks, gs, od, d1, h, A⟩ := rdL_run I.toInvM sp.ps v _ h hv
  rw [Rn_call] at h
  obtain ⟨y, hy, h⟩ := h
  obtain ⟨kr, d2, h, hfit⟩ := newL_run sp.rl d1 h
  simp only at h
  rw [Rn_bif] at h
  rcases h with ⟨hb, h⟩ | ⟨_, h⟩
  case inr => exact (Rn_fail.1 h).elim
  simp only [Bool.and_eq_true, nodupB_iff] at hb
  obtain ⟨⟨⟨⟨⟨hnd, hod⟩, hcov⟩, _⟩, _⟩, _⟩ := hb
  have I1 := gone_inv I A.gone
  obtain ⟨hodn, _, hodg⟩ := List.nodup_append.1 hod
  have hsame : ∀ q ∈ od, upds st (goneU gs) q = st q := fun q hq => goneU_out fun p hp e => hodg q hq (rk p.1) (List.mem_map.2 ⟨p, hp, rfl⟩) e.symm
  have hown : ∀ q ∈ od, ownB (upds st (goneU gs)) G q = ownB st G q := fun q hq => by unfold ownB; rw [hsame q hq]
  have hfm : od.flatMap (ownB (upds st (goneU gs)) G) = od.flatMap (ownB st G) := flat_cg od hown
  have sub : ∀ k b, b ∈ ownB (upds st (goneU gs)) G k → b ∈ ownB st G k ∧ ∀ p ∈ gs, k ≠ rk p.1 := fun k b hb => by
    have hne : ∀ p ∈ gs, k ≠ rk p.1 := fun p hp e => by
      subst e
      unfold ownB at hb; rw [gone_at A.gone hp] at hb; cases hb
    refine ⟨?_, hne⟩
    unfold ownB at hb ⊢
    rw [goneU_out fun p hp e => hne p hp e.symm] at hb
    exact hb
  have hS1 : ∀ b, Fz st G w b → Fz (upds st (goneU gs)) G w b := fun b hb => ⟨hb.1, fun k hk => hb.2.1 k (sub k b hk).1, hb.2.2⟩
  have hS2 : ∀ p ∈ gs, ∀ b ∈ G.bl (rk p.1), Fz (upds st (goneU gs)) G w b := fun p hp b hb => by
    have ho : b ∈ ownB st G (rk p.1) := by rw [own_of_RT (A.gone p hp)]; exact hb
    refine ⟨(I.lt _ _ ho).1, fun k hk => ?_, I.m0 _ (I.lt _ _ ho).2⟩
    obtain ⟨h1, h2⟩ := sub k b hk
    exact h2 p hp (I.dj _ _ _ h1 ho)
  have hX := A.xs (Fz (upds st (goneU gs)) G w) hS1 (fun b h => h.1) hS2
  have hcf := O.fs g sp hfs w _ x y.1 y.2 _ _ hX (own_nd I.toInvM od hodn) (fun b hb => ⟨hb.1, fun hbs => by
    obtain ⟨q, hq, hbq⟩ := List.mem_flatMap.1 hbs
    exact hb.2.1 q (by rw [hown q hq]; exact hbq)⟩) (fun b hb => by
    obtain ⟨q, hq, hbq⟩ := List.mem_flatMap.1 hb
    exact (I.lt _ _ hbq).1) hy
  unfold Oper.wp
  rw [call_run (g := g) (fi := #[]) (ca := #[]) rfl]
  have e : #[] ++ args.map a.eval ++ #[] = (args.toList.map a.eval).toArray := by
    rw [← Array.toList_map]
    show _ = args.map a.eval
    rw [Array.append_empty, Array.empty_append]
  rw [e]
  refine hcf _ a next Q fun v' w' hr => ?_
  obtain ⟨rs, bsr, bso, rfl, hR, hO, hnd2, hm⟩ := hr.ex
  obtain ⟨ge1, P1⟩ := putL_ok (st := upds st (goneU gs)) (G := G) (fun b h => h.1) sp.rl kr y.1 (FitL_gone A.gone _ (hfit rs (XL_len _ hR))) hR
  obtain ⟨ge2, P2⟩ := putL_ok (st := upds st (goneU gs)) (G := G) (fun b h => h.1) (outL sp.ps) (outK sp.ps ks) y.2 (FitL_out _ (FitL_gone A.gone _ A.fit)) hO
  have hbl : (ge1 ++ ge2).flatMap (·.2.2) = bsr ++ bso := by rw [List.flatMap_append, ← P1.bls, ← P2.bls]
  obtain ⟨G', I', hi⟩ := inst_step I1 (u := (putL sp.rl kr y.1).2 ++ (putL (outL sp.ps) (outK sp.ps ks) y.2).2) (ge := ge1 ++ ge2) (w' := w') (od := od) (S := fun b => b < w'.heap.size ∧ (Fz (upds st (goneU gs)) G w b ∨ w.heap.size ≤ b ∨ b ∈ od.flatMap (ownB st G)) ∧ b ∉ bsr ++ bso) hnd
    (by rw [List.map_append, List.map_append, P1.keys, P2.keys])
    (fun z hz => by
      rcases List.mem_append.1 hz with hz | hz
      · obtain ⟨q, hq, h1, h2⟩ := P1.cell z hz
        exact ⟨q, List.mem_append_left _ hq, h1, h2.imp id fun h => h.mono fun _ _ _ h => h.left⟩
      · obtain ⟨q, hq, h1, h2⟩ := P2.cell z hz
        exact ⟨q, List.mem_append_right _ hq, h1, h2.imp id fun h => h.mono fun _ _ _ h => h.right⟩)
    (fun q hq => by
      have := List.all_eq_true.1 hcov q hq
      obtain ⟨k, hk, e⟩ := List.any_eq_true.1 this
      have e := Nat.eq_of_beq_eq_true e
      subst e
      rw [List.map_append]; exact List.mem_append_right _ hk)
    (by rw [hbl]; exact hnd2) (fun b hb => by rw [hbl] at hb; rw [hfm]; exact hm b hb) (fun b hb => by rw [hbl, hfm]; exact hb)
    hr.os hr.tape hr.output hr.size (fun b hb hn => hr.block b hb (by rw [← hfm]; exact hn))
  have hus : upds st (goneU gs ++ ((putL sp.rl kr y.1).2 ++ (putL (outL sp.ps) (outK sp.ps ks) y.2).2)) = upds (upds st (goneU gs)) ((putL sp.rl kr y.1).2 ++ (putL (outL sp.ps) (outK sp.ps ks) y.2).2) := upds_app _ _ _
  refine hn _ _ G' (wr_sound O h (by rw [hus]; exact I') (fun p hp i e => ?_) (by rw [hus]; exact ret_sw (P1.sx _ _ _ hi.left)))
  rcases List.mem_append.1 hp with hp | hp
  · obtain ⟨q, _, rfl⟩ := List.mem_map.1 hp
    exact sk_ne_rk i q.1 e.symm
  · have key : ∀ z ∈ (putL sp.rl kr y.1).2 ++ (putL (outL sp.ps) (outK sp.ps ks) y.2).2, ∀ i, z.1 ≠ sk i := fun z hz i e => by
      have : ∃ q, RootC (upds st (goneU gs)) w' z q ∨ ∃ u ge S, BoxC C.P (upds st (goneU gs)) G w' u ge S z q := by
        rcases List.mem_append.1 hz with hz | hz
        · obtain ⟨q, _, _, h⟩ := P1.cell z hz; exact ⟨q, h.imp id fun h => ⟨_, _, _, h⟩⟩
        · obtain ⟨q, _, _, h⟩ := P2.cell z hz; exact ⟨q, h.imp id fun h => ⟨_, _, _, h⟩⟩
      obtain ⟨q, ⟨t, _, _, _, h1, _⟩ | ⟨_, _, _, b, _, _, _, _, _, _, h1, _⟩⟩ := this
      · rw [h1] at e; exact sk_ne_rk _ _ e.symm
      · rw [h1] at e; exact sk_ne_bk _ _ e.symm
    exact key p hp i e
end
end Go.Proofs.Ytckkagmccbkfbaa.E
namespace Go.Proofs.Ytckkagmccbkfbaa.E
open Go Go.RowKit
set_option linter.unusedVariables false
set_option linter.unusedSimpArgs false
section
variable {C : Cx} {cf : Cfg} {dst : Option Tmp} {type : TypeId} {pos : String} {after : Array Edge} {guard : Option (Nat × Bool)} {st : St} {a : Act} {w w' : World} {G : Gh} {us : U}
theorem copyL_len {α : Type} {l l2 : List α} {lo m : Nat} (h : lo + m ≤ l.length) : (copyL l l2 lo m).length = l.length := by
  simp only [copyL, List.length_append, List.length_take, List.length_drop]; omega
theorem copyL_get {α : Type} {l l2 : List α} {lo m : Nat} (h : lo + m ≤ l.length) (i : Nat) : (copyL l l2 lo m)[i]? = if lo ≤ i ∧ i < lo + min l2.length m then l2[i - lo]? else l[i]? := by
  simp only [copyL]
  have h1 : (l.take lo).length = lo := by rw [List.length_take]; omega
  have h2 : (l2.take (min l2.length m)).length = min l2.length m := by rw [List.length_take]; omega
  by_cases ha : i < lo
  · rw [if_neg (by omega), List.append_assoc, List.getElem?_append_left (by omega), List.getElem?_take, if_pos ha]
  · by_cases hb : i < lo + min l2.length m
    · rw [if_pos (by omega), List.append_assoc, List.getElem?_append_right (by omega), List.getElem?_append_left (by omega), List.getElem?_take, if_pos (by omega), h1]
    · rw [if_neg (by omega), List.getElem?_append_right (by rw [List.length_append]; omega), List.length_append, h1, h2, List.getElem?_drop]
      congr 1; omega
/-- An owned list of plain elements, part of it written over in memory. -/
theorem TC_copy {P : Program} {e : Ty} (hm : e.mem = false) {b o n c : Nat} {arr : Array Value} {ty : TypeId} {l l2 : List (den e)} {cs2 : List Value} {bss2 : List (List Nat)} {lo m : Nat} (hb : w.heap[b]? = some (.cells arr ty (0, 0))) (hn : n = l.length) (hc : n ≤ c) (hfit : o + c * e.sz ≤ arr.size)
    (hel : ∀ (i : Nat) y, l[i]? = some y → TC e w (seg arr.toList (o + i * e.sz) e.sz) y []) (hE : Els e w cs2 l2 bss2) (hlo : lo + m ≤ l.length) :
    TC (.sl e) (w.setRow b (setSeg arr.toList (o + lo * e.sz) (cs2.take (min l2.length m * e.sz))).toArray) [.slice (some ⟨b, o, none⟩) n c] (copyL l l2 lo m) [b] := by
  obtain ⟨he1, he2, he3⟩ := hE
  have hL : arr.toList.length = arr.size := Array.length_toList
  have hsz : (o + lo * e.sz) + (cs2.take (min l2.length m * e.sz)).length ≤ arr.toList.length := by
    rw [List.length_take, he1, hL]
    have h1 : min l2.length m * e.sz ≤ m * e.sz := Nat.mul_le_mul_right _ (Nat.min_le_right _ _)
    have h2 : lo * e.sz + m * e.sz ≤ c * e.sz := by rw [← Nat.add_mul]; exact Nat.mul_le_mul_right _ (by omega)
    have h3 := Nat.min_le_left (min l2.length m * e.sz) (l2.length * e.sz)
    omega
  have hk : (cs2.take (min l2.length m * e.sz)).length = min l2.length m * e.sz := by
    rw [List.length_take, he1]
    exact Nat.min_eq_left (Nat.mul_le_mul_right _ (Nat.min_le_left _ _))
  have hcl := copyL_len (l2 := l2) hlo
  refine .inr ⟨b, o, n, c, _, ty, List.replicate n [], rfl, ?_, by rw [hn]; exact hcl.symm, setRow_get hb _ b |>.trans (by rw [if_pos rfl]), hc, ?_, by simp, fun i y bi hy hbi => ?_⟩
  · have : (List.replicate n ([] : List Nat)).flatten = [] := by simp
    rw [this]
  · rw [List.size_toArray, setSeg_len hsz, hL]; exact hfit
  · have hbi : bi = [] := by
      rw [List.getElem?_replicate] at hbi
      split at hbi
      · simpa using hbi.symm
      · cases hbi
    subst hbi
    rw [copyL_get hlo] at hy
    have hrd : (setSeg arr.toList (o + lo * e.sz) (cs2.take (min l2.length m * e.sz))).toArray.toList = setSeg arr.toList (o + lo * e.sz) (cs2.take (min l2.length m * e.sz)) := rfl
    rw [hrd]
    by_cases hi : lo ≤ i ∧ i < lo + min l2.length m
    · rw [if_pos hi] at hy
      have hlt : i - lo < l2.length := (List.getElem?_eq_some_iff.1 hy).1
      obtain ⟨bi2, hb2⟩ := some_of_len he2.symm hy
      have h1 := he3 (i - lo) y bi2 hy hb2
      have h2 := TC_of_RX P e (w' := w.setRow b (setSeg arr.toList (o + lo * e.sz) (cs2.take (min l2.length m * e.sz))).toArray) hm (RX_of_TC P e (S := fun _ => True) h1 fun _ _ => trivial)
      have hseg : seg (setSeg arr.toList (o + lo * e.sz) (cs2.take (min l2.length m * e.sz))) (o + i * e.sz) e.sz = seg cs2 ((i - lo) * e.sz) e.sz := by
        apply List.ext_getElem?
        intro j
        rw [seg_get, seg_get]
        by_cases hj : j < e.sz
        · rw [if_pos hj, if_pos hj, setSeg_get hsz, hk]
          have h5 : i * e.sz = lo * e.sz + (i - lo) * e.sz := by rw [← Nat.add_mul]; congr 1; omega
          have h6 : (i - lo + 1) * e.sz ≤ min l2.length m * e.sz := Nat.mul_le_mul_right _ (by omega)
          rw [Nat.succ_mul] at h6
          rw [if_pos (by omega), List.getElem?_take, if_pos (by omega)]
          congr 1; omega
        · rw [if_neg hj, if_neg hj]
      rw [hseg]; exact h2
    · rw [if_neg hi] at hy
      have h1 := hel i y hy
      have h2 := TC_of_RX P e (w' := w.setRow b (setSeg arr.toList (o + lo * e.sz) (cs2.take (min l2.length m * e.sz))).toArray) hm (RX_of_TC P e (S := fun _ => True) h1 fun _ _ => trivial)
      have hseg : seg (setSeg arr.toList (o + lo * e.sz) (cs2.take (min l2.length m * e.sz))) (o + i * e.sz) e.sz = seg arr.toList (o + i * e.sz) e.sz := by
        apply List.ext_getElem?
        intro j
        rw [seg_get, seg_get]
        by_cases hj : j < e.sz
        · rw [if_pos hj, if_pos hj, setSeg_get hsz, hk, if_neg]
          rcases Nat.lt_or_ge i lo with h | h
          · have h6 : (i + 1) * e.sz ≤ lo * e.sz := Nat.mul_le_mul_right _ h
            rw [Nat.succ_mul] at h6
            omega
          · have h6 : (lo + min l2.length m) * e.sz ≤ i * e.sz := Nat.mul_le_mul_right _ (by omega)
            rw [Nat.add_mul] at h6
            omega
        · rw [if_neg hj, if_neg hj]
      rw [hseg]; exact h2
theorem TC_flat (P : Program) {e : Ty} (hm : e.mem = false) {cs : List Value} {x : den e} {bs : List Nat} (h : TC e w cs x bs) : TC e w' cs x [] :=
  TC_of_RX P e hm (RX_of_TC P e (S := fun _ => True) h fun _ _ => trivial)
theorem ref_vw {e : Ty} {hd : Value} {l : List (den e)} {bs : List Nat} (h : TC (.sl e) w [hd] l bs) : VwAt hd e 0 (l.length : Int) hd := by
  rcases h with ⟨h1, h2, _⟩ | ⟨b, o, n, c, arr, ty, bss, h1, _, h3, _, h5, _⟩
  · have h1 : hd = .slice none 0 0 := by simpa using h1
    have h2 : l = [] := h2
    subst h2
    exact ⟨none, 0, 0, none, 0, h1, by rw [h1]; rfl, Nat.le_refl _, .inl rfl⟩
  · have h1 : hd = .slice (some ⟨b, o, none⟩) n c := by simpa using h1
    have h3 : n = l.length := h3
    exact ⟨_, n, c, _, c, h1, by rw [h1, h3]; rfl, by rw [Int.toNat_natCast, ← h3]; exact h5, .inr ⟨b, o, rfl, by simp⟩⟩
theorem copy_core (O : CfgOk C cf) (I : Inv C st a w G) {t g h : Nat} {e : Ty} (hm : e.mem = false) {l l2 : List (den e)} (hr : st (rk t) = .root g h e l) {td ts' ty : TypeId} (hty : cf.ty td = some (.sl e)) {lo m : Int} {v s : Value} (h0 : 0 ≤ lo) (h1 : 0 ≤ m) (hlm : lo + m ≤ (l.length : Int)) (hv : VwAt (G.hd (rk t)) e lo m v)
    {news : List Value} {nss : List (List Nat)} (hx : Src w s l2.length news) (hE : Els e w news l2 nss) :
    ∃ w' G', (Builtin.copy_ #[td, ts'] ty #[v, s]).run C.P w = .ok (.int .i64 ((min l2.length m.toNat : Nat) : Int)) w' ∧ Inv C (upds st [(rk t, .root g (h + 1) e (copyL l l2 lo.toNat m.toNat))]) a w' G' := by
  have ho := O.ty _ _ hty
  obtain ⟨ud, hud, hu'⟩ := ho.und
  cases ud <;> simp only [UnOk] at hu'
  rename_i et
  obtain ⟨i, hi, hisz, _⟩ := (O.ty _ _ hu').info
  have hTC := I.rt _ _ _ _ _ hr
  -- what a change of this root is
  have hs : SX C.P st G w (Fz st G w) (.ref t g e) false [G.hd (rk t)] := ⟨_, rfl, by
    obtain ⟨z, e1, e2⟩ := TC_hd hTC
    simp only [List.cons.injEq, and_true] at e1
    rw [e1]; exact e2, by rw [hr]; exact Nat.le_refl _, fun h' e' l' hr' => by rw [hr] at hr'; cases hr'; exact ⟨rfl, rfl⟩⟩
  have hres : Rn (res cf 1 (.sl e) (.ref t g e) fun l' => M.ret l') st l := by
    unfold res
    rw [Rn_get, hr]
    simp only [dite_true]
    rw [Rn_chk, Rn_ret]
    exact ⟨Nat.beq_refl g, rfl⟩
  obtain ⟨x, hx1, _, hw⟩ := wb_lens O I.toInvM 1 (.sl e) (.ref t g e) hres hs
  rw [Rn_ret] at hx1
  subst hx1
  obtain ⟨ts, bs, Uf, k1, k2, L⟩ := hw (copyL x l2 lo.toNat m.toNat) (fun U ts => M.ret (U, ts)) ([(rk t, .root g (h + 1) e (copyL x l2 lo.toNat m.toNat))], [t]) (by
    unfold wb
    rw [Rn_get, hr]
    simp only
    rw [Rn_bif]
    refine .inl ⟨by simp, ?_⟩
    rw [Rn_chk, Rn_ret]
    exact ⟨Nat.beq_refl g, rfl⟩)
  rw [Rn_ret] at k1
  simp only [Prod.mk.injEq] at k1
  obtain ⟨k1, rfl⟩ := k1
  have hin : ∀ (w' : World) (bs' : List Nat), TC (.sl e) w' [G.hd (rk t)] (copyL x l2 lo.toNat m.toNat) bs' → bs'.Nodup → (∀ b ∈ bs', b ∈ bs ∧ b < w'.heap.size) → w'.os = w.os → w'.tape = w.tape → w'.output = w.output → w.heap.size ≤ w'.heap.size → (∀ b, b < w.heap.size → b ∉ bs → w'.heap[b]? = w.heap[b]?) →
      ∃ G', Inv C (upds st [(rk t, .root g (h + 1) e (copyL x l2 lo.toNat m.toNat))]) a w' G' := fun w' bs' q1 q2 q3 q4 q5 q6 q7 q8 => by
    have := wbStep I L (by simp) q1 q2 (fun b hb => ⟨.inl (q3 b hb).1, (q3 b hb).2⟩) q4 q5 q6 q7 q8
    rw [k1] at this
    exact this
  obtain ⟨aa, len, cap, aa', c', e1, rfl, e3, e4⟩ := hv
  have hsz : i.size = e.sz := hisz
  -- the cells that are read
  have hlt : (news.take (min l2.length m.toNat * e.sz)).length = min l2.length m.toNat * e.sz := by
    rw [List.length_take, hE.1]
    exact Nat.min_eq_left (Nat.mul_le_mul_right _ (Nat.min_le_left _ _))
  have hone : ∀ u ∈ news.take (min l2.length m.toNat * e.sz), u.oneCell' = true := fun u hu => hE.one u (List.mem_of_mem_take hu)
  have hrun : ∀ (w' : World), (match aa' with | some ad => (storeCells ad (news.take (min l2.length m.toNat * e.sz))).run C.P w | none => .ok () w) = .ok () w' →
      (Builtin.copy_ #[td, ts'] ty #[.slice aa' m.toNat c', s]).run C.P w = .ok (.int .i64 ((min l2.length m.toNat : Nat) : Int)) w' := fun w' hst => by
    rcases hx with ⟨ad, cc, rfl, hc⟩ | ⟨cc, rfl, hz, hz2⟩
    · have hf := run_firstCells_some (P := C.P) w i.size (min l2.length m.toNat) ad l2.length cc (news.take (min l2.length m.toNat * e.sz)) (by rw [hlt, hsz]) (fun j u hj => hc j u (by
        rw [List.getElem?_take] at hj
        split at hj
        · exact hj
        · cases hj))
      cases aa' with
      | none =>
        cases hst
        simp [Builtin.copy_, run_underlying hud, sizeOf, typeInfo, hi, Builtin.lenOf, hf, goInt]
      | some ad' =>
        simp [Builtin.copy_, run_underlying hud, sizeOf, typeInfo, hi, Builtin.lenOf, hf, hst, goInt]
    · have hf := run_firstCells_none (P := C.P) w i.size (min l2.length m.toNat) l2.length cc
      subst hz2
      have hst : (match aa' with | some ad => (storeCells ad []).run C.P w | none => .ok () w) = .ok () w' := by
        have := hst
        simp only [List.take_nil] at this
        exact this
      cases aa' with
      | none =>
        cases hst
        simp [Builtin.copy_, run_underlying hud, sizeOf, typeInfo, hi, Builtin.lenOf, hf, goInt]
      | some ad' =>
        simp [Builtin.copy_, run_underlying hud, sizeOf, typeInfo, hi, Builtin.lenOf, hf, hst, goInt]
  by_cases hk : min l2.length m.toNat = 0
  · have he : copyL x l2 lo.toNat m.toNat = x := by simp [copyL, hk]
    obtain ⟨G', I'⟩ := hin w bs (by rw [he]; exact k2) (L.nd (by simp)) (fun b hb => ⟨hb, TC_lt _ k2 b hb⟩) rfl rfl rfl (Nat.le_refl _) (fun _ _ _ => rfl)
    refine ⟨w, G', hrun w ?_, I'⟩
    rw [hk, Nat.zero_mul, List.take_zero]
    cases aa' with
    | none => rfl
    | some ad => simp [storeCells]
  · rcases e4 with e4 | ⟨b, o, rfl, rfl⟩
    · omega
    · rcases k2 with ⟨q1, _⟩ | ⟨b', o', n, c, arr, ty', bss, q1, q2, q3, q4, q5, q6, q7, q8⟩
      · rw [e1] at q1; simp at q1
      · rw [e1] at q1
        simp only [List.cons.injEq, and_true, Value.slice.injEq, Option.some.injEq, Addr.mk.injEq] at q1
        obtain ⟨⟨rfl, rfl⟩, rfl, rfl⟩ := q1
        have q3 : len = x.length := q3
        have hlo : lo.toNat + m.toNat ≤ x.length := by omega
        have hT := TC_copy (P := C.P) (l2 := l2) (cs2 := news) hm q4 q3 q5 q6 (fun i y hy => by
          have hil : i < bss.length := by
            have := (List.getElem?_eq_some_iff.1 hy).1
            omega
          exact TC_flat C.P hm (q8 i y _ hy (List.getElem?_eq_getElem hil))) hE hlo
        have hbb : b ∈ bs := by rw [q2]; exact List.mem_cons_self
        have hbs : b < w.heap.size := (Array.getElem?_eq_some_iff.1 q4).1
        obtain ⟨G', I'⟩ := hin (w.setRow b (setSeg arr.toList (o + lo.toNat * e.sz) (news.take (min l2.length m.toNat * e.sz))).toArray) [b] (by rw [e1]; exact hT) (by simp) (fun b' hb' => by
          simp only [List.mem_singleton] at hb'
          subst hb'
          exact ⟨hbb, by rw [setRow_sz]; exact hbs⟩) rfl rfl rfl (by rw [setRow_sz]; exact Nat.le_refl _) (fun b' hb' hnb => by
          rw [setRow_get q4, if_neg (fun e => hnb (by rw [e]; exact hbb))])
        refine ⟨_, G', hrun _ ?_, I'⟩
        have hL : arr.toList.length = arr.size := Array.length_toList
        have hfit : o + lo.toNat * e.sz + 0 + (news.take (min l2.length m.toNat * e.sz)).length ≤ arr.size := by
          rw [hlt]
          have h1 : min l2.length m.toNat * e.sz ≤ m.toNat * e.sz := Nat.mul_le_mul_right _ (Nat.min_le_right _ _)
          have h2 : lo.toNat * e.sz + m.toNat * e.sz ≤ cap * e.sz := by rw [← Nat.add_mul]; exact Nat.mul_le_mul_right _ (by omega)
          omega
        have := run_storeCells_at C.P b (o + lo.toNat * e.sz) ty' (news.take (min l2.length m.toNat * e.sz)) 0 arr w q4 hfit hone
        simpa [setSeg] using this
theorem snd_copy (O : CfgOk C cf) {args : Array Operand} {tys : Array TypeId} : Snd C cf ⟨dst, .call ⟨.builtin .copy, args, tys⟩, type, pos, after, guard⟩ := by
  intro st a w G us next Q I h hn
  simp only [exec] at h
  split at h
  case h_2 => exact (Rn_fail.1 h).elim
  rename_i d s t tx hx ht
  have hx := arr_of hx
  have ht := arr_of ht
  subst hx; subst ht
  obtain ⟨v, hv, h⟩ := opd_run I h
  obtain ⟨u, hu, h⟩ := opd_run I h
  split at h
  case h_2 => exact (Rn_fail.1 h).elim
  rename_i e hty
  rw [Rn_bif] at h
  rcases h with ⟨_, h⟩ | ⟨hm, h⟩
  · exact (Rn_fail.1 h).elim
  obtain ⟨c, hc1, hc2⟩ := SW_cells hu (fun b e => by subst e; simp only [res] at h; exact (Rn_fail.1 h).elim)
  obtain ⟨l2, r1, h, r3⟩ := res_run O I.toInvM 2 (.sl e) u false h hc2
  obtain ⟨xv, hxv⟩ := List.length_eq_one_iff.1 (RX_len _ _ _ _ _ _ r1)
  subst hxv
  have hax : a.eval s = xv := by rw [hc1, r3 rfl]; rfl
  obtain ⟨news, j1, j2⟩ := els_RX hm r1
  have fin : ∀ (t0 g h0 : Nat) (l : List (den e)) (lo m : Int), st (rk t0) = .root g h0 e l → 0 ≤ lo → 0 ≤ m → lo + m ≤ (l.length : Int) → VwAt (G.hd (rk t0)) e lo m (a.eval d) →
      Rn (wr cf dst (.val (.int .i64) ((min l2.length m.toNat : Nat) : Int)) [(rk t0, .root g (h0 + 1) e (copyL l l2 lo.toNat m.toNat))]) st us →
      Oper.wp C.P ⟨dst, .call ⟨.builtin .copy, [d, s].toArray, [t, tx].toArray⟩, type, pos, after, guard⟩ a w next Q := fun t0 g h0 l lo m hr q0 q1 q2 q3 h => by
    obtain ⟨w', G', hrun, I'⟩ := copy_core O I hm (ts' := tx) (ty := type) hr hty q0 q1 q2 q3 j1 j2
    rw [← hax] at hrun
    refine wp_value (v := .int .i64 ((min l2.length m.toNat : Nat) : Int)) (w' := w') ?_ (hn _ _ G' (wr_sound O h I' (fun p hp i e => by
      simp only [List.mem_singleton] at hp
      subst hp
      exact sk_ne_rk _ _ e.symm) (SW_val (c := [_]) rfl)))
    simp only [execOp, resolve, invoke, builtin, Sem.run_bind, Sem.run_pure, Result.andThen_ok, List.map_toArray, List.map_cons, List.map_nil]
    rw [hrun]; rfl
  unfold copyM at h
  split at h
  · rename_i t0 g e0 _ _
    rw [Rn_get] at h
    split at h
    case h_2 => exact (Rn_fail.1 h).elim
    rename_i g' h0 e' l hr
    split at h
    case isFalse => exact (Rn_fail.1 h).elim
    rename_i ee; subst ee
    rw [Rn_chk] at h
    obtain ⟨hg, h⟩ := h
    have hg := Nat.eq_of_beq_eq_true hg
    subst hg
    obtain ⟨c', e1, z, rfl, _, _, hz⟩ := hv
    obtain ⟨rfl, _⟩ := hz _ _ _ hr
    have e1 : a.eval d = G.hd (rk t0) := e1
    exact fin t0 g h0 l 0 (l.length : Int) hr (Int.le_refl _) (by omega) (by omega) (by rw [e1]; exact ref_vw (I.rt _ _ _ _ _ hr)) h
  · rename_i t0 g lo m e0 _ _
    rw [Rn_get] at h
    split at h
    case h_2 => exact (Rn_fail.1 h).elim
    rename_i g' h0 e' l hr
    split at h
    case isFalse => exact (Rn_fail.1 h).elim
    rename_i ee; subst ee
    rw [Rn_chk] at h
    obtain ⟨hg, h⟩ := h
    have hg := Nat.eq_of_beq_eq_true hg
    subst hg
    obtain ⟨c', e1, z, rfl, _, _, hz⟩ := hv
    obtain ⟨e9, k1, k2, k3, k4⟩ := hz _ _ _ hr
    have e1 : a.eval d = z := e1
    rw [← e9] at k4
    exact fin t0 g h0 l lo m hr k1 k2 k3 (by rw [e1]; exact k4) h
  · exact (Rn_fail.1 h).elim
end
end Go.Proofs.Ytckkagmccbkfbaa.E
namespace Go.Proofs.Ytckkagmccbkfbaa.E
open Go Go.RowKit
set_option linter.unusedVariables false
set_option linter.unusedSimpArgs false
section
variable {C : Cx} {cf : Cfg} {dst : Option Tmp} {type : TypeId} {pos : String} {after : Array Edge} {guard : Option (Nat × Bool)} {st : St} {a : Act} {w w' : World} {G : Gh} {α : Type} {us : U}
theorem snd_callMut (O : CfgOk C cf) {g : FuncId} {args : Array Operand} {tys : Array TypeId} {sp : FnSpec} (hfn : cf.fn g = some sp) (hmu : sp.mu.any id = true) : Snd C cf ⟨dst, .call ⟨.value (.func g), args, tys⟩, type, pos, after, guard⟩ := by
  intro st a w G us next Q I h hn
  simp only [exec, hfn] at h
  obtain ⟨v, hv, h⟩ := opds_run I h
  unfold callM at h
  rw [hmu] at h
  obtain ⟨x, h, hl⟩ := args_lens O I.toInvM sp.pas sp.mu v h hv
  rw [Rn_call] at h
  obtain ⟨y, hy, h⟩ := h
  simp only [cond_true] at h
  have hok := (O.fn g sp hfn).muts hmu
  obtain ⟨pas, mu, ret, F⟩ := sp
  simp only at h hy hok hl hmu
  cases ret with
  | pair r o =>
    simp only at h
    split at h
    case isFalse => exact (Rn_fail.1 h).elim
    rename_i e; subst e
    rw [Rn_bif] at h
    rcases h with ⟨_, h⟩ | ⟨hm, h⟩
    · exact (Rn_fail.1 h).elim
    obtain ⟨ts, bs, Uf, h, hAX, L⟩ := hl y.2 _ us h
    rw [Rn_bif] at h
    rcases h with ⟨hnd, h⟩ | ⟨_, h⟩
    case inr => exact (Rn_fail.1 h).elim
    rw [nodupB_iff] at hnd
    have hAX := hAX (fun b => b < w.heap.size ∧ b ∉ bs) (fun b hb => ⟨hb.1, fun hbs => by
      obtain ⟨t, ht, hbt⟩ := L.sub b hbs
      exact hb.2.1 (rk t) (by rw [root_own (L.rt t ht)]; exact hbt)⟩) (fun b hb => hb.1)
    have hcf := hok r rfl w _ x y.1 y.2 bs hAX (L.nd hnd) hy
    unfold Oper.wp
    rw [call_run (g := g) (fi := #[]) (ca := #[]) rfl]
    have e : #[] ++ args.map a.eval ++ #[] = (args.toList.map a.eval).toArray := by
      rw [← Array.toList_map]
      show _ = args.map a.eval
      rw [Array.append_empty, Array.empty_append]
    rw [e]
    refine hcf _ a next Q fun v' w' hr => ?_
    obtain ⟨bs', o1, o2, o3⟩ := hr.out
    obtain ⟨G', I'⟩ := wbStep I L hnd o1 o2 o3 hr.os hr.tape hr.output hr.size hr.block
    obtain ⟨c, rfl, hc⟩ := hr.val
    refine hn _ _ G' (wr_sound O h I' (fun p hp i e => ?_) (SW_val (RX_nomem (w' := w') hm hc)))
    have : p.1 ∈ (Uf y.2).map (·.1) := List.mem_map.2 ⟨p, hp, rfl⟩
    rw [L.keys] at this
    obtain ⟨t, _, ht⟩ := List.mem_map.1 this
    exact sk_ne_rk i t (by rw [ht, e])
  | _ => exact (Rn_fail.1 h).elim
theorem snd_all (O : CfgOk C cf) (o : Oper) : Snd C cf o := by
  obtain ⟨dst, op, type, pos, after, guard⟩ := o
  cases op with
  | move x => exact snd_move O
  | assign x => exact snd_assign O
  | nilCheck x => exact snd_nilCheck O
  | pick c x y => exact snd_pick O
  | binOp op xt x y yt => exact snd_binOp O
  | unOp op xt x => exact snd_unOp O
  | convert s d x => exact snd_convert O
  | extract x i => exact snd_extract O
  | field t x i => exact snd_field O
  | alloc t => exact snd_alloc O
  | box t x => exact snd_box O
  | build t ps => exact snd_build O
  | buildSlice t n ps => exact snd_buildSlice O
  | makeSlice t l c => exact snd_makeSlice O
  | load t x => exact snd_load O
  | store t x y => exact snd_store O
  | fieldAddr t x n => exact snd_fieldAddr O
  | indexAddr t x i => exact snd_indexAddr O
  | index t x i => exact snd_index O
  | slice t x lo hi m =>
    cases m with
    | none => exact snd_slice O
    | some m => intro st a w G us next Q I h hn; exact (Rn_fail.1 (by simpa only [exec] using h)).elim
  | makeFunc f fi ca =>
    cases f with
    | func f => exact snd_makeFunc O
    | _ => intro st a w G us next Q I h hn; exact (Rn_fail.1 (by simpa only [exec] using h)).elim
  | call c =>
    obtain ⟨cal, args, tys⟩ := c
    cases cal with
    | builtin b =>
      cases b with
      | len => exact snd_len O
      | append => exact snd_append O
      | copy => exact snd_copy O
      | min => exact snd_min O
      | max => exact snd_max O
      | _ => intro st a w G us next Q I h hn; exact (Rn_fail.1 (by simpa only [exec] using h)).elim
    | value f =>
      cases f with
      | func g =>
        cases hfn : cf.fn g with
        | none =>
          cases hfs : cf.fs g with
          | none => intro st a w G us next Q I h hn; exact (Rn_fail.1 (by simpa only [exec, hfn, hfs] using h)).elim
          | some sp => exact snd_callShape O hfn hfs
        | some sp =>
          cases hmu : sp.mu.any id
          · exact snd_callPlain O hfn hmu
          · exact snd_callMut O hfn hmu
      | tmp t => exact snd_callValue O
      | _ => intro st a w G us next Q I h hn; exact (Rn_fail.1 (by simpa only [exec] using h)).elim
    | _ => intro st a w G us next Q I h hn; exact (Rn_fail.1 (by simpa only [exec] using h)).elim
  | _ => intro st a w G us next Q I h hn; exact (Rn_fail.1 (by simpa only [exec] using h)).elim
end
end Go.Proofs.Ytckkagmccbkfbaa.E
namespace Go.Proofs.Ytckkagmccbkfbaa.E
open Go Go.RowKit
set_option linter.unusedVariables false
set_option linter.unusedSimpArgs false
theorem go_run {α R : Type} {s : St} {K : List Nat → α → Option R} {r : R} : ∀ (m : M α) (rd : List Nat), m.go s rd K = some r → ∃ rd' u, m.run s = some (rd', u) ∧ K (rd'.reverse ++ rd) u = some r
  | .ret a, rd, h => ⟨[], a, rfl, h⟩
  | .get k f, rd, h => by
    obtain ⟨rd', u, h1, h2⟩ := go_run (f (s k)) (k :: rd) h
    exact ⟨k :: rd', u, by simp [M.run, h1], by simpa using h2⟩
  | .chk b m, rd, h => by
    simp only [M.go] at h
    split at h
    · rename_i hb
      obtain ⟨rd', u, h1, h2⟩ := go_run m rd h
      exact ⟨rd', u, by simp [M.run, hb, h1], h2⟩
    · cases h
  | .br b m1 m2, rd, h => by
    simp only [M.go] at h
    split at h
    · rename_i hb
      obtain ⟨rd', u, h1, h2⟩ := go_run m1 rd h
      exact ⟨rd', u, by simp [M.run, hb, h1], h2⟩
    · rename_i hb
      obtain ⟨rd', u, h1, h2⟩ := go_run m2 rd h
      exact ⟨rd', u, by simp [M.run, hb, h1], h2⟩
  | .fail, rd, h => by cases h
  | .call A B F x f, rd, h => by
    simp only [M.go, Option.bind_eq_some_iff] at h
    obtain ⟨y, hy, h⟩ := h
    obtain ⟨rd', u, h1, h2⟩ := go_run (f y) rd h
    exact ⟨rd', u, by simp [M.run, hy, h1], h2⟩
theorem run_local {α : Type} {s s' : St} {u : α} : ∀ (m : M α) {rd : List Nat}, m.run s = some (rd, u) → (∀ k ∈ rd, s' k = s k) → m.run s' = some (rd, u)
  | .ret a, rd, h, _ => h
  | .get k f, rd, h, hk => by
    simp only [M.run, Option.map_eq_some_iff] at h ⊢
    obtain ⟨⟨rd', u'⟩, h1, h2⟩ := h
    simp only [Prod.mk.injEq] at h2
    obtain ⟨rfl, rfl⟩ := h2
    refine ⟨(rd', u'), ?_, rfl⟩
    rw [hk k List.mem_cons_self]
    exact run_local (f (s k)) h1 fun k' hk' => hk k' (List.mem_cons_of_mem _ hk')
  | .chk b m, rd, h, hk => by
    simp only [M.run] at h ⊢
    split at h
    · rename_i hb; rw [if_pos hb]; exact run_local m h hk
    · cases h
  | .br b m1 m2, rd, h, hk => by
    simp only [M.run] at h ⊢
    split at h
    · rename_i hb; rw [if_pos hb]; exact run_local m1 h hk
    · rename_i hb; rw [if_neg hb]; exact run_local m2 h hk
  | .fail, rd, h, _ => by cases h
  | .call A B F x f, rd, h, hk => by
    simp only [M.run, Option.bind_eq_some_iff] at h ⊢
    obtain ⟨y, hy, h⟩ := h
    exact ⟨y, hy, run_local (f y) h hk⟩
theorem Rn_bind {α β : Type} {s : St} {f : α → M β} {v : β} : ∀ (m : M α), Rn (m.bind f) s v → ∃ u, Rn m s u ∧ Rn (f u) s v
  | .ret a, h => ⟨a, Rn_ret.2 rfl, h⟩
  | .get k g, h => by
    obtain ⟨u, h1, h2⟩ := Rn_bind (g (s k)) (Rn_get.1 h)
    exact ⟨u, Rn_get.2 h1, h2⟩
  | .chk b m, h => by
    obtain ⟨hb, h⟩ := Rn_chk.1 h
    obtain ⟨u, h1, h2⟩ := Rn_bind m h
    exact ⟨u, Rn_chk.2 ⟨hb, h1⟩, h2⟩
  | .br b m1 m2, h => by
    rcases Rn_br.1 h with ⟨hb, h⟩ | ⟨hb, h⟩
    · obtain ⟨u, h1, h2⟩ := Rn_bind m1 h
      exact ⟨u, Rn_br.2 (.inl ⟨hb, h1⟩), h2⟩
    · obtain ⟨u, h1, h2⟩ := Rn_bind m2 h
      exact ⟨u, Rn_br.2 (.inr ⟨hb, h1⟩), h2⟩
  | .fail, h => (Rn_fail.1 h).elim
  | .call A B F x g, h => by
    obtain ⟨y, hy, h⟩ := Rn_call.1 h
    obtain ⟨u, h1, h2⟩ := Rn_bind (g y) h
    exact ⟨u, Rn_call.2 ⟨y, hy, h1⟩, h2⟩
theorem splitB_run {s : St} {u v : U} (h : Rn (splitB u) s v) : v = u := by
  unfold splitB at h
  split at h
  · rename_i k b
    rcases Rn_br.1 h with ⟨hb, h'⟩ | ⟨hb, h'⟩
    · have hb : b = true := hb
      subst hb; exact (Rn_ret.1 h').symm
    · have hb : b = false := hb
      subst hb; exact (Rn_ret.1 h').symm
  · exact (Rn_ret.1 h).symm
section
variable {C : Cx} {cf : Cfg} {st : St} {a : Act} {w w' : World} {G : Gh} {us : U} {ops : Array Oper} {Q : Exit → Act → World → Prop}
theorem undef_nb (b : Bool) : (undef : Value) ≠ .bool b := by intro h; cases h
theorem exec1_sound (O : CfgOk C cf) {i : Nat} {o : Oper} (ho : ops[i]? = some o) (I : Inv C st a w G) (h : Rn (exec1 cf ops i o) st us) {K : Act → World → Prop} (hn : ∀ a' w' G', Inv C (upds st us) a' w' G' → K a' w') : wpOp C.P ops Q i K a w := by
  have hm : ∀ us, Rn (bif isGuard ops i then (exec cf o).bind splitB else exec cf o) st us → Rn (exec cf o) st us := fun us h => by
    rcases Rn_bif.1 h with ⟨_, h⟩ | ⟨_, h⟩
    · obtain ⟨u, h1, h2⟩ := Rn_bind _ h
      rw [splitB_run h2]; exact h1
    · exact h
  unfold wpOp
  rw [ho]
  simp only
  unfold exec1 at h
  simp only at h
  have hskip : Rn (wr cf o.dst .unit []) st us → K (a.put o.dst undef) w := fun h => hn _ _ G (wr_sound0 O h I ⟨[], rfl, rfl⟩)
  split at h
  · rename_i hg
    rw [if_pos (by unfold Region.wanted; rw [hg])]
    exact .inl (snd_all O o st a w G us K Q I (hm us h) hn)
  · rename_i j want hg
    split at h
    case h_2 => exact (Rn_fail.1 h).elim
    rename_i t ht
    obtain ⟨v, _, hv, h⟩ := slot_run I h
    split at h
    · rename_i b _
      have hx := SW_bool hv
      have hy : yielded ops a.tmps j = some b := by
        unfold yielded
        rw [ht]
        simp only [Option.bind_some]
        rw [Array.getD_eq_getD_getElem?] at hx
        cases hc : a.tmps[t]? with
        | none => rw [hc] at hx; exact absurd hx (undef_nb b)
        | some z => rw [hc] at hx; simp only [Option.getD_some] at hx; subst hx; rfl
      have hw : Region.wanted o (yielded ops a.tmps) = (b == want) := by
        unfold Region.wanted; rw [hg]; simp only; rw [hy]; cases b <;> cases want <;> rfl
      rcases Rn_br.1 h with ⟨hb, h⟩ | ⟨hb, h⟩
      · rw [if_pos (by rw [hw]; exact hb)]
        exact .inl (snd_all O o st a w G us K Q I (hm us h) hn)
      · rw [if_neg (by rw [hw]; intro e; have hb : (b == want) = false := hb; rw [hb] at e; cases e)]
        exact hskip h
    · have hx : a.tmps.getD t undef = undef := by obtain ⟨c, hc, h1⟩ := hv; have h1 : c = [] := h1; rw [hc, h1]; rfl
      have hy : yielded ops a.tmps j = none := by
        unfold yielded
        rw [ht]
        simp only [Option.bind_some]
        rw [Array.getD_eq_getD_getElem?] at hx
        cases hc : a.tmps[t]? with
        | none => rfl
        | some z => rw [hc] at hx; simp only [Option.getD_some] at hx; subst hx; rfl
      rw [if_neg (by unfold Region.wanted; rw [hg]; simp only; rw [hy]; simp)]
      exact hskip h
    · exact (Rn_fail.1 h).elim
def Seq (cf : Cfg) (ops : Array Oper) (rec : Nat → List Nat × U) : List Nat → St → St → Prop
  | [], s, sn => s = sn
  | i :: l, s, sn => (∃ o, ops[i]? = some o ∧ (exec1 cf ops i o).run s = some (rec i)) ∧ Seq cf ops rec l (upds s (rec i).2) sn
theorem Seq.congr {rec rec' : Nat → List Nat × U} : ∀ {l : List Nat} {s sn : St}, (∀ i ∈ l, rec i = rec' i) → Seq cf ops rec l s sn → Seq cf ops rec' l s sn
  | [], _, _, _, h => h
  | i :: l, s, sn, he, h => by
    have e := he i List.mem_cons_self
    refine ⟨by rw [← e]; exact h.1, ?_⟩
    rw [← e]
    exact Seq.congr (fun j hj => he j (List.mem_cons_of_mem _ hj)) h.2
theorem goOps_seq {R : Type} {K : Tr → St → Option R} {r : R} : ∀ (l : List Oper) (i : Nat) (s : St) (tr : Tr), goOps cf ops l i s tr K = some r → (∀ k, l[k]? = ops[i + k]?) →
    ∃ (rec : Nat → List Nat × U) (sn : St), Seq cf ops rec (List.range' i l.length) s sn ∧ K (tr ++ (List.range' i l.length).map fun j => ((rec j).1.reverse, (rec j).2.map (·.1))) sn = some r
  | [], i, s, tr, h, hl => ⟨fun _ => ([], []), s, rfl, by simpa [goOps] using h⟩
  | o :: l, i, s, tr, h, hl => by
    simp only [goOps] at h
    obtain ⟨rd, u, h1, h2⟩ := go_run _ _ h
    simp only [List.append_nil] at h2
    obtain ⟨rec, sn, h3, h4⟩ := goOps_seq l (i + 1) (upds s u) _ h2 (fun k => by
      have := hl (k + 1)
      rw [List.getElem?_cons_succ] at this
      rw [this]; congr 1; omega)
    have hc : ∀ j ∈ List.range' (i + 1) l.length, rec j = (fun j => if j = i then (rd, u) else rec j) j := fun j hj => by
      have := List.mem_range'_1.1 hj
      simp only
      rw [if_neg (by omega)]
    refine ⟨fun j => if j = i then (rd, u) else rec j, sn, ?_, ?_⟩
    · rw [List.length_cons, List.range'_succ]
      refine ⟨⟨o, by have := hl 0; simpa using this.symm, by simpa using h1⟩, ?_⟩
      simp only [if_true]
      exact Seq.congr hc h3
    · rw [List.length_cons, List.range'_succ, List.map_cons]
      simp only [if_true]
      have e : (List.range' (i + 1) l.length).map (fun j => ((rec j).1.reverse, (rec j).2.map (·.1))) = (List.range' (i + 1) l.length).map (fun j => (((fun j => if j = i then (rd, u) else rec j) j).1.reverse, ((fun j => if j = i then (rd, u) else rec j) j).2.map (·.1))) := by
        apply List.map_congr_left
        intro j hj
        rw [← hc j hj]
      rw [← e]
      simpa [List.append_assoc] using h4
theorem seq_sound (O : CfgOk C cf) {rec : Nat → List Nat × U} {sn : St} (hQ : ∀ a' w' G', Inv C sn a' w' G' → Q .normal a' w') : ∀ (l : List Nat) {s : St} {a : Act} {w : World} {G : Gh}, Seq cf ops rec l s sn → Inv C s a w G → wpOps C.P ops Q l a w
  | [], s, a, w, G, h, I => by
    have h : s = sn := h
    subst h; exact hQ _ _ _ I
  | i :: l, s, a, w, G, h, I => by
    obtain ⟨⟨o, ho, hr⟩, h2⟩ := h
    rw [wpOps_cons]
    exact exec1_sound O ho I ⟨(rec i).1, hr⟩ fun a' w' G' I' => seq_sound O hQ l h2 I'
theorem disj_iff {a b : List Nat} : disj a b = true ↔ ∀ x ∈ a, ∀ y ∈ b, x ≠ y := by
  unfold disj
  simp only [List.all_eq_true, Bool.not_eq_true']
  constructor
  · intro h x hx y hy e
    have := h x hx y hy
    rw [e] at this
    simp [Nat.beq_refl] at this
  · intro h x hx y hy
    cases hb : Nat.beq x y
    · rfl
    · exact absurd (Nat.eq_of_beq_eq_true hb) (h x hx y hy)
theorem upds_comm : ∀ (v u : U) (s : St), (∀ p ∈ u, ∀ q ∈ v, p.1 ≠ q.1) → upds (upds s u) v = upds (upds s v) u
  | v, [], s, _ => rfl
  | v, (k, c) :: u, s, h => by
    show upds (upds (upd s k c) u) v = upds (upd (upds s v) k c) u
    rw [upds_comm v u _ fun p hp q hq => h p (List.mem_cons_of_mem _ hp) q hq]
    congr 1
    have : ∀ (v : U) (s : St), (∀ q ∈ v, k ≠ q.1) → upds (upd s k c) v = upd (upds s v) k c := by
      intro v
      induction v with
      | nil => intro s _; rfl
      | cons q v ih =>
        intro s hq
        obtain ⟨j, d⟩ := q
        have hne : k ≠ j := hq (j, d) List.mem_cons_self
        show upds (upd (upd s k c) j d) v = upd (upds (upd s j d) v) k c
        rw [← ih _ fun q hq' => hq q (List.mem_cons_of_mem _ hq')]
        congr 1
        funext x
        by_cases h1 : x = j
        · subst h1; rw [upd_same, upd_ne _ _ (Ne.symm hne), upd_same]
        · rw [upd_ne _ _ h1]
          by_cases h2 : x = k
          · subst h2; rw [upd_same, upd_same]
          · rw [upd_ne _ _ h2, upd_ne _ _ h2, upd_ne _ _ h1]
    exact this v s fun q hq => h (k, c) List.mem_cons_self q hq
def Ind (x y : List Nat × U) : Prop := (∀ p ∈ x.2, p.1 ∉ y.1) ∧ (∀ p ∈ x.2, ∀ q ∈ y.2, p.1 ≠ q.1) ∧ (∀ q ∈ y.2, q.1 ∉ x.1)
theorem bubble {rec : Nat → List Nat × U} {sn : St} : ∀ {l : List Nat} {s : St} {i : Nat}, Seq cf ops rec l s sn → List.Pairwise (· < ·) l → i ∈ l → (∀ j ∈ l, j < i → Ind (rec j) (rec i)) →
    (∃ o, ops[i]? = some o ∧ (exec1 cf ops i o).run s = some (rec i)) ∧ Seq cf ops rec (l.erase i) (upds s (rec i).2) sn
  | [], _, _, _, _, hi, _ => by cases hi
  | j :: l, s, i, h, hp, hi, hind => by
    obtain ⟨⟨o, ho, hr⟩, h2⟩ := h
    rw [List.pairwise_cons] at hp
    by_cases e : i = j
    · subst e
      rw [List.erase_cons_head]
      exact ⟨⟨o, ho, hr⟩, h2⟩
    · have hi' : i ∈ l := (List.mem_cons.1 hi).resolve_left e
      obtain ⟨⟨o', ho', hr'⟩, h3⟩ := bubble h2 hp.2 hi' fun k hk hlt => hind k (List.mem_cons_of_mem _ hk) hlt
      obtain ⟨i1, i2, i3⟩ := hind j List.mem_cons_self (hp.1 i hi')
      refine ⟨⟨o', ho', run_local _ hr' fun k hk => ?_⟩, ?_⟩
      · exact (upds_out _ _ _ fun p hp e => i1 p hp (by rw [e]; exact hk)).symm
      · rw [List.erase_cons_tail (by simpa using Ne.symm e)]
        refine ⟨⟨o, ho, run_local _ hr fun k hk => ?_⟩, ?_⟩
        · exact upds_out _ _ _ fun p hp e => i3 p hp (by rw [e]; exact hk)
        · rw [← upds_comm _ _ _ i2]; exact h3
theorem ancs_ok : ∀ (l : List Oper) (acc : List (List Nat)) (pre : List Oper), pre.length = acc.length → (∀ i o, pre[i]? = some o → ∀ x ∈ acc.getD i [], x ∈ esOf o ∨ ∃ j ∈ esOf o, x ∈ acc.getD j []) →
    ∀ i o, (pre ++ l)[i]? = some o → ∀ x ∈ (ancs l acc).getD i [], x ∈ esOf o ∨ ∃ j ∈ esOf o, x ∈ (ancs l acc).getD j []
  | [], acc, pre, _, h, i, o, hi, x, hx => h i o (by simpa using hi) x hx
  | o :: l, acc, pre, hl, h, i, o', hi, x, hx => by
    refine ancs_ok l (acc ++ [esOf o ++ (esOf o).flatMap fun j => acc.getD j []]) (pre ++ [o]) (by simp [hl]) (fun k ok hk y hy => ?_) i o' (by simpa [List.append_assoc] using hi) x hx
    have grow : ∀ j z, z ∈ acc.getD j [] → z ∈ (acc ++ [esOf o ++ (esOf o).flatMap fun j => acc.getD j []]).getD j [] := fun j z hz => by
      by_cases hj : j < acc.length
      · simpa [List.getD, List.getElem?_append, hj] using hz
      · simp [List.getD, List.getElem?_eq_none (by omega : acc.length ≤ j)] at hz
    by_cases hk' : k < pre.length
    · rw [List.getElem?_append, if_pos hk'] at hk
      have hy' : y ∈ acc.getD k [] := by simpa [List.getD, List.getElem?_append, show k < acc.length by omega] using hy
      rcases h k ok hk y hy' with h1 | ⟨j, h1, h2⟩
      · exact .inl h1
      · exact .inr ⟨j, h1, grow j y h2⟩
    · rw [List.getElem?_append, if_neg hk'] at hk
      have hk0 : k - pre.length = 0 := by
        rcases Nat.eq_zero_or_pos (k - pre.length) with h | h
        · exact h
        · rw [List.getElem?_eq_none (by simp; omega)] at hk; cases hk
      rw [hk0] at hk
      simp only [List.getElem?_cons_zero, Option.some.injEq] at hk
      subst hk
      have hke : k = acc.length := by omega
      subst hke
      simp only [List.getD, List.getElem?_append, Nat.lt_irrefl, if_false, Nat.sub_self, List.getElem?_cons_zero, Option.getD_some, List.mem_append, List.mem_flatMap] at hy
      rcases hy with hy | ⟨j, hj, hy⟩
      · exact .inl hy
      · exact .inr ⟨j, hj, grow j y hy⟩
theorem backB_ok : ∀ (l : List Oper) (i : Nat), backB l i = true → ∀ k o, l[k]? = some o → ∀ j ∈ esOf o, j < i + k
  | [], _, _, k, o, h => by simp at h
  | o' :: l, i, hb, k, o, h => by
    simp only [backB, Bool.and_eq_true, List.all_eq_true] at hb
    cases k with
    | zero =>
      simp only [List.getElem?_cons_zero, Option.some.injEq] at h
      subst h
      intro j hj
      exact Nat.le_of_ble_eq_true (hb.1 j hj)
    | succ k =>
      intro j hj
      have := backB_ok l (i + 1) hb.2 k o (by simpa using h) j hj
      omega
end
end Go.Proofs.Ytckkagmccbkfbaa.E
namespace Go.Proofs.Ytckkagmccbkfbaa.E
open Go Go.RowKit
set_option linter.unusedVariables false
set_option linter.unusedSimpArgs false
section
variable {C : Cx} {cf : Cfg} {st : St} {a : Act} {w w' : World} {G : Gh} {us : U} {ops : Array Oper} {Q : Exit → Act → World → Prop}
theorem setL {l : Array Bool} {i j : Nat} {d : Bool} : (l.setIfInBounds i true).getD j d = if j = i ∧ i < l.size then true else l.getD j d := by
  simp only [Array.getD_eq_getD_getElem?, Array.getElem?_setIfInBounds]
  by_cases h : i = j
  · subst h
    by_cases h2 : i < l.size <;> simp [h2]
  · rw [if_neg h, if_neg (by omega)]
theorem getD_tf {l : Array Bool} {j : Nat} (h : l.getD j true = false) : l.getD j false = false ∧ j < l.size := by
  rw [Array.getD_eq_getD_getElem?] at *
  cases hc : l[j]? with
  | none => rw [hc] at h; cases h
  | some b => rw [hc] at h; exact ⟨h, (Array.getElem?_eq_some_iff.1 hc).1⟩
theorem getD_ft {l : Array Bool} {j : Nat} (h : l.getD j false = true) : l.getD j true = true := by
  rw [Array.getD_eq_getD_getElem?] at *
  cases hc : l[j]? with
  | none => rfl
  | some b => rw [hc] at h; exact h
theorem mem_ready {listed : Array Bool} {i : Nat} : i ∈ Region.ready .any ops listed ↔ listed.getD i true = false ∧ ∃ o, ops[i]? = some o ∧ ∀ j ∈ esOf o, listed.getD j false = true := by
  unfold Region.ready
  rw [List.mem_filter, List.mem_range]
  simp only [Bool.and_eq_true, Bool.not_eq_true']
  have key : ∀ o : Oper, (o.after.all fun e => !Region.binds .any e || listed.getD e.on false) = true ↔ ∀ j ∈ esOf o, listed.getD j false = true := by
    intro o
    rw [Array.all_eq_true']
    unfold esOf
    constructor
    · intro h j hj
      obtain ⟨e, he, rfl⟩ := List.mem_map.1 hj
      rw [List.mem_filter] at he
      have := h e (by simpa using he.1)
      rw [he.2] at this; simpa using this
    · intro h e he
      cases hb : Region.binds .any e
      · rfl
      · simp only [Bool.not_true, Bool.false_or]
        exact h e.on (List.mem_map.2 ⟨e, List.mem_filter.2 ⟨by simpa using he, hb⟩, rfl⟩)
  constructor
  · rintro ⟨h1, h2, h3⟩
    refine ⟨h2, ops[i], by simp [h1], ?_⟩
    rw [← key]
    simpa [h1] using h3
  · rintro ⟨h1, o, h2, h3⟩
    refine ⟨(Array.getElem?_eq_some_iff.1 h2).1, h1, ?_⟩
    rw [h2]
    exact (key o).2 h3
theorem any_sound (O : CfgOk C cf) {rec : Nat → List Nat × U} {sn : St} (hQ : ∀ a' w' G', Inv C sn a' w' G' → Q .normal a' w') {an : List (List Nat)} (hedge : ∀ i o, ops[i]? = some o → ∀ j ∈ esOf o, j < i)
    (han : ∀ i o, ops[i]? = some o → ∀ x ∈ an.getD i [], x ∈ esOf o ∨ ∃ j ∈ esOf o, x ∈ an.getD j []) (hind : ∀ j, j < ops.size → ∀ i, i < j → i ∉ an.getD j [] → Ind (rec i) (rec j)) :
    ∀ (fuel : Nat) (listed : Array Bool) (L : List Nat) (s : St) (a : Act) (w : World) (G : Gh), L.length = fuel → List.Pairwise (· < ·) L → (∀ j, j ∈ L ↔ listed.getD j true = false) → listed.size = ops.size →
      (∀ i o, ops[i]? = some o → listed.getD i false = true → ∀ j ∈ esOf o, listed.getD j false = true) → Seq cf ops rec L s sn → Inv C s a w G → wpAny C.P .any ops Q fuel listed a w := by
  have clos : ∀ (listed : Array Bool), (∀ i o, ops[i]? = some o → listed.getD i false = true → ∀ j ∈ esOf o, listed.getD j false = true) → ∀ (n i : Nat), i < n → ∀ o, ops[i]? = some o → (∀ j ∈ esOf o, listed.getD j false = true) → ∀ x ∈ an.getD i [], listed.getD x false = true := by
    intro listed hd n
    induction n with
    | zero => intro i hi; omega
    | succ n ih =>
      intro i hi o ho he x hx
      rcases han i o ho x hx with h1 | ⟨j, h1, h2⟩
      · exact he x h1
      · have hj := hedge i o ho j h1
        have hjs : j < ops.size := Nat.lt_trans hj (Array.getElem?_eq_some_iff.1 ho).1
        have hoj : ops[j]? = some ops[j] := by simp [hjs]
        exact ih j (by omega) _ hoj (hd j _ hoj (he j h1)) x h2
  intro fuel
  induction fuel with
  | zero =>
    intro listed L s a w G hl hp hm hs hd hseq I
    have : L = [] := List.length_eq_zero_iff.1 hl
    subst this
    refine ⟨?_, ?_⟩
    · rw [List.eq_nil_iff_forall_not_mem]
      intro i hi
      rw [mem_ready] at hi
      have := (hm i).2 hi.1
      cases this
    · have hseq : s = sn := hseq
      subst hseq; exact hQ _ _ _ I
  | succ fuel ih =>
    intro listed L s a w G hl hp hm hs hd hseq I
    refine ⟨fun hr => ?_, fun i hi => ?_⟩
    · exfalso
      cases L with
      | nil => cases hl
      | cons i0 L' =>
        rw [List.pairwise_cons] at hp
        have h0 := (hm i0).1 List.mem_cons_self
        have hlt : i0 < ops.size := by rw [← hs]; exact (getD_tf h0).2
        have ho : ops[i0]? = some ops[i0] := by simp [hlt]
        have : i0 ∈ Region.ready .any ops listed := mem_ready.2 ⟨h0, _, ho, fun j hj => by
          have hlt := hedge i0 _ ho j hj
          cases hc : listed.getD j false
          · exfalso
            have hjs : j < listed.size := by omega
            have : listed.getD j true = false := by
              rw [Array.getD_eq_getD_getElem?] at hc ⊢
              rw [Array.getElem?_eq_getElem hjs] at hc ⊢
              exact hc
            rcases List.mem_cons.1 ((hm j).2 this) with e | hjm
            · omega
            · have := hp.1 j hjm; omega
          · rfl⟩
        rw [hr] at this; cases this
    · obtain ⟨h1, o, ho, hes⟩ := mem_ready.1 hi
      have hiL := (hm i).2 h1
      obtain ⟨⟨o', ho', hrun⟩, hseq'⟩ := bubble hseq hp hiL fun j hj hlt => hind i (Array.getElem?_eq_some_iff.1 ho).1 j hlt fun hja => by
        have := clos listed hd (i + 1) i (Nat.lt_succ_self i) o ho hes j hja
        rw [(getD_tf ((hm j).1 hj)).1] at this; cases this
      have hnd : L.Nodup := hp.imp fun h => Nat.ne_of_lt h
      refine exec1_sound O ho' I ⟨(rec i).1, hrun⟩ fun a' w' G' I' => ih _ (L.erase i) _ a' w' G' (by rw [List.length_erase_of_mem hiL, hl]; rfl) (hp.sublist List.erase_sublist) (fun j => ?_) (by simp [hs]) (fun k ok hk hlk j hj => ?_) hseq' I'
      · rw [hnd.mem_erase_iff, hm j, setL]
        have his : i < listed.size := (getD_tf h1).2
        by_cases e : j = i
        · simp [e, his]
        · simp [e]
      · rw [setL] at hlk ⊢
        split
        · rfl
        · by_cases e : k = i ∧ i < listed.size
          · obtain ⟨rfl, _⟩ := e
            rw [ho] at hk; cases hk
            exact hes j hj
          · rw [if_neg e] at hlk
            exact hd k ok hk hlk j hj
theorem evR_sound (O : CfgOk C cf) (hmix : C.P.follows .mixedOrders = true) {R : Type} {id : Nat} {draw : Bool} {K : St → Option R} {r : R} (h : evR cf ops draw st K = some r) (I : Inv C st a w G)
    (hQ : ∀ st' a' w' G', K st' = some r → Inv C st' a' w' G' → Q .normal a' w') : (Code.region id ops draw).wp C.P Q a w := by
  unfold evR at h
  obtain ⟨rec, sn, hseq, hK⟩ := goOps_seq ops.toList 0 st [] h (fun k => by simp)
  have hlen : ops.toList.length = ops.size := Array.length_toList
  rw [hlen] at hseq hK
  cases draw with
  | false =>
    simp only [cond_false] at hK
    refine wp_region ?_
    rw [List.range_eq_range']
    exact seq_sound O (fun a' w' G' I' => hQ sn a' w' G' hK I') _ hseq I
  | true =>
    simp only [cond_true] at hK
    cases hc : backB ops.toList 0 && indepAll (ancs ops.toList []) ([] ++ (List.range' 0 ops.size).map fun j => ((rec j).1.reverse, (rec j).2.map (·.1)))
    · rw [hc] at hK; cases hK
    rw [hc] at hK
    simp only [cond_true] at hK
    rw [Bool.and_eq_true] at hc
    refine wp_region_any hmix (any_sound O (fun a' w' G' I' => hQ sn a' w' G' hK I') (an := ancs ops.toList []) (rec := rec) (fun i o ho j hj => ?_) (fun i o ho x hx => ?_) (fun j hj i hi hnot => ?_) ops.size _ (List.range' 0 ops.size) st a _ G (by simp) ?_ (fun j => ?_) (by simp) (fun i o ho hl => ?_) hseq ?_)
    · have := backB_ok ops.toList 0 hc.1 i o (by simpa using ho) j hj
      omega
    · exact ancs_ok ops.toList [] [] rfl (fun i o h => by simp at h) i o (by simpa using ho) x hx
    · have hin := hc.2
      unfold indepAll at hin
      simp only [List.nil_append, List.length_map, List.length_range', List.all_eq_true, List.mem_range, Bool.or_eq_true] at hin
      have hget : ∀ k, k < ops.size → ((List.range' 0 ops.size).map fun j => ((rec j).1.reverse, (rec j).2.map (·.1))).getD k ([], []) = ((rec k).1.reverse, (rec k).2.map (·.1)) := fun k hk => by
        simp [List.getD, hk]
      rcases hin j hj i hi with h1 | h1
      · exfalso
        obtain ⟨x, hx, he⟩ := List.any_eq_true.1 h1
        exact hnot (by rw [Nat.eq_of_beq_eq_true he]; exact hx)
      · rw [hget j hj, hget i (by omega)] at h1
        unfold indep2 at h1
        simp only [Bool.and_eq_true, disj_iff] at h1
        obtain ⟨⟨h1, h2⟩, h3⟩ := h1
        refine ⟨fun p hp hm => h1 p.1 (List.mem_map.2 ⟨p, hp, rfl⟩) p.1 (by simpa using hm) rfl, fun p hp q hq e => h2 p.1 (List.mem_map.2 ⟨p, hp, rfl⟩) q.1 (List.mem_map.2 ⟨q, hq, rfl⟩) e, fun q hq hm => h3 q.1 (by simpa using hm) q.1 (List.mem_map.2 ⟨q, hq, rfl⟩) rfl⟩
    · exact List.pairwise_lt_range'
    · rw [List.mem_range'_1, Array.getD_eq_getD_getElem?]
      by_cases hj : j < ops.size
      · simp [hj]
      · simp [hj]
    · exfalso
      rw [Array.getD_eq_getD_getElem?] at hl
      by_cases hj : i < ops.size
      · simp [hj] at hl
      · simp [hj] at hl
    · exact inv_grow (w' := { w with drawn := w.drawn + 1 }) I rfl rfl rfl (Nat.le_refl _) (fun b _ => rfl)
end
end Go.Proofs.Ytckkagmccbkfbaa.E
namespace Go.Proofs.Ytckkagmccbkfbaa.E
open Go Go.RowKit
set_option linter.unusedVariables false
set_option linter.unusedSimpArgs false
section
variable {C : Cx} {cf : Cfg} {st st' : St} {a : Act} {w w' : World} {G G' : Gh} {us : U}
/-- What an entry of a standard state is made of. -/
def EntK (st : St) (rs : List (Nat × Option Nat)) (bs : List (Nat × Nat)) (lo hi : Nat) (q : Nat × Cell) : Prop :=
  (∃ e l d o, q = (rk d, .root 0 0 e l) ∧ (d, o) ∈ rs ∧ lo ≤ d ∧ d < hi ∧ (∀ t, o = some t → ∃ g h, st (rk t) = .root g h e l) ∧ (o = none → l = [])) ∨
  (∃ T v d b, q = (bk d, .box 0 T v) ∧ (d, b) ∈ bs ∧ lo ≤ d ∧ d < hi ∧ ∃ g c, st (bk b) = .box g T c)
theorem EntK.mono {rs rs' : List (Nat × Option Nat)} {bs bs' : List (Nat × Nat)} {lo hi lo' hi' : Nat} {q : Nat × Cell} (h : EntK st rs bs lo hi q) (h1 : ∀ p ∈ rs, p ∈ rs') (h2 : ∀ p ∈ bs, p ∈ bs') (h3 : lo' ≤ lo) (h4 : hi ≤ hi') : EntK st rs' bs' lo' hi' q := by
  rcases h with ⟨e, l, d, o, k1, k2, k3, k4, k5⟩ | ⟨T, v, d, b, k1, k2, k3, k4, k5⟩
  · exact .inl ⟨e, l, d, o, k1, h1 _ k2, by omega, by omega, k5⟩
  · exact .inr ⟨T, v, d, b, k1, h2 _ k2, by omega, by omega, k5⟩
def rng (lo hi : Nat) (k : Nat) : Prop := ∃ d, lo ≤ d ∧ d < hi ∧ (k = rk d ∨ k = bk d)
theorem rng_mono {lo hi lo' hi' k : Nat} (h : rng lo hi k) (h1 : lo' ≤ lo) (h2 : hi ≤ hi') : rng lo' hi' k := by
  obtain ⟨d, h3, h4, h5⟩ := h; exact ⟨d, by omega, by omega, h5⟩
theorem rng_dis {lo hi lo' hi' k : Nat} (h : rng lo hi k) (h' : rng lo' hi' k) (hd : hi ≤ lo' ∨ hi' ≤ lo) : False := by
  obtain ⟨d, h3, h4, h5⟩ := h
  obtain ⟨d', h3', h4', h5'⟩ := h'
  unfold rk bk at *; omega
/-- The facts that need no invariant: keys and origins. -/
structure ExtK (st : St) (sh : Shp) (x : den sh.ty) (d : Nat) (rs : List (Nat × Option Nat)) (bs : List (Nat × Nat)) (d' : Nat) : Prop where
  le : d ≤ d'
  fin : (mkS sh x d).2.2 = d'
  ents : ∀ q ∈ (mkS sh x d).2.1, EntK st rs bs d d' q
  keys : ((mkS sh x d).2.1.map (·.1)).Nodup
  rsd : ∀ q ∈ rs, d ≤ q.1 ∧ q.1 < d'
  bsd : ∀ q ∈ bs, d ≤ q.1 ∧ q.1 < d'
  rsn : (rs.map (·.1)).Nodup
  bsn : (bs.map (·.1)).Nodup
theorem entK_rng {rs : List (Nat × Option Nat)} {bs : List (Nat × Nat)} {lo hi : Nat} {q : Nat × Cell} (h : EntK st rs bs lo hi q) : rng lo hi q.1 := by
  rcases h with ⟨e, l, d, o, rfl, _, k3, k4, _⟩ | ⟨T, v, d, b, rfl, _, k3, k4, _⟩
  · exact ⟨d, k3, k4, .inl rfl⟩
  · exact ⟨d, k3, k4, .inr rfl⟩
theorem nodup_app {α : Type} {l m : List α} (h1 : l.Nodup) (h2 : m.Nodup) (h : ∀ x ∈ l, x ∈ m → False) : (l ++ m).Nodup :=
  List.nodup_append.2 ⟨h1, h2, fun x hx y hy e => h x hx (e ▸ hy)⟩
theorem some4 {α β γ δ : Type} {a a' : α} {b b' : β} {c c' : γ} {d d' : δ} (h : (some (a, b, c, d) : Option (α × β × γ × δ)) = some (a', b', c', d')) : a = a' ∧ b = b' ∧ c = c' ∧ d = d' := by
  cases h; exact ⟨rfl, rfl, rfl, rfl⟩
theorem ext_keys : ∀ (sh : Shp) (v : SV) (d : Nat) {x : den sh.ty} {rs : List (Nat × Option Nat)} {bs : List (Nat × Nat)} {d' : Nat}, extS st sh v d = some (x, rs, bs, d') → ExtK st sh x d rs bs d'
  | .v T, v, d, x, rs, bs, d', h => by
    simp only [extS] at h
    unfold extV at h
    split at h
    · split at h
      · obtain ⟨_, rfl, rfl, rfl⟩ := some4 h
        exact ⟨Nat.le_refl _, rfl, fun q hq => (by cases hq), List.nodup_nil, fun q hq => (by cases hq), fun q hq => (by cases hq), List.nodup_nil, List.nodup_nil⟩
      · cases h
    · cases h
  | .r e, v, d, x, rs, bs, d', h => by
    have fin : ∀ (l : List (den e)) (o : Option Nat), (some ((l : den (Shp.r e).ty), [(d, o)], ([] : List (Nat × Nat)), d + 1) = some (x, rs, bs, d')) → (∀ t, o = some t → ∃ g h, st (rk t) = .root g h e l) → (o = none → l = []) → ExtK st (.r e) x d rs bs d' := by
      intro l o h h1 h2
      obtain ⟨rfl, rfl, rfl, rfl⟩ := some4 h
      refine ⟨Nat.le_succ _, rfl, fun q hq => ?_, by simp [mkS], fun q hq => ?_, fun q hq => (by cases hq), by simp, List.nodup_nil⟩
      · have hq : q ∈ [(rk d, Cell.root 0 0 e l)] := hq
        simp only [List.mem_singleton] at hq
        exact .inl ⟨e, l, d, o, hq, by simp, Nat.le_refl _, Nat.lt_succ_self _, h1, h2⟩
      · simp only [List.mem_singleton] at hq; subst hq; exact ⟨Nat.le_refl _, Nat.lt_succ_self _⟩
    simp only [extS] at h
    unfold extR at h
    cases v with
    | nil => exact fin [] none h (fun t ht => by cases ht) (fun _ => rfl)
    | ref t g e1 =>
      simp only at h
      split at h
      case h_2 => cases h
      rename_i g' hh e' l hr
      split at h
      case isFalse => cases h
      rename_i he; subst he
      cases hb : Nat.beq g g'
      · rw [hb] at h; cases h
      · rw [hb] at h
        exact fin l (some t) h (fun t' ht => by cases ht; exact ⟨g', hh, hr⟩) (fun e => by cases e)
    | _ => cases h
  | .bx c, v, d, x, rs, bs, d', h => by
    simp only [extS] at h
    unfold extB at h
    split at h
    case h_2 => cases h
    rename_i b g
    split at h
    case h_2 => cases h
    · rename_i g' B v' hr
      cases hb : (Nat.beq g g' && decide (B = c.ty))
      · rw [hb] at h; cases h
      rw [hb] at h; simp only [cond_true] at h
      split at h
      case h_2 => cases h
      rename_i y rs1 bs1 d1 he
      obtain ⟨rfl, rfl, rfl, rfl⟩ := some4 h
      simp only [Bool.and_eq_true, decide_eq_true_eq] at hb
      have ih := ext_keys c v' (d + 1) he
      have hle := ih.le
      refine ⟨by omega, ih.fin, fun q hq => ?_, ?_, fun q hq => ?_, fun q hq => ?_, ih.rsn, ?_⟩
      · rcases List.mem_cons.1 hq with hq | hq
        · exact .inr ⟨c.ty, _, d, b, hq, by simp, Nat.le_refl _, by omega, g', v', by rw [hr, hb.2]⟩
        · exact (ih.ents q hq).mono (fun _ h => h) (fun _ h => List.mem_cons_of_mem _ h) (Nat.le_succ _) (Nat.le_refl _)
      · show ((bk d, _) :: (mkS c _ (d + 1)).2.1 |>.map (·.1)).Nodup
        rw [List.map_cons, List.nodup_cons]
        refine ⟨fun hm => ?_, ih.keys⟩
        obtain ⟨q, hq, he⟩ := List.mem_map.1 hm
        have hr2 := entK_rng (ih.ents q hq)
        rw [he] at hr2
        exact rng_dis hr2 (⟨d, Nat.le_refl _, Nat.lt_succ_self _, .inr rfl⟩ : rng d (d + 1) (bk d)) (.inr (Nat.le_refl _))
      · have := ih.rsd q hq; omega
      · rcases List.mem_cons.1 hq with hq | hq
        · subst hq; exact ⟨Nat.le_refl _, by omega⟩
        · have := ih.bsd q hq; omega
      · rw [List.map_cons, List.nodup_cons]
        refine ⟨fun hm => ?_, ih.bsn⟩
        obtain ⟨q, hq, he⟩ := List.mem_map.1 hm
        have := ih.bsd q hq
        have he : q.1 = d := he
        omega
  | .unit, v, d, x, rs, bs, d', h => by
    simp only [extS] at h
    unfold extU at h
    split at h
    case h_2 => cases h
    obtain ⟨_, rfl, rfl, rfl⟩ := some4 h
    exact ⟨Nat.le_refl _, rfl, fun q hq => (by cases hq), List.nodup_nil, fun q hq => (by cases hq), fun q hq => (by cases hq), List.nodup_nil, List.nodup_nil⟩
  | .pair a b, v, d, x, rs, bs, d', h => by
    simp only [extS] at h
    unfold extP at h
    split at h
    case h_2 => cases h
    rename_i v1 v2
    split at h
    case h_2 => cases h
    rename_i y1 rs1 bs1 d1 he1
    split at h
    case h_2 => cases h
    rename_i y2 rs2 bs2 d2 he2
    obtain ⟨rfl, rfl, rfl, rfl⟩ := some4 h
    have i1 := ext_keys a v1 d he1
    have i2 := ext_keys b v2 d1 he2
    have l1 := i1.le
    have l2 := i2.le
    have hm : (mkS (.pair a b) (y1, y2) d).2.1 = (mkS a y1 d).2.1 ++ (mkS b y2 d1).2.1 := by
      show _ ++ (mkS b y2 (mkS a y1 d).2.2).2.1 = _
      rw [i1.fin]
    refine ⟨by omega, ?_, fun q hq => ?_, ?_, fun q hq => ?_, fun q hq => ?_, ?_, ?_⟩
    · show (mkS b y2 (mkS a y1 d).2.2).2.2 = _
      rw [i1.fin, i2.fin]
    · rw [hm] at hq
      rcases List.mem_append.1 hq with hq | hq
      · exact (i1.ents q hq).mono (fun _ h => List.mem_append_left _ h) (fun _ h => List.mem_append_left _ h) (Nat.le_refl _) l2
      · exact (i2.ents q hq).mono (fun _ h => List.mem_append_right _ h) (fun _ h => List.mem_append_right _ h) l1 (Nat.le_refl _)
    · rw [hm, List.map_append]
      refine nodup_app i1.keys i2.keys fun k h1 h2 => ?_
      obtain ⟨q, hq, rfl⟩ := List.mem_map.1 h1
      obtain ⟨q', hq', he⟩ := List.mem_map.1 h2
      have r1 := entK_rng (i1.ents q hq)
      have r2 := entK_rng (i2.ents q' hq')
      rw [he] at r2
      exact rng_dis r1 r2 (.inl (Nat.le_refl _))
    · rcases List.mem_append.1 hq with hq | hq
      · have := i1.rsd q hq; omega
      · have := i2.rsd q hq; omega
    · rcases List.mem_append.1 hq with hq | hq
      · have := i1.bsd q hq; omega
      · have := i2.bsd q hq; omega
    · rw [List.map_append]
      refine nodup_app i1.rsn i2.rsn fun k h1 h2 => ?_
      obtain ⟨q, hq, rfl⟩ := List.mem_map.1 h1
      obtain ⟨q', hq', he⟩ := List.mem_map.1 h2
      have := i1.rsd q hq
      have := i2.rsd q' hq'
      have he : q'.1 = q.1 := he
      omega
    · rw [List.map_append]
      refine nodup_app i1.bsn i2.bsn fun k h1 h2 => ?_
      obtain ⟨q, hq, rfl⟩ := List.mem_map.1 h1
      obtain ⟨q', hq', he⟩ := List.mem_map.1 h2
      have := i1.bsd q hq
      have := i2.bsd q' hq'
      have he : q'.1 = q.1 := he
      omega
  | .st a, v, d, x, rs, bs, d', h => by
    have fin : ∀ v', extS st a v' d = some (x, rs, bs, d') → ExtK st (.st a) x d rs bs d' := fun v' h => by
      have ih := ext_keys a v' d h
      exact ⟨ih.le, ih.fin, ih.ents, ih.keys, ih.rsd, ih.bsd, ih.rsn, ih.bsn⟩
    simp only [extS] at h
    unfold extT at h
    cases v with
    | st v' => exact fin _ h
    | val T x0 =>
      simp only at h
      split at h
      · exact fin _ h
      · cases h
    | _ => cases h
/-- The values of a standard state. -/
structure Mapd (G G' : Gh) (rs : List (Nat × Option Nat)) (bs : List (Nat × Nat)) : Prop where
  rsm : ∀ d t, (d, some t) ∈ rs → G'.hd (rk d) = G.hd (rk t)
  rsz : ∀ d, (d, none) ∈ rs → G'.hd (rk d) = .slice none 0 0
  bsm : ∀ d b, (d, b) ∈ bs → G'.bx (bk d) = G.bx (bk b)
theorem Mapd.mono {rs rs' : List (Nat × Option Nat)} {bs bs' : List (Nat × Nat)} (h : Mapd G G' rs bs) (h1 : ∀ p ∈ rs', p ∈ rs) (h2 : ∀ p ∈ bs', p ∈ bs) : Mapd G G' rs' bs' :=
  ⟨fun d t hm => h.rsm d t (h1 _ hm), fun d hm => h.rsz d (h1 _ hm), fun d b hm => h.bsm d b (h2 _ hm)⟩
theorem ext_vals (I : InvM C st w G) (hS : ∀ b, Fz st G w b → Fz st' G' w b) : ∀ (sh : Shp) (v : SV) (d : Nat) {x : den sh.ty} {rs : List (Nat × Option Nat)} {bs : List (Nat × Nat)} {d' : Nat} {cs : List Value}, extS st sh v d = some (x, rs, bs, d') →
    SX C.P st G w (Fz st G w) v false cs → (∀ q ∈ (mkS sh x d).2.1, st' q.1 = q.2) → Mapd G G' rs bs →
    SX C.P st' G' w (Fz st' G' w) (mkS sh x d).1 false cs ∧ (mkS sh x d).1.hasTy sh.ty = true ∧ valS (mkS sh x d).1 cs = valS v cs ∧
      ∀ k g T u, (k, Cell.box g T u) ∈ (mkS sh x d).2.1 → u.hasTy T = true ∧ ∃ arr ty, w.heap[G'.bx k]? = some (.cells arr ty (0, 0)) ∧ SX C.P st' G' w (Fz st' G' w) u false arr.toList
  | .v T, v, d, x, rs, bs, d', cs, h, hs, hst, hM => by
    simp only [extS] at h
    unfold extV at h
    split at h
    case h_2 => cases h
    rename_i T' x' hp
    split at h
    case isFalse => cases h
    rename_i e; subst e
    obtain ⟨rfl, rfl, rfl, rfl⟩ := some4 h
    refine ⟨?_, by simp [mkS, SV.hasTy, Shp.ty], (plainS_valS v hp).symm, fun k g T u hq => (by cases hq)⟩
    exact RX_congr C.P T' false (Nat.le_refl _) (fun b hb _ => ⟨hS b hb, rfl⟩) (fun b hb => hb.1) (plainS_sx v hp hs)
  | .r e, v, d, x, rs, bs, d', cs, h, hs, hst, hM => by
    simp only [extS] at h
    unfold extR at h
    cases v with
    | nil =>
      obtain ⟨rfl, rfl, rfl, rfl⟩ := some4 h
      have hs : cs = [.slice none 0 0] := hs
      subst hs
      refine ⟨⟨_, rfl, rfl, Nat.zero_le _, fun h e' l hr => ?_⟩, by simp [mkS, SV.hasTy, Shp.ty], rfl, fun k g T u hq => ?_⟩
      · have := hst (rk d, .root 0 0 e []) (by simp [mkS])
        simp only at this
        rw [this] at hr; cases hr
        exact ⟨(hM.rsz d (by simp)).symm, rfl⟩
      · simp [mkS] at hq
    | ref t g e1 =>
      simp only at h
      split at h
      case h_2 => cases h
      rename_i g' hh e' l hr
      split at h
      case isFalse => cases h
      rename_i he; subst he
      cases hb : Nat.beq g g'
      · rw [hb] at h; cases h
      rw [hb] at h
      obtain ⟨rfl, rfl, rfl, rfl⟩ := some4 h
      have hg : g = g' := Nat.eq_of_beq_eq_true hb
      subst hg
      obtain ⟨xv, rfl, ho, _, hx⟩ := hs
      obtain ⟨rfl, _⟩ := hx _ _ _ hr
      refine ⟨⟨_, rfl, ho, Nat.zero_le _, fun h e2 l2 hr2 => ?_⟩, by simp [mkS, SV.hasTy, Shp.ty], rfl, fun k g T u hq => ?_⟩
      · have := hst (rk d, .root 0 0 e' l) (by simp [mkS])
        simp only at this
        rw [this] at hr2; cases hr2
        exact ⟨(hM.rsm d t (by simp)).symm, rfl⟩
      · simp [mkS] at hq
    | _ => cases h
  | .bx c, v, d, x, rs, bs, d', cs, h, hs, hst, hM => by
    simp only [extS] at h
    unfold extB at h
    split at h
    case h_2 => cases h
    rename_i b g
    split at h
    case h_2 => cases h
    · rename_i g' B v' hr
      cases hb : (Nat.beq g g' && decide (B = c.ty))
      · rw [hb] at h; cases h
      rw [hb] at h; simp only [cond_true] at h
      split at h
      case h_2 => cases h
      rename_i y rs1 bs1 d1 he
      obtain ⟨rfl, rfl, rfl, rfl⟩ := some4 h
      simp only [Bool.and_eq_true, decide_eq_true_eq] at hb
      have hg : g = g' := Nat.eq_of_beq_eq_true hb.1
      subst hg
      obtain ⟨xv, rfl, ho, _, hx⟩ := hs
      obtain ⟨ht, arr, ty, ha, hv⟩ := I.bx _ _ _ _ hr
      have hbx := hM.bsm d b (by simp)
      obtain ⟨k1, k2, k3, k4⟩ := ext_vals I hS c v' (d + 1) he hv (fun q hq => hst q (List.mem_cons_of_mem _ hq)) (hM.mono (fun _ h => h) (fun _ h => List.mem_cons_of_mem _ h))
      refine ⟨⟨xv, rfl, ho, Nat.zero_le _, fun T u hr2 => ?_⟩, rfl, rfl, fun k g T u hq => ?_⟩
      · rw [hx _ _ hr, hbx]; rfl
      · rcases List.mem_cons.1 hq with hq | hq
        · simp only [Prod.mk.injEq, Cell.box.injEq] at hq
          obtain ⟨rfl, _, rfl, rfl⟩ := hq
          exact ⟨k2, arr, ty, by rw [hbx]; exact ha, k1⟩
        · exact k4 k g T u hq
  | .unit, v, d, x, rs, bs, d', cs, h, hs, hst, hM => by
    simp only [extS] at h
    unfold extU at h
    split at h
    case h_2 => cases h
    obtain ⟨_, rfl, rfl, rfl⟩ := some4 h
    exact ⟨hs, rfl, rfl, fun k g T u hq => (by cases hq)⟩
  | .pair a b, v, d, x, rs, bs, d', cs, h, hs, hst, hM => by
    simp only [extS] at h
    unfold extP at h
    split at h
    case h_2 => cases h
    rename_i v1 v2
    split at h
    case h_2 => cases h
    rename_i y1 rs1 bs1 d1 he1
    split at h
    case h_2 => cases h
    rename_i y2 rs2 bs2 d2 he2
    obtain ⟨rfl, rfl, rfl, rfl⟩ := some4 h
    obtain ⟨c1, c2, rfl, s1, s2⟩ := hs
    have hf := (ext_keys a v1 d he1).fin
    have hm : (mkS (.pair a b) (y1, y2) d).2.1 = (mkS a y1 d).2.1 ++ (mkS b y2 d1).2.1 := by
      show _ ++ (mkS b y2 (mkS a y1 d).2.2).2.1 = _
      rw [hf]
    have hv : (mkS (.pair a b) (y1, y2) d).1 = .pair (mkS a y1 d).1 (mkS b y2 d1).1 := by
      show SV.pair _ (mkS b y2 (mkS a y1 d).2.2).1 = _
      rw [hf]
    rw [hm] at hst
    obtain ⟨k1, k2, k3, k4⟩ := ext_vals I hS a v1 d he1 s1 (fun q hq => hst q (List.mem_append_left _ hq)) (hM.mono (fun _ h => List.mem_append_left _ h) (fun _ h => List.mem_append_left _ h))
    obtain ⟨j1, j2, j3, j4⟩ := ext_vals I hS b v2 d1 he2 s2 (fun q hq => hst q (List.mem_append_right _ hq)) (hM.mono (fun _ h => List.mem_append_right _ h) (fun _ h => List.mem_append_right _ h))
    rw [hv, hm]
    refine ⟨⟨c1, c2, rfl, k1, j1⟩, by show ((mkS a y1 d).1.hasTy a.ty && (mkS b y2 d1).1.hasTy b.ty) = true; rw [k2, j2]; rfl, rfl, fun k g T u hq => ?_⟩
    rcases List.mem_append.1 hq with hq | hq
    · exact k4 k g T u hq
    · exact j4 k g T u hq
  | .st a, v, d, x, rs, bs, d', cs, h, hs, hst, hM => by
    simp only [extS] at h
    unfold extT at h
    cases v with
    | st v' =>
      obtain ⟨k1, k2, k3, k4⟩ := ext_vals I hS a v' d (cs := cs) h hs hst hM
      exact ⟨k1, k2, rfl, k4⟩
    | val T x0 =>
      simp only at h
      split at h
      case h_2 => cases h
      rename_i v1 hv1
      cases T <;> simp only [stFld, reduceCtorEq] at hv1
      rename_i f
      cases hl : f.isList
      · rw [hl] at hv1; cases hv1
      rw [hl] at hv1
      simp only [cond_true, Option.some.injEq] at hv1
      subst hv1
      have hs : RX C.P f false w (Fz st G w) cs x0 := hs
      obtain ⟨k1, k2, k3, k4⟩ := ext_vals I hS a (expd f x0) d (cs := cs) h (SX_expd f hl hs).1 hst hM
      exact ⟨k1, k2, rfl, k4⟩
    | _ => cases h
end
end Go.Proofs.Ytckkagmccbkfbaa.E
