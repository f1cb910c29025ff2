/-
  What the Go functions that FnExactFindOfKind reaches hand back, each as a plain function with a proof that the call does so, and plain lemmas on them. Conditions: those of each theorem.
-/
import Derived.Test.YtmlgfaojfmkdnaaCFnExactFindOfKind5
namespace Go.Proofs.Ytmlgfaojfmkdnaa.E
open Go Go.Proofs Go.Proofs.Ytmlgfaojfmkdnaa Go.RowKit
set_option maxRecDepth 100000
set_option maxHeartbeats 8000000
set_option linter.unusedVariables false
theorem ov_set {L : Nat → Bool} {q : Nat × Value} : ∀ (l : List (Nat × Value)) (i k : Nat) (a : Act), L (i + k) = false → ov L i (l.set k q) a = ov L i l a
  | [], _, _, _, _ => rfl
  | p :: l, i, 0, a, h => by
    have h : L i = false := h
    simp only [List.set_cons_zero, ov, h, pif_false]
  | p :: l, i, k + 1, a, h => by
    simp only [List.set_cons_succ, ov]
    exact ov_set l (i + 1) k _ (by rw [← h]; congr 1; omega)
/-- a list of functions that came in, read by its cells -/
theorem rx_cells {P : Program} {w : World} {S : Nat → Prop} {kv : Value} {l : List DFg} (h : RX P (.sl tq0) false w S [kv] l) : ∃ a c, kv = .slice a l.length c ∧ l.length ≤ c ∧ (l = [] ∨ ∃ b o, a = some ⟨b, o, none⟩ ∧ S b ∧ ∀ i y, l[i]? = some y → w.cell? ⟨b, o + i * 2, none⟩ = some (.int .i64 y.1) ∧ w.cell? ⟨b, o + i * 2 + 1, none⟩ = some (.int .i64 y.2.1)) := by
  obtain ⟨a, n, c, h1, h2, h3, h4⟩ := h
  have h1 : kv = .slice a n c := by simpa using h1
  refine ⟨a, c, by rw [h1, h2], by rw [← h2]; exact h3, ?_⟩
  rcases h4 with h4 | ⟨b, o, arr, ty, fz, h5, h6, h7, h8, h9⟩
  · exact .inl h4
  · refine .inr ⟨b, o, h5, h6, fun i y hy => ?_⟩
    have hr := h9 i y hy
    have hs : (tq0).sz = 2 := rfl
    rw [hs] at hr
    obtain ⟨c1, c2, e1, rfl, c3, c4, e2, rfl, e3⟩ := hr
    have e3 : c4 = [] := e3
    subst e3
    rw [e2] at e1
    have g0 := congrArg (·[0]?) e1
    have g1 := congrArg (·[1]?) e1
    simp only [seg_get] at g0 g1
    have h7' : ∀ j, w.cell? ⟨b, j, none⟩ = arr[j]? := fun j => by unfold World.cell?; rw [h7]; rfl
    rw [h7', h7']
    refine ⟨?_, ?_⟩
    · simpa using g0
    · simpa using g1
theorem rx_fr {p : GnP} {B : Nat} {row : Option Nat} {w w' : World} {kv : Value} {l : List DFg} {P : Program} (h : RX P (.sl tq0) false w (p.S B) [kv] l) (hB : B ≤ w.heap.size) (hf : Fr p row w w') (hr : ∀ k, row = some k → B ≤ k) : RX P (.sl tq0) false w' (p.S B) [kv] l :=
  RX_congr _ (.sl tq0) false hf.size (fun b h1 h2 => ⟨h1, hf.block b h2 h1.2.1 h1.2.2 fun e => by have := hr b e.symm; have := h1.1; omega⟩) (fun b h1 => Nat.lt_of_lt_of_le h1.1 (Nat.le_trans hB hf.size)) h
theorem row_own {w : World} {base e size n : Nat} {v : Value} {xs : List Value} (h : w.ownsRow base e size v n xs) : ∀ k, v.ownBlock = some k → base ≤ k ∧ k < w.heap.size := h.lt
/-- the slots of the region that appends and calls itself -/
def yl (p : GnP) (f h : DFg) (kv v : Value) (nb : Nat) (v' : Value) : List (Nat × Value) := [(48, .pointer (some ⟨p.G, 0, none⟩)), (49, .agg #[.int .i64 f.1, .int .i64 f.2.1]), (50, kv), (51, v), (52, .agg #[.int .i64 h.1, .int .i64 h.2.1]), (53, .slice (some ⟨nb, 0, none⟩) 1 1), (54, v'), (55, .int .i64 p.depth),
  (56, .func (.func 133) #[] #[.pointer (some ⟨p.gb, 0, none⟩), .pointer (some ⟨p.db, 0, none⟩), .pointer (some ⟨p.ab, 0, none⟩)]), (57, .bool true), (58, .bool false)]
theorem yl_dst (p : GnP) (f h : DFg) (kv v : Value) (nb : Nat) (v' : Value) : (yl p f h kv v nb v').map (·.1) = [48, 49, 50, 51, 52, 53, 54, 55, 56, 57, 58] := rfl
theorem yl_nd (p : GnP) (f h : DFg) (kv v : Value) (nb : Nat) (v' : Value) : ((yl p f h kv v nb v').map (·.1)).Nodup := by rw [yl_dst]; decide
structure YW (p : GnP) (B : Nat) (h : DFg) (v : Value) (now : List DFg) (st s2 : GSt) (W2 : World) (L : Nat → Bool) (nb : Nat) (v' : Value) (w : World) : Prop where
  nine : L 9 = true → L 6 = true
  gn : GnW p w (if L 9 = true then s2 else st)
  fr : Fr p v.ownBlock W2 w
  new : L 5 = true → W2.heap.size ≤ nb ∧ (L 9 = false → ∃ et, w.heap[nb]? = some (.cells #[.int .i64 h.1, .int .i64 h.2.1] et (0, 0)))
  row0 : L 6 = false → w.ownsRow B 23 2 v now.length (cellsOf now)
  row1 : L 6 = true → w.ownsRow B 23 2 v' (now ++ [h]).length (cellsOf (now ++ [h])) ∧ ((∃ q, v'.ownBlock = some q ∧ W2.heap.size ≤ q ∧ w.ownsRow B 23 2 v now.length (cellsOf now)) ∨ ∃ g cap, v = .slice (some ⟨g, 0, none⟩) now.length cap ∧ v' = .slice (some ⟨g, 0, none⟩) (now.length + 1) cap)
def YJ (p : GnP) (B : Nat) (f h : DFg) (kv v : Value) (now : List DFg) (st s2 : GSt) (W2 : World) (a0 : Act) (L : Nat → Bool) (a : Act) (w : World) : Prop := ∃ nb v', a = ov L 0 (yl p f h kv v nb v') a0 ∧ YW p B h v now st s2 W2 L nb v' w
theorem YJ.quiet {p : GnP} {B : Nat} {f h : DFg} {kv v : Value} {now : List DFg} {st s2 : GSt} {W2 : World} {a0 : Act} {L : Nat → Bool} {w : World} {nb : Nat} {v' : Value} {k d : Nat} {x : Value} (hw : YW p B h v now st s2 W2 L nb v' w) (hk : (yl p f h kv v nb v')[k]? = some (d, x)) (hL : L k = false) (h5 : k ≠ 5) (h6 : k ≠ 6) (h9 : k ≠ 9) :
    YJ p B f h kv v now st s2 W2 a0 (fun j => j == k || L j) ((ov L 0 (yl p f h kv v nb v') a0).put (some d) x) w := by
  have e5 : (5 == k) = false := by rw [beq_eq_false_iff_ne]; omega
  have e6 : (6 == k) = false := by rw [beq_eq_false_iff_ne]; omega
  have e9 : (9 == k) = false := by rw [beq_eq_false_iff_ne]; omega
  refine ⟨nb, v', by rw [ov_put (yl p f h kv v nb v') 0 k a0 (yl_nd ..) hk (by rw [Nat.zero_add]; exact hL), Nat.zero_add], ?_⟩
  obtain ⟨g1, g2, g3, g4, g5, g6⟩ := hw
  refine ⟨?_, ?_, g3, ?_, ?_, ?_⟩
  all_goals simp only [e5, e6, e9, Bool.false_or]
  all_goals assumption
/-- The world turns, nothing that is told. -/
theorem YW.kept {p : GnP} {B : Nat} {h : DFg} {v : Value} {now : List DFg} {st s2 : GSt} {W2 : World} {L : Nat → Bool} {w w' : World} {nb : Nat} {v' : Value} (hw : YW p B h v now st s2 W2 L nb v' w) (hb : Below w.heap.size w w') : YW p B h v now st s2 W2 L nb v' w' := by
  obtain ⟨g1, g2, g3, g4, g5, g6⟩ := hw
  refine ⟨g1, g2.below hb (Nat.le_refl _), g3.trans (Fr.below hb), fun h5 => ⟨(g4 h5).1, fun h9 => ?_⟩, fun h6 => row_kept (g5 h6) fun b _ h2 _ => hb.block b h2, fun h6 => ⟨row_kept (g6 h6).1 fun b _ h2 _ => hb.block b h2, ?_⟩⟩
  · obtain ⟨et, he⟩ := (g4 h5).2 h9
    exact ⟨et, by rw [hb.block _ (Array.getElem?_eq_some_iff.1 he).1]; exact he⟩
  · rcases (g6 h6).2 with ⟨q, q1, q2, q3⟩ | hx
    · exact .inl ⟨q, q1, q2, row_kept q3 fun b _ h2 _ => hb.block b h2⟩
    · exact .inr hx
theorem infoFT : (Try.prog.info? 23).map (fun i => (i.zero, i.size, i.bytes)) = some (some (.agg #[.int .i64 0, .int .i64 0]), 2, 16) := by kernel_rfl
theorem infoFT_parts : ∃ i, Try.prog.info? 23 = some i ∧ i.zero = some (.agg #[.int .i64 0, .int .i64 0]) ∧ i.size = 2 ∧ i.bytes = 16 := by
  have h := infoFT
  cases hc : Try.prog.info? 23 with
  | none => rw [hc] at h; cases h
  | some i =>
    rw [hc] at h
    simp only [Option.map_some, Option.some.injEq, Prod.mk.injEq] at h
    exact ⟨i, rfl, h.1, h.2.1, h.2.2⟩
theorem steps_succ (K : Nat) (p : GnP) (hp : p.Ok) (list : List DFg) (f : DFg) (known : List DFg) (kv : Value) (B m : Nat) (ih : StepsC K p list f known kv B m) (now : List DFg) (v : Value) (w : World) (s s' : GSt) (hw : GnW p w s) (hl : RX Try.prog (.sl tq0) false w (p.S B) [p.lv] list)
    (hk : RX Try.prog (.sl tq0) false w (p.S B) [kv] known) (hrow : w.ownsRow B 23 2 v now.length (cellsOf now)) (hB : B ≤ w.heap.size) (hPB : ∀ b, b = p.G ∨ b = p.gb ∨ b = p.db ∨ b = p.ab ∨ b = p.D → b < B) (hlen : (now.length : Int) ≠ f.1) (hnl : now.length < 1000) (hkl : known.length < 1000000)
    (h : foldF (fun s h => stepsF K list p.n f known p.depth m (now ++ [h]) s) known s = some s') : Calls Try.prog 132 (stepArgs p f kv v) w (StepsW p B now v s' w) := by
  unfold stepArgs
  have hlenv : ∃ a c, v = .slice a now.length c := by
    rcases hrow.2 with ⟨h1, h2⟩ | ⟨g, cap, cur, h1, _⟩
    · exact ⟨none, 0, by rw [h1, h2]⟩
    · exact ⟨_, _, h1⟩
  have hDB : p.D < B ∧ p.ab < B := ⟨hPB _ (by simp), hPB _ (by simp)⟩
  obtain ⟨va, vc, hv⟩ := hlenv
  obtain ⟨ka, kc, hkv, hkc, _⟩ := rx_cells hk
  have hb1 := made3_below w (.cells #[.pointer (some ⟨p.G, 0, none⟩)] 109) (.cells #[.int .i64 f.1, .int .i64 f.2.1] 23) (.cells #[.int .i64 p.depth] 2)
  have hbx := BoxW.made p f w
  obtain ⟨W1, hW1⟩ : ∃ W1, W1 = (((w.alloc (.cells #[.pointer (some ⟨p.G, 0, none⟩)] 109)).alloc (.cells #[.int .i64 f.1, .int .i64 f.2.1] 23)).alloc (.cells #[.int .i64 p.depth] 2)) := ⟨_, rfl⟩
  rw [← hW1] at hb1 hbx
  have hs1 : W1.heap.size = w.heap.size + 1 + 1 + 1 := by rw [hW1]; simp
  have A0 : Aside (GnW p W1 s ∧ BoxW p f w W1 ∧ W1.ownsRow B 23 2 v now.length (cellsOf now) ∧ Below w.heap.size w W1 ∧ W1.heap.size = w.heap.size + 1 + 1 + 1) :=
    ⟨hw.below hb1 (Nat.le_refl _), hbx, row_kept hrow fun b _ h2 _ => hb1.block b h2, hb1, hs1⟩
  have A1 : Aside (RX Try.prog (.sl tq0) false w (p.S B) [p.lv] list ∧ RX Try.prog (.sl tq0) false w (p.S B) [kv] known) := ⟨hl, hk⟩
  have A2 : Aside (foldF (fun s h => stepsF K list p.n f known p.depth m (now ++ [h]) s) known s = some s') := h
  have A3 : Aside (∀ k, v.ownBlock = some k → B ≤ k ∧ k < w.heap.size) := row_own hrow
  have A4 : Aside (∀ b, b = p.D ∨ b = p.ab → b < w.heap.size) := fun b hb => hw.lt b (by rcases hb with h | h <;> simp [h])
  obtain ⟨c6, c7, c8, c10⟩ := hbx.cells
  have e1 : ((now.length : Int) == f.1) = false := by rw [beq_eq_false_iff_ne]; exact hlen
  clear hbx h hlen hb1 hs1 hl hk hrow hw
  subst hv hkv hW1
  go_enter Try.func132, Try.ntmps132
  go_wp2
  have A5 : Aside (Fr p (Value.slice va now.length vc).ownBlock w _) := Fr.below (show Below w.heap.size w (((w.alloc (.cells #[.pointer (some ⟨p.G, 0, none⟩)] 109)).alloc (.cells #[.int .i64 f.1, .int .i64 f.2.1] 23)).alloc (.cells #[.int .i64 p.depth] 2)) from A0.2.2.2.1)
  go_loopw [44] (fun t44 wr => ∃ (i : Nat) (st : GSt), i ≤ known.length ∧ t44 = .int .i64 i ∧ GnW p wr st ∧ foldF (fun s h => stepsF K list p.n f known p.depth m (now ++ [h]) s) (known.drop i) st = some s' ∧ BoxW p f w wr ∧ wr.ownsRow B 23 2 (.slice va now.length vc) now.length (cellsOf now) ∧ Fr p (Value.slice va now.length vc).ownBlock w wr ∧ w.heap.size + 1 + 1 + 1 ≤ wr.heap.size) (fun t44 _ => known.length - (intOf t44).toNat)
  case atStart => exact ⟨0, s, Nat.zero_le _, rfl, A0.1, A2, A0.2.1, A0.2.2.1, A5, Nat.le_of_eq (A0.2.2.2.2).symm⟩
  case round =>
    obtain ⟨i, st, hi, rfl, hg, hfold, hbx, hrow, hfr, hsz⟩ := hrel
    by_cases hik : i = known.length
    · subst hik
      have A6 : Aside (st = s') := by
        rw [List.drop_length] at hfold
        injection hfold
      clear hfold
      go_wp2
      go_ret
      have hz : st = s' := A6
      subst hz
      exact ⟨rfl, hg, hrow, hfr⟩
    · have hi : i < known.length := by omega
      obtain ⟨h, hh⟩ : ∃ h, known[i]? = some h := ⟨_, List.getElem?_eq_getElem hi⟩
      have hdrop : known.drop i = h :: known.drop (i + 1) := by
        rw [List.drop_eq_getElem_cons hi]
        rw [List.getElem?_eq_getElem hi] at hh
        injection hh with hh; rw [hh]
      rw [hdrop] at hfold
      obtain ⟨s2, hs2, hfold2⟩ : ∃ s2, stepsF K list p.n f known p.depth m (now ++ [h]) st = some s2 ∧ foldF (fun s h => stepsF K list p.n f known p.depth m (now ++ [h]) s) (known.drop (i + 1)) s2 = some s' := by
        simp only [foldF] at hfold
        cases hc : stepsF K list p.n f known p.depth m (now ++ [h]) st with
        | none => rw [hc] at hfold; cases hfold
        | some s2 => rw [hc] at hfold; exact ⟨s2, rfl, hfold⟩
      have hlw := rx_fr A1.1 hB hfr fun k hk => (A3 k hk).1
      have hkw := rx_fr A1.2 hB hfr fun k hk => (A3 k hk).1
      obtain ⟨a', c', e5, _, hcs⟩ := rx_cells hkw
      injection e5 with e5 _ e6
      subst e5
      subst e6
      rcases hcs with hcs | ⟨kb, ko, rfl, hSk, hcs⟩
      · rw [hcs] at hi; simp at hi
      obtain ⟨d0, d1⟩ := hcs i h hh
      have A6 : Aside (stepsF K list p.n f known p.depth m (now ++ [h]) st = some s2 ∧ foldF (fun s h => stepsF K list p.n f known p.depth m (now ++ [h]) s) (known.drop (i + 1)) s2 = some s') := ⟨hs2, hfold2⟩
      have A7 : Aside (GnW p wr st ∧ BoxW p f w wr ∧ wr.ownsRow B 23 2 (.slice va now.length vc) now.length (cellsOf now) ∧ Fr p (Value.slice va now.length vc).ownBlock w wr ∧ w.heap.size + 1 + 1 + 1 ≤ wr.heap.size) := ⟨hg, hbx, hrow, hfr, hsz⟩
      have A8 : Aside (RX Try.prog (.sl tq0) false wr (p.S B) [p.lv] list ∧ RX Try.prog (.sl tq0) false wr (p.S B) [.slice (some ⟨kb, ko, none⟩) known.length kc] known) := ⟨hlw, hkw⟩
      obtain ⟨c6, c7, c8, c10⟩ := hbx.cells
      clear hs2 hfold2 hfold hdrop hh hlw hkw hcs hSk hg hbx hrow hfr hsz hik
      go_wp2
      obtain ⟨hg, hbx, hrow, hfr, hsz⟩ := (show GnW p wr st ∧ BoxW p f w wr ∧ wr.ownsRow B 23 2 (.slice va now.length vc) now.length (cellsOf now) ∧ Fr p (Value.slice va now.length vc).ownBlock w wr ∧ w.heap.size + 1 + 1 + 1 ≤ wr.heap.size from A7)
      have hba : Below wr.heap.size wr (wr.alloc (.cells #[.int .i64 h.1, .int .i64 h.2.1] 23)) := (Below.refl _ _).alloc (Nat.le_refl _) _
      obtain ⟨W2, hW2⟩ : ∃ W2, W2 = wr.alloc (.cells #[.int .i64 h.1, .int .i64 h.2.1] 23) := ⟨_, rfl⟩
      have hx15 : W2.heap[wr.heap.size]? = some (.cells #[.int .i64 h.1, .int .i64 h.2.1] 23 (0, 0)) := by rw [hW2, alloc_get, if_pos rfl]
      have hs2 : W2.heap.size = wr.heap.size + 1 := by rw [hW2]; simp
      rw [← hW2] at hba ⊢
      have hA3 : ∀ k, (Value.slice va now.length vc).ownBlock = some k → B ≤ k ∧ k < w.heap.size := A3
      obtain ⟨iF, hiF, hz0, hz1, hz2⟩ := infoFT_parts
      refine region_inv (YJ p B f h (.slice (some ⟨kb, ko, none⟩) known.length kc) (.slice va now.length vc) now st s2 W2) (by kernel_rfl) (by kernel_rfl) ?_ ?_ ?_
      · refine ⟨0, undef, rfl, ⟨(fun h => by cases h), ?_, ⟨rfl, rfl, rfl, Nat.le_refl _, fun _ _ _ _ _ => rfl⟩, (fun h => by cases h), fun _ => ?_, (fun h => by cases h)⟩⟩
        · exact (hg.below hba (Nat.le_refl _)).kept fun b _ => rfl
        · exact row_kept (row_kept hrow fun b _ h2 _ => hba.block b h2) fun b _ _ _ => rfl
      · intro L a2 w2 j o ho hL hes hJ
        obtain ⟨nb, v', rfl, hw⟩ := hJ
        have hj : j < 11 := (Array.getElem?_eq_some_iff.1 ho).1
        have hbx3 : BoxW p f w w2 := (hbx.kept fun b _ h2 => hba.block b (by omega)).kept fun b h1 h2 => hw.fr.block b (by omega) (fun e => by have := (show ∀ b, b = p.D ∨ b = p.ab → b < w.heap.size from A4) b (Or.inl e); omega) (fun e => by have := (show ∀ b, b = p.D ∨ b = p.ab → b < w.heap.size from A4) b (Or.inr e); omega) (fun e => by have := (hA3 b e.symm).2; omega)
        have hx3 : w2.heap[wr.heap.size]? = some (.cells #[.int .i64 h.1, .int .i64 h.2.1] 23 (0, 0)) := by
          rw [hw.fr.block _ (by omega) (fun e => by have := (show ∀ b, b = p.D ∨ b = p.ab → b < w.heap.size from A4) _ (Or.inl e); omega) (fun e => by have := (show ∀ b, b = p.D ∨ b = p.ab → b < w.heap.size from A4) _ (Or.inr e); omega) (fun e => by have := (hA3 _ e.symm).2; omega)]; exact hx15
        have hcs : j = 0 ∨ j = 1 ∨ j = 2 ∨ j = 3 ∨ j = 4 ∨ j = 5 ∨ j = 6 ∨ j = 7 ∨ j = 8 ∨ j = 9 ∨ j = 10 := by omega
        rcases hcs with rfl | rfl | rfl | rfl | rfl | rfl | rfl | rfl | rfl | rfl | rfl
        all_goals simp only [List.getElem?_toArray, List.getElem?_cons_succ, List.getElem?_cons_zero, Option.some.injEq] at ho
        all_goals subst ho
        · exact wpOp_mk rfl rfl (op_load (tysOk 109 (.ptr tq1) rfl) (ov_eval_out _ _ _ (by rw [yl_dst]; decide)) hbx3.h6 (show 1 ≤ 1 from Nat.le_refl 1) rfl (YJ.quiet hw rfl hL (by decide) (by decide) (by decide)))
        · exact wpOp_mk rfl rfl (op_load (tysOk 23 tq0 rfl) (ov_eval_out _ _ _ (by rw [yl_dst]; decide)) hbx3.h7 (show 2 ≤ 2 from Nat.le_refl 2) rfl (YJ.quiet hw rfl hL (by decide) (by decide) (by decide)))
        · exact wpOp_mk rfl rfl (op_move (ov_eval_out _ _ _ (by rw [yl_dst]; decide)) (YJ.quiet hw rfl hL (by decide) (by decide) (by decide)))
        · exact wpOp_mk rfl rfl (op_move (ov_eval_out _ _ _ (by rw [yl_dst]; decide)) (YJ.quiet hw rfl hL (by decide) (by decide) (by decide)))
        · exact wpOp_mk rfl rfl (op_load (tysOk 23 tq0 rfl) (ov_eval_out _ _ _ (by rw [yl_dst]; decide)) hx3 (show 2 ≤ 2 from Nat.le_refl 2) rfl (YJ.quiet hw rfl hL (by decide) (by decide) (by decide)))
        · refine wpOp_mk rfl rfl (op_build1 tysOk (t := 31) (e := tq0) rfl (z := .val tq0 ((0 : Int), (0 : Int), ())) rfl rfl (by decide) (cs := [.int .i64 h.1, .int .i64 h.2.1]) (ov_eval _ 0 4 _ (yl_nd ..) rfl (hes 4 (by decide)) (by simp)) ⟨rfl, rfl⟩ fun et => ?_)
          have hb5 : Below w2.heap.size w2 (w2.alloc (.cells #[.int .i64 h.1, .int .i64 h.2.1] et)) := (Below.refl _ _).alloc (Nat.le_refl _) _
          have hk5 := hw.kept hb5
          have ha5 := fun a0 => (ov_set (L := L) (q := (53, .slice (some ⟨w2.heap.size, 0, none⟩) 1 1)) (yl p f h (.slice (some ⟨kb, ko, none⟩) known.length kc) (.slice va now.length vc) nb v') 0 5 a0 hL).symm
          refine ⟨w2.heap.size, v', (congrArg (fun a => Act.put a (some 53) _) (ha5 _)).trans ((ov_put _ 0 5 _ (yl_nd p f h _ _ w2.heap.size v') rfl hL).trans rfl), ?_⟩
          obtain ⟨g1, g2, g3, g4, g5, g6⟩ := hk5
          refine ⟨?_, ?_, g3, fun _ => ⟨hw.fr.size, fun _ => ⟨et, by rw [alloc_get, if_pos rfl]⟩⟩, ?_, ?_⟩
          all_goals simp only [show ((6 : Nat) == 5) = false from rfl, show ((9 : Nat) == 5) = false from rfl, Bool.false_or]
          all_goals assumption
        · have h5 := hes 5 (by decide)
          have h9 : L 9 = false := by
            cases hc : L 9
            · rfl
            · rw [hw.nine hc] at hL; cases hL
          obtain ⟨et, hnb⟩ := (hw.new h5).2 h9
          have hrow6 := hw.row0 hL
          have hn5 := (hw.new h5).1
          have hml : (1099511627776 : Nat) ≤ maxLen := by unfold maxLen; decide
          refine wpOp_mk rfl rfl (op_append B 31 23 iF (.agg #[.int .i64 0, .int .i64 0]) 2 16 Try.underlying31 hiF hz0 hz1 hz2 rfl (by decide) _ now.length (cellsOf now) (ov_eval _ 0 3 _ (yl_nd ..) rfl (hes 3 (by decide)) (by simp)) hrow6 ⟨nb, 0, none⟩ 1 1 [.int .i64 h.1, .int .i64 h.2.1] (ov_eval _ 0 5 _ (yl_nd ..) rfl h5 (by simp)) rfl
            (fun j u hu => src_seg (n := 2) hnb j u (by simpa [seg] using hu)) (fun u hu => by simp only [List.mem_cons, List.not_mem_nil, or_false] at hu; rcases hu with rfl | rfl <;> rfl) (by omega) (by omega) (by have := hw.fr.size; omega) (by decide) fun v2 w6 hr6 hd6 => ?_)
          have ha5 := fun a0 => (ov_set (L := L) (q := (54, v2)) (yl p f h (.slice (some ⟨kb, ko, none⟩) known.length kc) (.slice va now.length vc) nb v') 0 6 a0 hL).symm
          refine ⟨nb, v2, (congrArg (fun a => Act.put a (some 54) _) (ha5 _)).trans ((ov_put _ 0 6 _ (yl_nd p f h _ _ nb v2) rfl hL).trans rfl), ?_⟩
          have hlen6 : (now ++ [h]).length = now.length + 1 := by simp
          rw [← cellsOf_snoc, ← hlen6] at hr6
          have hg6 : w2.grownBy w6 (Value.slice va now.length vc).ownBlock ∧ (∀ b, b < w2.heap.size → (Value.slice va now.length vc).ownBlock ≠ some b → w6.heap[b]? = w2.heap[b]?) := by
            rcases hd6 with ⟨hd, _⟩ | ⟨g, cap, hv, _, hd⟩
            · exact ⟨⟨hd.os, hd.tape, hd.output, hd.size, fun k hk _ => hd.block k hk (by simp)⟩, fun b hb _ => hd.block b hb (by simp)⟩
            · have : (Value.slice va now.length vc).ownBlock = some g := by rw [hv]; rfl
              rw [this]
              exact ⟨hd, fun b hb hne => hd.block b hb fun e => hne e.symm⟩
          have hfr6 : Fr p (Value.slice va now.length vc).ownBlock w2 w6 := ⟨hg6.1.os, hg6.1.tape, hg6.1.output, hg6.1.size, fun k hk _ _ hne => hg6.2 k hk fun e => hne e.symm⟩
          have hgn6 : GnW p w6 st := by
            have := hw.gn
            rw [if_neg (by rw [h9]; decide)] at this
            exact this.kept fun b hb => hg6.2 b (this.lt b hb) fun e => by have := hPB b hb; have := (hA3 b e).1; omega
          refine ⟨(fun h => by rw [h9] at h; cases h), ?_, hw.fr.trans hfr6, fun _ => ⟨hn5, fun _ => ⟨et, by rw [hg6.2 nb (Array.getElem?_eq_some_iff.1 hnb).1 fun e => by have := (hA3 _ e).2; omega]; exact hnb⟩⟩, (fun h => by cases h), fun _ => ⟨hr6, ?_⟩⟩
          · simp only [show ((9 : Nat) == 6) = false from rfl, Bool.false_or, h9]; exact hgn6
          · rcases hd6 with ⟨hd, hq⟩ | ⟨g, cap, hv, hv2, hd⟩
            · exact .inl ⟨_, hq, by have := hw.fr.size; omega, row_kept hrow6 fun b _ h2 _ => hd.block b h2 (by simp)⟩
            · exact .inr ⟨g, cap, hv, hv2⟩
        · exact wpOp_mk rfl rfl (op_load (tysOk 2 (.int .i64) rfl) (ov_eval_out _ _ _ (by rw [yl_dst]; decide)) hbx3.h10 (show 1 ≤ 1 from Nat.le_refl 1) rfl (YJ.quiet hw rfl hL (by decide) (by decide) (by decide)))
        · exact wpOp_mk rfl rfl (op_move (ov_eval_out _ _ _ (by rw [yl_dst]; decide)) (YJ.quiet hw rfl hL (by decide) (by decide) (by decide)))
        · have h6 := hes 6 (by decide)
          have h9 : L 9 = false := hL
          obtain ⟨hr6, hd6⟩ := hw.row1 h6
          have hgn := hw.gn
          rw [if_neg (by rw [h9]; decide)] at hgn
          have hfw : ∀ k, (Value.slice va now.length vc).ownBlock = some k → B ≤ k := fun k hk => (hA3 k hk).1
          have hBw : B ≤ W2.heap.size := by omega
          have hfr2 : Fr p (Value.slice va now.length vc).ownBlock wr W2 := Fr.below hba
          have hl9 := rx_fr (rx_fr (show RX Try.prog (.sl tq0) false wr (p.S B) [p.lv] list from A8.1) (by omega) hfr2 hfw) hBw hw.fr hfw
          have hk9 := rx_fr (rx_fr (show RX Try.prog (.sl tq0) false wr (p.S B) [.slice (some ⟨kb, ko, none⟩) known.length kc] known from A8.2) (by omega) hfr2 hfw) hBw hw.fr hfw
          have hB2 : B ≤ w2.heap.size := Nat.le_trans hBw hw.fr.size
          have hcall := ih (now ++ [h]) v' w2 st s2 hgn hl9 hk9 hr6 hB2 A6.1
          unfold stepArgs at hcall
          refine wpOp_mk rfl rfl (op_call (fi := #[]) (ca := #[]) rfl (args6 (ov_eval _ 0 0 _ (yl_nd ..) rfl (hes 0 (by decide)) (by simp)) (ov_eval _ 0 1 _ (yl_nd ..) rfl (hes 1 (by decide)) (by simp)) (ov_eval _ 0 2 _ (yl_nd ..) rfl (hes 2 (by decide)) (by simp)) (ov_eval _ 0 6 _ (yl_nd ..) rfl h6 (by simp)) (ov_eval _ 0 7 _ (yl_nd ..) rfl (hes 7 (by decide)) (by simp)) (ov_eval _ 0 8 _ (yl_nd ..) rfl (hes 8 (by decide)) (by simp)))
            Try.func132 (by kernel_rfl) (c := bodyOf Try.f132) (by kernel_rfl) hcall ?_)
          rintro e w9 ⟨rfl, hg9, hr9, hf9⟩
          refine ⟨_, rfl, nb, v', (ov_put _ 0 9 _ (yl_nd ..) rfl hL).trans rfl, ?_⟩
          have hv' : ∀ q, v'.ownBlock = some q → (Value.slice va now.length vc).ownBlock = some q ∨ W2.heap.size ≤ q := fun q hq => by
            rcases hd6 with ⟨q', h1, h2, _⟩ | ⟨g, cap, h1, h2⟩
            · rw [h1] at hq; injection hq with hq; subst hq; exact .inr h2
            · rw [h2] at hq; rw [h1]; exact .inl hq
          refine ⟨fun _ => h6, by simpa using hg9, ?_, fun h5 => ⟨(hw.new h5).1, (fun h => by cases h)⟩, fun h => ?_, fun _ => ⟨hr9, ?_⟩⟩
          · refine ⟨hf9.os.trans hw.fr.os, hf9.tape.trans hw.fr.tape, hf9.output.trans hw.fr.output, Nat.le_trans hw.fr.size hf9.size, fun k k1 k2 k3 k4 => ?_⟩
            rw [hf9.block k (Nat.lt_of_lt_of_le k1 hw.fr.size) k2 k3 fun e => ?_]
            · exact hw.fr.block k k1 k2 k3 k4
            · rcases hv' k e.symm with h | h
              · exact k4 h.symm
              · omega
          · have h : ((6 : Nat) == 9 || L 6) = false := h
            rw [h6] at h; cases h
          · rcases hd6 with ⟨q, h1, h2, h3⟩ | hx
            · exact .inl ⟨q, h1, h2, row_kept h3 fun b k1 k2 k3 => hf9.block b k2 (by omega) (by omega) fun e => by rw [h1] at e; injection e with e; have := (hA3 b k3).2; omega⟩
            · exact .inr hx
        · exact wpOp_mk rfl rfl (op_not (ov_eval _ 0 9 _ (yl_nd ..) rfl (hes 9 (by decide)) (by simp)) (YJ.quiet hw rfl hL (by decide) (by decide) (by decide)))
      · intro L a2 w2 hall hJ
        obtain ⟨nb, v', rfl, hw⟩ := hJ
        rw [ov_congr (M := fun _ => true) (yl p f h (.slice (some ⟨kb, ko, none⟩) known.length kc) (.slice va now.length vc) nb v') 0 _ (fun j _ h2 => hall j (by simpa [yl] using h2))]
        have hg2 := hw.gn
        rw [if_pos (hall 9 (by decide))] at hg2
        obtain ⟨hr2, hd2⟩ := hw.row1 (hall 6 (by decide))
        have hrow2 : w2.ownsRow B 23 2 (.slice va now.length vc) now.length (cellsOf now) := by
          rcases hd2 with ⟨_, _, _, h3⟩ | ⟨g, cap, h1, h2⟩
          · exact h3
          · rw [h1]
            rw [h2, cellsOf_snoc, show (now ++ [h]).length = now.length + 1 by simp] at hr2
            exact row_back (cellsOf_len now) hr2
        have hfr2 : Fr p (Value.slice va now.length vc).ownBlock w w2 := (hfr.trans (Fr.below hba)).trans hw.fr
        have hbx2 : BoxW p f w w2 := (hbx.kept fun b _ h2 => hba.block b (by omega)).kept fun b h1 h2 => hw.fr.block b (by omega) (fun e => by have := (show ∀ b, b = p.D ∨ b = p.ab → b < w.heap.size from A4) b (Or.inl e); omega) (fun e => by have := (show ∀ b, b = p.D ∨ b = p.ab → b < w.heap.size from A4) b (Or.inr e); omega) (fun e => by have := (hA3 b e.symm).2; omega)
        have hsz2 : w.heap.size + 1 + 1 + 1 ≤ w2.heap.size := by have := hw.fr.size; omega
        have hfold2 := (show foldF (fun s h => stepsF K list p.n f known p.depth m (now ++ [h]) s) (known.drop (i + 1)) s2 = some s' from A6.2)
        have A9 : Aside (GnW p w2 s2 ∧ foldF (fun s h => stepsF K list p.n f known p.depth m (now ++ [h]) s) (known.drop (i + 1)) s2 = some s' ∧ BoxW p f w w2 ∧ w2.ownsRow B 23 2 (.slice va now.length vc) now.length (cellsOf now) ∧ Fr p (Value.slice va now.length vc).ownBlock w w2 ∧ w.heap.size + 1 + 1 + 1 ≤ w2.heap.size) := ⟨hg2, hfold2, hbx2, hrow2, hfr2, hsz2⟩
        clear hg2 hr2 hd2 hrow2 hfr2 hbx2 hsz2 hfold2 hw hg hbx hrow hfr hsz hba hx15 hs2 hall hW2
        simp only [ov, yl, pif, cond_true, Act.put, List.setIfInBounds_toArray, List.set_cons_succ, List.set_cons_zero]
        go_wp2
        go_roundw
        case rel => exact ⟨i + 1, s2, by omega, rfl, A9.1, A9.2.1, A9.2.2.1, A9.2.2.2.1, A9.2.2.2.2.1, A9.2.2.2.2.2⟩
        case measure => simp [intOf]; omega
theorem steps_ok (K : Nat) (p : GnP) (hp : p.Ok) (list : List DFg) (f : DFg) (known : List DFg) (kv : Value) (B : Nat) (hPB : ∀ b, b = p.G ∨ b = p.gb ∨ b = p.db ∨ b = p.ab ∨ b = p.D → b < B) : ∀ m, StepsC K p list f known kv B m
  | 0 => fun now v w s s' _ _ _ _ _ h => by cases h
  | m + 1 => fun now v w s s' hw hl hk hrow hB h => by
    simp only [stepsF] at h
    split at h
    case isTrue hlen => exact steps_zero K p hp list f known kv B m now v w s s' hw hl hrow hB hPB hlen h
    case isFalse hlen =>
      split at h
      case isFalse => cases h
      case isTrue hb => exact steps_succ K p hp list f known kv B m (steps_ok K p hp list f known kv B hPB m) now v w s s' hw hl hk hrow hB hPB hlen hb.1 hb.2 h
end Go.Proofs.Ytmlgfaojfmkdnaa.E
namespace Go.Proofs.Ytmlgfaojfmkdnaa.E
open Go Go.Proofs Go.Proofs.Ytmlgfaojfmkdnaa Go.RowKit
set_option maxRecDepth 100000
set_option maxHeartbeats 8000000
set_option linter.unusedVariables false
section
variable {P : Program} {a : Act} {w : World} {Q : Exit → Act → World → Prop} {next : Act → World → Prop} {dst : Option Nat} {type : TypeId} {pos : String} {after : Array Edge} {guard : Option (Nat × Bool)}
theorem op_index {ty : Nat → Option Ty} (hO : ∀ t T, ty t = some T → TyOk P ty t T) {t : Nat} {e : Ty} (ht : ty t = some (.sl e)) {x i : Operand} {b o n c : Nat} {j : Int} (hx : a.eval x = .slice (some ⟨b, o, none⟩) n c) (hi : a.eval i = .int .i64 j) (h0 : 0 ≤ j) (h1 : j < (n : Int))
    (hn : next (a.put dst (.pointer (some ⟨b, o + j.toNat * e.sz, none⟩))) w) : (⟨dst, .indexAddr t x i, type, pos, after, guard⟩ : Oper).wp P a w next Q := by
  refine wp_value (w' := w) ?_ hn
  simp only [execOp, hx, hi]
  exact exec_value (indexAt_slice hO ht h0 h1)
theorem op_fieldv {ty : Nat → Option Ty} (hO : ∀ t T, ty t = some T → TyOk P ty t T) {t : TypeId} {f : Ty} (ht : ty t = some (.st f)) {x : Operand} {i : Nat} {c d : List Value} (hx : a.eval x = .agg c.toArray) (hlt : i < f.len) (hs : seg c (off f i) (fld f i).sz = d) (hd : d.length = (fld f i).sz)
    (hn : next (a.put dst (valOf (fld f i) d)) w) : (⟨dst, .field t x i, type, pos, after, guard⟩ : Oper).wp P a w next Q := by
  obtain ⟨dd, hdd, hu⟩ := (hO _ _ ht).und
  cases dd <;> simp only [UnOk] at hu
  rename_i fs
  cases hf : fs[i]? with
  | none => rw [Array.getElem?_eq_none_iff] at hf; omega
  | some F =>
    obtain ⟨h3, h4, h5⟩ := hu.2 _ _ hf
    have hpa := (hO _ _ h4).part (xs := c.toArray) (o := off f i) (c := d) (by simpa using hs) hd w
    refine wp_value (w' := w) ?_ hn
    simp only [execOp, hx]
    refine exec_value ?_
    unfold Instr.field
    simp only [Sem.run_bind, run_underlying hdd, Result.andThen_ok, hf, asAgg, h3]
    simpa using hpa
theorem op_store1 {ty : Nat → Option Ty} {t : TypeId} (ho : TyOk P ty t (.int .i64)) {x y : Operand} {D o L : Nat} {tD : TypeId} {l : List Int} {j : Nat} {d : Int} (hx : a.eval x = .pointer (some ⟨D, o + j, none⟩)) (hy : a.eval y = .int .i64 d) (hd : DepW w D o L tD l) (hj : j < L)
    (hn : ∀ w', DepW w' D o L tD (l.set j d) → w.grownBy w' (some D) → w'.heap.size = w.heap.size → next (a.put none undef) w') : (⟨none, .store t x y, type, pos, after, guard⟩ : Oper).wp P a w next Q := by
  obtain ⟨arr, h1, h2, h3, h4⟩ := hd
  refine wp_skip' (w' := w.setRow D (setSeg arr.toList (o + j) [.int .i64 d]).toArray) ?_ ?_
  · simp only [execOp, hx, hy]
    exact exec_skip (by unfold Instr.storeAt; simp only [Instr.sureAddr, Sem.run_bind, pure_run, Result.andThen_ok]; exact storeVar_run (T := .int .i64) ho h1 (cs := [.int .i64 d]) rfl (fun c hc => by rw [List.mem_singleton.1 hc]; rfl) (by have : (Ty.int .i64).sz = 1 := rfl; rw [this]; omega))
  · have hl : (setSeg arr.toList (o + j) [Value.int .i64 d]).length = arr.size := by simp [setSeg]; omega
    refine hn _ ⟨_, setRow_heap w D arr _ tD _ h1, by simpa [hl] using h2, by simpa using h3, fun i v hi => ?_⟩ ⟨rfl, rfl, rfl, by simp, fun k _ hk => setRow_other w D k _ (fun e => hk (by simp [e]))⟩ (by simp)
    rw [List.getElem?_toArray, setSeg_get (by simp; omega)]
    rw [List.getElem?_set] at hi
    have hil : i < L := by
      have hlen := (List.getElem?_eq_some_iff.1 (by rw [← List.getElem?_set] at hi; exact hi)).1
      simpa [h3] using hlen
    by_cases e : j = i
    · subst e
      rw [if_pos rfl, if_pos (by omega)] at hi
      injection hi with hi
      subst hi
      rw [if_pos ⟨Nat.le_refl _, by simp⟩, Nat.sub_self]; rfl
    · rw [if_neg e] at hi
      rw [if_neg (by simp; omega), Array.getElem?_toList]; exact h4 i v hi
end
/-! contracts -/
theorem proj_calls (K : Nat) (w : World) (n i : Int) (y : DFg) (hy : i_projection K (n, i, ()) = some y) : Calls Try.prog 75 #[.int .i64 n, .int .i64 i] w fun e w' => e = .returned (.agg #[.int .i64 y.1, .int .i64 y.2.1]) ∧ Below w.heap.size w w' := by
  refine (gcalls (ok_i_projection K) rfl Try.func75 (by kernel_rfl) (c := bodyOf Try.f75) (by kernel_rfl) w [.int .i64 n, .int .i64 i] (n, i, ()) y ?_ hy).mono ?_
  · exact ⟨[.int .i64 n], [.int .i64 i], rfl, rfl, [.int .i64 i], [], rfl, rfl, rfl⟩
  · rintro e w' ⟨v, rfl, bs, ⟨cs, h0, h1⟩, h3, h4, h5⟩
    refine ⟨?_, h5⟩
    obtain ⟨c1, c2, b1, b2, rfl, rfl, ⟨rfl, _⟩, c3, c4, b3, b4, rfl, rfl, ⟨rfl, _⟩, rfl, _⟩ := h1
    cases h0
    rfl
theorem funcs_calls (K : Nat) (w : World) (n q : Int) (hy : i_funcsOf K (n, ()) = some q) : Calls Try.prog 59 #[.int .i64 n] w fun e w' => e = .returned (.int .i64 q) ∧ Below w.heap.size w w' := by
  refine (gcalls (ok_i_funcsOf K) rfl Try.func59 (by kernel_rfl) (c := bodyOf Try.f59) (by kernel_rfl) w [.int .i64 n] (n, ()) q ?_ hy).mono ?_
  · exact ⟨[.int .i64 n], [], rfl, rfl, rfl⟩
  · rintro e w' ⟨v, rfl, bs, ⟨cs, h0, h1, h2⟩, h3, h4, h5⟩
    have h1 : cs = [.int .i64 q] := h1
    subst h1
    cases h0
    exact ⟨rfl, h5⟩
/-- a list of numbers that a call made -/
def RepW (w0 : World) (D : List Int) (v : Value) (w : World) : Prop := ∃ b o c tD, v = .slice (some ⟨b, o, none⟩) D.length c ∧ D.length ≤ c ∧ DepW w b o D.length tD D ∧ w0.heap.size ≤ b ∧ Below w0.heap.size w0 w
theorem rep_calls (K : Nat) (w : World) (b : Nat) (t : TypeId) (q : Int) (D : List Int) (hb : w.heap[b]? = some (.cells #[.int .i64 (-1)] t (0, 0))) (h0 : D.length ≠ 0) (hy : slices_Repeat_int64 K ([(-1 : Int)], q, ()) = some D) :
    Calls Try.prog 106 #[.slice (some ⟨b, 0, none⟩) 1 1, .int .i64 q] w fun e w' => ∃ v, e = .returned v ∧ RepW w D v w' := by
  refine (gcalls (ok_slices_Repeat_int64 K) rfl Try.func106 (by kernel_rfl) (c := bodyOf Try.f106) (by kernel_rfl) w [.slice (some ⟨b, 0, none⟩) 1 1, .int .i64 q] ([(-1 : Int)], q, ()) D ?_ hy).mono ?_
  · refine ⟨[.slice (some ⟨b, 0, none⟩) 1 1], [.int .i64 q], rfl, ?_, [.int .i64 q], [], rfl, rfl, rfl⟩
    refine ⟨some ⟨b, 0, none⟩, 1, 1, rfl, rfl, Nat.le_refl _, .inr ⟨b, 0, _, t, (0, 0), rfl, (Array.getElem?_eq_some_iff.1 hb).1, hb, Nat.le_refl _, fun i y hy => ?_⟩⟩
    cases i with
    | zero =>
      have : y = -1 := by simpa using hy.symm
      subst this; rfl
    | succ i => simp at hy
  · rintro e w' ⟨v, rfl, bs, ⟨cs, h1, h2⟩, h3, h4, h5⟩
    rcases h2 with ⟨_, h6, _⟩ | ⟨b, o, n, c, arr, ty, bss, h6, h7, h8, h9, h10, h11, h12, h13⟩
    · have h6 : D = [] := h6
      subst h6; exact absurd rfl h0
    · subst h6
      have h8 : n = D.length := h8
      subst h8
      have hs : (Ty.int .i64).sz = 1 := rfl
      rw [hs] at h11
      refine ⟨_, rfl, b, o, c, ty, ?_, h10, ⟨arr, h9, by omega, rfl, fun i y hy => ?_⟩, (h4 b (by rw [h7]; simp)).1, h5⟩
      · injection h1
      · have hil : i < bss.length := by
          have := (List.getElem?_eq_some_iff.1 hy).1
          omega
        have hbi : bss[i]? = some bss[i] := List.getElem?_eq_getElem hil
        obtain ⟨hc, _⟩ := h13 i y _ hy hbi
        rw [hs, Nat.mul_one] at hc
        have := congrArg (·[0]?) hc
        simp only [seg_get] at this
        simpa using this
/-- the part that stands from the start -/
structure GnI (p : GnP) (w : World) (l : List Int) : Prop where
  hG : w.heap[p.G]? = some (.cells #[p.lv, .int .i64 p.n, .slice (some ⟨p.D, p.o, none⟩) p.L p.c] 149 (0, 0))
  hgb : w.heap[p.gb]? = some (.cells #[.pointer (some ⟨p.G, 0, none⟩)] 109 (0, 0))
  hD : DepW w p.D p.o p.L p.tD l
theorem GnW.gi {p : GnP} {w : World} {s : GSt} (h : GnW p w s) : GnI p w s.1 := ⟨h.hG, h.hgb, h.hD⟩
theorem GnI.kept {p : GnP} {w w' : World} {l : List Int} (h : GnI p w l) (hk : ∀ b, b = p.G ∨ b = p.gb ∨ b = p.D → w'.heap[b]? = w.heap[b]?) : GnI p w' l := by
  obtain ⟨h1, h2, arr, h5, h6⟩ := h
  exact ⟨by rw [hk _ (by simp)]; exact h1, by rw [hk _ (by simp)]; exact h2, arr, by rw [hk _ (by simp)]; exact h5, h6⟩
theorem GnI.lt {p : GnP} {w : World} {l : List Int} (h : GnI p w l) : ∀ b, b = p.G ∨ b = p.gb ∨ b = p.D → b < w.heap.size := by
  obtain ⟨h1, h2, arr, h5, h6⟩ := h
  rintro b (rfl | rfl | rfl)
  · exact (Array.getElem?_eq_some_iff.1 h1).1
  · exact (Array.getElem?_eq_some_iff.1 h2).1
  · exact (Array.getElem?_eq_some_iff.1 h5).1
theorem GnI.below {p : GnP} {w w' : World} {l : List Int} (h : GnI p w l) {B : Nat} (hb : Below B w w') (hB : w.heap.size ≤ B) : GnI p w' l := h.kept fun b hb' => hb.block b (Nat.lt_of_lt_of_le (h.lt b hb') hB)
theorem rx_gi {P : Program} {p : GnP} {w : World} {l : List Int} {T : Nat → Prop} {list : List DFg} (hlc : p.L ≤ p.c) (hw : GnI p w l) (hl : RX P (.sl tq0) false w T [p.lv] list) (hT : ∀ b, T b → b < w.heap.size) :
    RX P (.ptr tq1) false w (fun b => b < w.heap.size) [.pointer (some ⟨p.G, 0, none⟩)] (list, p.n, l, ()) := by
  refine rx_ptr (cs := [p.lv, .int .i64 p.n, .slice (some ⟨p.D, p.o, none⟩) p.L p.c]) hw.hG (hw.lt _ (by simp)) ?_
  exact ⟨[p.lv], _, rfl, RX_congr P (.sl tq0) false (Nat.le_refl _) (fun b h1 h2 => ⟨h2, rfl⟩) (fun _ h => h) hl, [.int .i64 p.n], _, rfl, rfl, [.slice (some ⟨p.D, p.o, none⟩) p.L p.c], [], rfl, rx_dep hlc (hw.lt _ (by simp)) hw.hD, rfl⟩
/-- a list of functions that a call made, to be read -/
def ListW (w0 : World) (l : List DFg) (v : Value) (w : World) : Prop := RX Try.prog (.sl tq0) false w (fun b => w0.heap.size ≤ b ∧ b < w.heap.size) [v] l ∧ Below w0.heap.size w0 w
theorem list_of_ret {w w' : World} {l : List DFg} {v : Value} (h : Ret (.sl tq0) l w v w') : ListW w l v w' := by
  obtain ⟨bs, ⟨cs, h1, h2⟩, h3, h4, h5⟩ := h
  refine ⟨?_, h5⟩
  have hr := RX_of_TC Try.prog (.sl tq0) (S := fun b => w.heap.size ≤ b ∧ b < w'.heap.size) h2 fun b hb => h4 b hb
  have hl := RX_len _ _ _ _ _ _ hr
  have e : [v] = cs := by
    have hl : cs.length = 1 := hl
    obtain ⟨x, rfl⟩ : ∃ x, cs = [x] := by
      match cs, hl with
      | [x], _ => exact ⟨x, rfl⟩
    rw [h1]; rfl
  rw [e]; exact hr
theorem known_calls (K : Nat) (p : GnP) (hlc : p.L ≤ p.c) {w : World} {l : List Int} {T : Nat → Prop} {list known : List DFg} (hw : GnI p w l) (hl : RX Try.prog (.sl tq0) false w T [p.lv] list) (hT : ∀ b, T b → b < w.heap.size) (depth : Int) (hy : i_generated_known K ((list, p.n, l, ()), depth, ()) = some known) :
    Calls Try.prog 131 #[.pointer (some ⟨p.G, 0, none⟩), .int .i64 depth] w fun e w' => ∃ v, e = .returned v ∧ ListW w known v w' := by
  refine (gcalls (ok_i_generated_known K) rfl Try.func131 (by kernel_rfl) (c := bodyOf Try.f131) (by kernel_rfl) w [.pointer (some ⟨p.G, 0, none⟩), .int .i64 depth] ((list, p.n, l, ()), depth, ()) known ?_ hy).mono ?_
  · exact ⟨[.pointer (some ⟨p.G, 0, none⟩)], [.int .i64 depth], rfl, rx_gi hlc hw hl hT, [.int .i64 depth], [], rfl, rfl, rfl⟩
  · rintro e w' ⟨v, rfl, h⟩
    exact ⟨v, rfl, list_of_ret h⟩
theorem all_calls (K : Nat) (p : GnP) (hlc : p.L ≤ p.c) {w : World} {l : List Int} {T : Nat → Prop} {list known : List DFg} (hw : GnI p w l) (hl : RX Try.prog (.sl tq0) false w T [p.lv] list) (hT : ∀ b, T b → b < w.heap.size) (hy : i_generated_all K ((list, p.n, l, ()), ()) = some known) :
    Calls Try.prog 88 #[.pointer (some ⟨p.G, 0, none⟩)] w fun e w' => ∃ v, e = .returned v ∧ Ret (.sl tq0) known w v w' :=
  gcalls (ok_i_generated_all K) rfl Try.func88 (by kernel_rfl) (c := bodyOf Try.f88) (by kernel_rfl) w [.pointer (some ⟨p.G, 0, none⟩)] ((list, p.n, l, ()), ()) known ⟨[.pointer (some ⟨p.G, 0, none⟩)], [], rfl, rx_gi hlc hw hl hT, rfl⟩ hy
end Go.Proofs.Ytmlgfaojfmkdnaa.E
namespace Go.Proofs.Ytmlgfaojfmkdnaa.E
open Go Go.Proofs Go.Proofs.Ytmlgfaojfmkdnaa Go.RowKit
set_option maxRecDepth 100000
set_option maxHeartbeats 8000000
set_option linter.unusedVariables false
/-- what generate leaves -/
def GenW (list : List DFg) (lv : Value) (n : Int) (D : List Int) (w0 : World) (e : Ending) (w : World) : Prop := ∃ p : GnP, e = .returned (.pointer (some ⟨p.G, 0, none⟩)) ∧ p.lv = lv ∧ p.n = n ∧ p.L ≤ p.c ∧ GnI p w D ∧ Below w0.heap.size w0 w
theorem rep_block {w w1 : World} {t : TypeId} (h : Below (w.alloc (.cells #[.int .i64 (-1)] t)).heap.size (w.alloc (.cells #[.int .i64 (-1)] t)) w1) : w1.heap[w.heap.size]? = some (.cells #[.int .i64 (-1)] t (0, 0)) := by
  rw [h.block _ (by simp), alloc_get, if_pos rfl]
/-- the slots of the region that sets a projection's depth -/
def xl (p : GnP) (n i : Int) (y : DFg) (j : Nat) : List (Nat × Value) := [(24, .pointer (some ⟨p.G, 0, none⟩)), (25, .pointer (some ⟨p.G, 0, none⟩)), (26, .pointer (some ⟨p.G, 2, none⟩)), (27, .slice (some ⟨p.D, p.o, none⟩) p.L p.c), (28, .int .i64 n), (29, .int .i64 i), (30, .agg #[.int .i64 y.1, .int .i64 y.2.1]), (31, .int .i64 y.2.1), (32, .pointer (some ⟨p.D, p.o + j, none⟩))]
theorem xl_dst (p : GnP) (n i : Int) (y : DFg) (j : Nat) : (xl p n i y j).map (·.1) = [24, 25, 26, 27, 28, 29, 30, 31, 32] := rfl
theorem xl_nd (p : GnP) (n i : Int) (y : DFg) (j : Nat) : ((xl p n i y j).map (·.1)).Nodup := by rw [xl_dst]; decide
structure XW (p : GnP) (l : List Int) (j : Nat) (w0 W : World) (L : Nat → Bool) (w : World) : Prop where
  nine : L 9 = true → ∀ k, k < 9 → L k = true
  bel : L 9 = false → Below W.heap.size W w
  fin : L 9 = true → GnI p w (l.set j 0) ∧ Below w0.heap.size w0 w ∧ W.heap.size ≤ w.heap.size
def XJ (p : GnP) (n i : Int) (y : DFg) (j : Nat) (l : List Int) (w0 W : World) (a0 : Act) (L : Nat → Bool) (a : Act) (w : World) : Prop := a = ov L 0 (xl p n i y j) a0 ∧ XW p l j w0 W L w
theorem XJ.quiet {p : GnP} {n i : Int} {y : DFg} {j : Nat} {l : List Int} {w0 W : World} {a0 : Act} {L : Nat → Bool} {w w' : World} {k d : Nat} {x : Value} (hw : XW p l j w0 W L w) (hk : (xl p n i y j)[k]? = some (d, x)) (hL : L k = false) (h9 : k < 9) (hb : Below w.heap.size w w') (hWw : W.heap.size ≤ w.heap.size) :
    XJ p n i y j l w0 W a0 (fun m => m == k || L m) ((ov L 0 (xl p n i y j) a0).put (some d) x) w' := by
  have e9 : (9 == k) = false := by rw [beq_eq_false_iff_ne]; omega
  have hf : L 9 = false := by
    cases hc : L 9
    · rfl
    · rw [hw.nine hc k h9] at hL; cases hL
  refine ⟨by rw [ov_put (xl p n i y j) 0 k a0 (xl_nd ..) hk (by rw [Nat.zero_add]; exact hL), Nat.zero_add], ?_⟩
  refine ⟨?_, ?_, ?_⟩
  all_goals simp only [e9, Bool.false_or, hf]
  · intro h; cases h
  · intro _; exact (hw.bel hf).trans (hb.mono hWw)
  · intro h; cases h
theorem gen_calls (K : Nat) (w : World) (list : List DFg) (lv : Value) (n : Int) (D : List Int) (hl : RX Try.prog (.sl tq0) false w (fun b => b < w.heap.size) [lv] list) (h : genF K list n = some D) : Calls Try.prog 87 #[lv, .int .i64 n] w (GenW list lv n D w) := by
  unfold genF at h
  split at h
  case isFalse => cases h
  rename_i hb
  obtain ⟨hn0, hn1, hll⟩ := hb
  obtain ⟨q, hq, h⟩ := Option.bind_eq_some_iff.1 h
  obtain ⟨D0, hD0, h⟩ := Option.bind_eq_some_iff.1 h
  split at h
  case isTrue => cases h
  rename_i hD0l
  obtain ⟨D1, hD1, h⟩ := Option.bind_eq_some_iff.1 h
  obtain ⟨la, lc, hlv, hlc, _⟩ := rx_cells hl
  have A0 : Aside (RX Try.prog (.sl tq0) false w (fun b => b < w.heap.size) [lv] list) := hl
  have A1 : Aside (initF K n 1000 0 D0 = some D1) := hD1
  have A2 : Aside (loopF K list n K 1 D1 = some D) := h
  have hfun := fun w => funcs_calls K w n q hq
  have hrep := fun w b t hb => rep_calls K w b t q D0 hb hD0l hD0
  have A3 : Aside (D0.length ≠ 0) := hD0l
  clear hl hD1 h hq hD0 hD0l
  subst hlv
  go_enter Try.func87, Try.ntmps87
  go_wp2_with (first
    | (go_at_call 59; refine (hfun _).mono ?_; rintro e w1 ⟨rfl, hbe1⟩; have hbk := rep_block hbe1)
    | (go_at_call 106; refine (hrep _ w.heap.size _ hbk).mono ?_; rintro e w2 ⟨_, rfl, b, o, c, tD, rfl, hlc2, hdep, hge, hbe2⟩)
    | go_in)
  obtain ⟨N, rfl⟩ := Int.eq_ofNat_of_zero_le hn0
  have hN : N < 1000 := by omega
  have hbw2 : b < w2.heap.size := by obtain ⟨arr, h1, _⟩ := hdep; exact (Array.getElem?_eq_some_iff.1 h1).1
  have hw01 : Below w.heap.size w w1 := ((Below.refl _ w).alloc (Nat.le_refl _) _).trans (hbe1.mono (by simp))
  have hw02 : Below w.heap.size w w2 := hw01.trans (hbe2.mono hw01.size)
  have hb0 : w.heap.size ≤ b := Nat.le_trans hw01.size hge
  obtain ⟨p, hp⟩ : ∃ p : GnP, p = ⟨.slice la list.length lc, (N : Int), 1, w2.heap.size, w2.heap.size + 1, 0, 0, b, o, c, D0.length, tD⟩ := ⟨_, rfl⟩
  have hpG : p.G = w2.heap.size := by rw [hp]
  have hpg : p.gb = w2.heap.size + 1 := by rw [hp]
  have hpD : p.D = b := by rw [hp]
  obtain ⟨W3, hW3⟩ : ∃ W3, W3 = ((w2.alloc (.cells #[.slice la list.length lc, .int .i64 N, .slice (some ⟨b, o, none⟩) D0.length c] 149)).alloc (.cells #[.pointer (some ⟨w2.heap.size, 0, none⟩)] 109)) := ⟨_, rfl⟩
  have hW3b : Below w2.heap.size w2 W3 := by rw [hW3]; exact ((Below.refl _ _).alloc (Nat.le_refl _) _).alloc (by simp) _
  have hW3s : W3.heap.size = w2.heap.size + 1 + 1 := by rw [hW3]; simp
  have hgi : GnI p W3 D0 := by
    rw [hp]
    refine ⟨?_, ?_, ?_⟩
    · show W3.heap[w2.heap.size]? = _
      rw [hW3, alloc_get, if_neg (by simp), alloc_get, if_pos rfl]
    · show W3.heap[w2.heap.size + 1]? = _
      rw [hW3, alloc_get, if_pos (by simp)]
    · obtain ⟨arr, h1, h2⟩ := hdep
      exact ⟨arr, by show W3.heap[b]? = _; rw [hW3b.block b hbw2]; exact h1, h2⟩
  have hplc : p.L ≤ p.c := by rw [hp]; exact hlc2
  have A4 : Aside (p.lv = .slice la list.length lc ∧ p.n = (N : Int) ∧ p.L = D0.length ∧ p.L ≤ p.c ∧ p.G < W3.heap.size ∧ p.gb < W3.heap.size ∧ p.D < p.G ∧ w.heap.size ≤ p.D ∧ p.G < p.gb) := ⟨by rw [hp], by rw [hp], by rw [hp], hplc, by omega, by omega, by omega, by omega, by omega⟩
  have A5 : Aside (GnI p W3 D0 ∧ Below w.heap.size w W3) := ⟨hgi, hw02.trans (hW3b.mono hw02.size)⟩
  have e1 : Value.pointer (some ⟨w2.heap.size + 1, 0, none⟩) = .pointer (some ⟨p.gb, 0, none⟩) := by rw [hpg]
  rw [← hW3, e1]
  clear hgi hW3b hW3s hp hdep hbe1 hbe2 hw01 hw02 hb0 hbk hge hbw2 hlc2 hrep hfun hpG hpg hpD hW3 e1
  go_loopw [21] (fun t21 wr => ∃ (i k : Nat) (l : List Int), i ≤ N ∧ t21 = .int .i64 i ∧ initF K (N : Int) k (i : Int) l = some D1 ∧ GnI p wr l ∧ Below w.heap.size w wr ∧ W3.heap.size ≤ wr.heap.size ∧ l.length = D0.length) (fun t21 _ => N - (intOf t21).toNat)
  case atStart => exact ⟨0, 1000, D0, Nat.zero_le _, rfl, A1, A5.1, A5.2, Nat.le_refl _, rfl⟩
  case round =>
    obtain ⟨i, k, l, hi, rfl, hin, hgi, hbel, hsz, hll2⟩ := hrel
    have A6 : Aside (GnI p wr l ∧ Below w.heap.size w wr ∧ W3.heap.size ≤ wr.heap.size ∧ l.length = D0.length) := ⟨hgi, hbel, hsz, hll2⟩
    by_cases hiN : i < N
    · have hx : ∃ k' y j, k = k' + 1 ∧ i_projection K ((N : Int), (i : Int), ()) = some y ∧ y.2.1 = ((j : Nat) : Int) ∧ j < l.length ∧ initF K (N : Int) k' ((i : Int) + 1) (l.set j 0) = some D1 := by
        cases k with
        | zero => cases hin
        | succ k' =>
          simp only [initF] at hin
          rw [if_pos (by omega)] at hin
          obtain ⟨y, hy, hin⟩ := Option.bind_eq_some_iff.1 hin
          split at hin
          case isFalse => cases hin
          rename_i hb
          obtain ⟨j, hj⟩ := Int.eq_ofNat_of_zero_le hb.1
          rw [hj] at hin hb
          exact ⟨k', y, j, rfl, hy, hj, by omega, hin⟩
      obtain ⟨k', y, j, rfl, hy, hyj, hjl, hin'⟩ := hx
      have A7 : Aside (i_projection K ((N : Int), (i : Int), ()) = some y ∧ y.2.1 = ((j : Nat) : Int) ∧ initF K (N : Int) k' ((i : Int) + 1) (l.set j 0) = some D1) := ⟨hy, hyj, hin'⟩
      clear hin hgi hbel hsz hll2 hy hyj hin'
      go_wp2
      have hA4 := A4
      obtain ⟨q1, q2, q3, q4, q5, q6, q7, q8, q9⟩ := (show p.lv = .slice la list.length lc ∧ p.n = (N : Int) ∧ p.L = D0.length ∧ p.L ≤ p.c ∧ p.G < W3.heap.size ∧ p.gb < W3.heap.size ∧ p.D < p.G ∧ w.heap.size ≤ p.D ∧ p.G < p.gb from A4)
      obtain ⟨hgi, hbel, hsz, hll2⟩ := (show GnI p wr l ∧ Below w.heap.size w wr ∧ W3.heap.size ≤ wr.heap.size ∧ l.length = D0.length from A6)
      obtain ⟨hy, hyj, hin'⟩ := (show i_projection K ((N : Int), (i : Int), ()) = some y ∧ y.2.1 = ((j : Nat) : Int) ∧ initF K (N : Int) k' ((i : Int) + 1) (l.set j 0) = some D1 from A7)
      refine region_inv (XJ p (N : Int) (i : Int) y j l w wr) (by kernel_rfl) (by kernel_rfl) ⟨rfl, (fun h => by cases h), fun _ => ⟨rfl, rfl, rfl, Nat.le_refl _, fun _ _ => rfl⟩, (fun h => by cases h)⟩ ?_ ?_
      · intro L a2 w3 m om ho hL hes hJ
        obtain ⟨rfl, hw⟩ := hJ
        have hm : m < 10 := (Array.getElem?_eq_some_iff.1 ho).1
        have hf : L 9 = false := by
          cases hc : L 9
          · rfl
          · have hm9 : m = 9 ∨ m < 9 := by omega
            rcases hm9 with rfl | hm9
            · rw [hc] at hL; cases hL
            · rw [hw.nine hc m hm9] at hL; cases hL
        have hb3 := hw.bel hf
        have hg3 : GnI p w3 l := hgi.below hb3 (Nat.le_refl _)
        have hcs : m = 0 ∨ m = 1 ∨ m = 2 ∨ m = 3 ∨ m = 4 ∨ m = 5 ∨ m = 6 ∨ m = 7 ∨ m = 8 ∨ m = 9 := by omega
        rcases hcs with rfl | rfl | rfl | rfl | rfl | rfl | rfl | rfl | rfl | rfl
        all_goals simp only [List.getElem?_toArray, List.getElem?_cons_succ, List.getElem?_cons_zero, Option.some.injEq] at ho
        all_goals subst ho
        · exact wpOp_mk rfl rfl (op_load (tysOk 109 (.ptr tq1) rfl) (ov_eval_out _ _ _ (by rw [xl_dst]; decide)) hg3.hgb (show 1 ≤ 1 from Nat.le_refl 1) rfl (XJ.quiet hw rfl hL (by decide) (Below.refl _ _) hb3.size))
        · exact wpOp_mk rfl rfl (op_nil (ov_eval _ 0 0 _ (xl_nd ..) rfl (hes 0 (by decide)) (by simp)) (XJ.quiet hw rfl hL (by decide) (Below.refl _ _) hb3.size))
        · exact wpOp_mk rfl rfl (op_field tysOk (t := 149) (n := 2) rfl (by decide) (by decide) (ov_eval _ 0 1 _ (xl_nd ..) rfl (hes 1 (by decide)) (by simp)) (XJ.quiet hw rfl hL (by decide) (Below.refl _ _) hb3.size))
        · exact wpOp_mk rfl rfl (op_load (tysOk 45 (.sl (.int .i64)) rfl) (ov_eval _ 0 2 _ (xl_nd ..) rfl (hes 2 (by decide)) (by simp)) hg3.hG (show 3 ≤ 3 by decide) rfl (XJ.quiet hw rfl hL (by decide) (Below.refl _ _) hb3.size))
        · exact wpOp_mk rfl rfl (op_move (ov_eval_out _ _ _ (by rw [xl_dst]; decide)) (XJ.quiet hw rfl hL (by decide) (Below.refl _ _) hb3.size))
        · exact wpOp_mk rfl rfl (op_move (ov_eval_out _ _ _ (by rw [xl_dst]; decide)) (XJ.quiet hw rfl hL (by decide) (Below.refl _ _) hb3.size))
        · refine wpOp_mk rfl rfl (op_call (fi := #[]) (ca := #[]) rfl (args20 (ov_eval _ 0 4 _ (xl_nd ..) rfl (hes 4 (by decide)) (by simp)) (ov_eval _ 0 5 _ (xl_nd ..) rfl (hes 5 (by decide)) (by simp))) Try.func75 (by kernel_rfl) (c := bodyOf Try.f75) (by kernel_rfl) (proj_calls K w3 (N : Int) (i : Int) y hy) ?_)
          rintro e w4 ⟨rfl, hb4⟩
          exact ⟨_, rfl, XJ.quiet hw rfl hL (by decide) hb4 hb3.size⟩
        · exact wpOp_mk rfl rfl (op_fieldv tysOk (t := 23) (i := 1) rfl (c := [.int .i64 y.1, .int .i64 y.2.1]) (d := [.int .i64 y.2.1]) (ov_eval _ 0 6 _ (xl_nd ..) rfl (hes 6 (by decide)) (by simp)) (by decide) rfl rfl (XJ.quiet hw rfl hL (by decide) (Below.refl _ _) hb3.size))
        · refine wpOp_mk rfl rfl (op_index tysOk (t := 45) rfl (ov_eval _ 0 3 _ (xl_nd ..) rfl (hes 3 (by decide)) (by simp)) (ov_eval _ 0 7 _ (xl_nd ..) rfl (hes 7 (by decide)) (by simp)) (by rw [hyj]; omega) (by rw [hyj]; omega) ?_)
          have e2 : p.o + y.2.1.toNat * (Ty.int .i64).sz = p.o + j := by
            have : (Ty.int .i64).sz = 1 := rfl
            rw [this, hyj, Int.toNat_natCast]; omega
          rw [e2]
          exact XJ.quiet hw rfl hL (by decide) (Below.refl _ _) hb3.size
        · refine wpOp_mk rfl rfl (op_store1 (tysOk 2 (.int .i64) rfl) (d := 0) (ov_eval _ 0 8 _ (xl_nd ..) rfl (hes 8 (by decide)) (by simp)) rfl hg3.hD (by omega) fun w4 hd4 hg4 hs4 => ?_)
          refine ⟨ov_congr _ _ _ fun m _ h2 => ?_, fun _ m hm => ?_, (fun h => by cases h), fun _ => ⟨⟨?_, ?_, hd4⟩, ?_, ?_⟩⟩
          · have h2 : m < 9 := by simpa [xl] using h2
            have : (m == 9) = false := by rw [beq_eq_false_iff_ne]; omega
            simp [this]
          · have h8 := hes m (by have : m = 0 ∨ m = 1 ∨ m = 2 ∨ m = 3 ∨ m = 4 ∨ m = 5 ∨ m = 6 ∨ m = 7 ∨ m = 8 := by omega
                                 rcases this with rfl | rfl | rfl | rfl | rfl | rfl | rfl | rfl | rfl <;> decide)
            rw [h8]; simp
          · rw [hg4.block _ (hg3.lt _ (by simp)) (by simp; omega)]; exact hg3.hG
          · rw [hg4.block _ (hg3.lt _ (by simp)) (by simp; omega)]; exact hg3.hgb
          · exact (hbel.trans (hb3.mono hbel.size)).grown hg4 (Nat.le_trans hbel.size hb3.size) (fun k hk => by injection hk with hk; omega)
          · rw [hs4]; exact hb3.size
      · intro L a2 w3 hall hJ
        obtain ⟨rfl, hw⟩ := hJ
        rw [ov_congr (M := fun _ => true) (xl p (N : Int) (i : Int) y j) 0 _ (fun m _ h2 => hall m (Nat.lt_trans (show m < 9 by simpa [xl] using h2) (by decide)))]
        obtain ⟨hg3, hb3, hs3⟩ := hw.fin (hall 9 (by decide))
        have A8 : Aside (GnI p w3 (l.set j 0) ∧ Below w.heap.size w w3 ∧ W3.heap.size ≤ w3.heap.size) := ⟨hg3, hb3, Nat.le_trans hsz hs3⟩
        clear hg3 hb3 hs3 hw hgi hbel hsz hy hyj hin' hall
        simp only [ov, xl, pif, cond_true, Act.put, List.setIfInBounds_toArray, List.set_cons_succ, List.set_cons_zero]
        go_wp2
        go_roundw
        case rel => exact ⟨i + 1, k', l.set j 0, by omega, rfl, A7.2.2, A8.1, A8.2.1, A8.2.2, by simpa using hll2⟩
        case measure => simp [intOf]; omega
    · have hiN : i = N := by omega
      subst hiN
      have hlD : l = D1 := by
        cases k with
        | zero => cases hin
        | succ k' =>
          simp only [initF] at hin
          rw [if_neg (by omega)] at hin
          injection hin
      subst hlD
      clear hin hgi hbel hsz hll2 hiN
      go_wp2
      go_loopg [7] K (fun k t7 wx => ∃ (db : Nat) (depth : Int) (Dk : List Int), t7 = .pointer (some ⟨db, 0, none⟩) ∧ loopF K list (i : Int) k depth Dk = some D ∧ wx.heap[db]? = some (.cells #[.int .i64 depth] 2 (0, 0)) ∧ GnI p wx Dk ∧ Below w.heap.size w wx ∧ W3.heap.size ≤ wx.heap.size ∧ W3.heap.size ≤ db)
      case atStart =>
        have hb6 : Below wr.heap.size wr (wr.alloc (.cells #[.int .i64 1] 2)) := (Below.refl _ _).alloc (Nat.le_refl _) _
        exact ⟨wr.heap.size, 1, l, rfl, A2, by rw [alloc_get, if_pos rfl], GnI.below A6.1 hb6 (Nat.le_refl _), (show Below w.heap.size w wr from A6.2.1).trans (hb6.mono A6.2.1.size), Nat.le_trans A6.2.2.1 hb6.size, A6.2.2.1⟩
      case round =>
        obtain ⟨db, depth, Dk, rfl, hlp, hdb, hgx, hbx, hsx, hdbs⟩ := hrel
        generalize wr = wo at *
        have hx : ∃ k' known s1, gk = k' + 1 ∧ (0 ≤ depth ∧ depth < 1000000) ∧ i_generated_known K ((list, (i : Int), Dk, ()), depth, ()) = some known ∧ roundF K list (i : Int) known depth list (Dk, false) = some s1 ∧ (if s1.2 = true then loopF K list (i : Int) k' (depth + 1) s1.1 else some s1.1) = some D := by
          cases gk with
          | zero => cases hlp
          | succ k' =>
            simp only [loopF] at hlp
            split at hlp
            case isFalse => cases hlp
            rename_i hb
            obtain ⟨known, hkn, hlp⟩ := Option.bind_eq_some_iff.1 hlp
            obtain ⟨s1, hs1, hlp⟩ := Option.bind_eq_some_iff.1 hlp
            exact ⟨k', known, s1, rfl, ⟨hb.1, hb.2.1⟩, hkn, hs1, hlp⟩
        obtain ⟨k', known, s1, rfl, ⟨hd0, hd1⟩, hkn, hs1, hlp'⟩ := hx
        obtain ⟨q1, q2, q3, q4, q5, q6, q7, q8, q9⟩ := (show p.lv = .slice la list.length lc ∧ p.n = (i : Int) ∧ p.L = D0.length ∧ p.L ≤ p.c ∧ p.G < W3.heap.size ∧ p.gb < W3.heap.size ∧ p.D < p.G ∧ w.heap.size ≤ p.D ∧ p.G < p.gb from A4)
        have hl0 : RX Try.prog (.sl tq0) false wo (fun b => b < w.heap.size) [p.lv] list := by
          rw [q1]
          exact RX_congr _ (.sl tq0) false hbx.size (fun b h1 h2 => ⟨h1, hbx.block b h2⟩) (fun b h1 => Nat.lt_of_lt_of_le h1 hbx.size) (show RX Try.prog (.sl tq0) false w (fun b => b < w.heap.size) [.slice la list.length lc] list from A0)
        have hknc := known_calls K p q4 hgx hl0 (fun b hb => Nat.lt_of_lt_of_le hb hbx.size) depth (by rw [q2]; exact hkn)
        have c5 : wo.cell? ⟨p.gb, 0, none⟩ = some (.pointer (some ⟨p.G, 0, none⟩)) := by simp [World.cell?, hgx.hgb]
        have c7 : wo.cell? ⟨db, 0, none⟩ = some (.int .i64 depth) := by simp [World.cell?, hdb]
        have hdbl : db < wo.heap.size := (Array.getElem?_eq_some_iff.1 hdb).1
        have A8 : Aside (wo.heap[db]? = some (.cells #[.int .i64 depth] 2 (0, 0)) ∧ GnI p wo Dk ∧ Below w.heap.size w wo ∧ W3.heap.size ≤ wo.heap.size ∧ W3.heap.size ≤ db ∧ db < wo.heap.size) := ⟨hdb, hgx, hbx, hsx, hdbs, hdbl⟩
        have A9 : Aside (roundF K list (i : Int) known depth list (Dk, false) = some s1 ∧ (if s1.2 = true then loopF K list (i : Int) k' (depth + 1) s1.1 else some s1.1) = some D) := ⟨hs1, hlp'⟩
        have A10 : Aside (RX Try.prog (.sl tq0) false wo (fun b => b < w.heap.size) [p.lv] list) := hl0
        clear hlp hdb hgx hbx hsx hkn hs1 hlp' hl0 q1 q2 q3 q5 q6 q7 q8 q9 hdbl hdbs
        go_wp2_with (first
          | (go_at_call 131; refine hknc.mono ?_; rintro e W4 ⟨kv, rfl, hkw⟩)
          | go_in)
        obtain ⟨hkr, hkb⟩ := hkw
        obtain ⟨hdb, hgx, hbx, hsx, hdbs, hdbl⟩ := (show wo.heap[db]? = some (.cells #[.int .i64 depth] 2 (0, 0)) ∧ GnI p wo Dk ∧ Below w.heap.size w wo ∧ W3.heap.size ≤ wo.heap.size ∧ W3.heap.size ≤ db ∧ db < wo.heap.size from A8)
        obtain ⟨q1, q2, q3, q4, q5, q6, q7, q8, q9⟩ := (show p.lv = .slice la list.length lc ∧ p.n = (i : Int) ∧ p.L = D0.length ∧ p.L ≤ p.c ∧ p.G < W3.heap.size ∧ p.gb < W3.heap.size ∧ p.D < p.G ∧ w.heap.size ≤ p.D ∧ p.G < p.gb from A4)
        obtain ⟨pp, hpp⟩ : ∃ pp : GnP, pp = { p with depth := depth, db := db, ab := W4.heap.size } := ⟨_, rfl⟩
        have e1 : pp.lv = p.lv ∧ pp.n = p.n ∧ pp.depth = depth ∧ pp.G = p.G ∧ pp.gb = p.gb ∧ pp.db = db ∧ pp.ab = W4.heap.size ∧ pp.D = p.D ∧ pp.o = p.o ∧ pp.c = p.c ∧ pp.L = p.L ∧ pp.tD = p.tD := by rw [hpp]; simp
        obtain ⟨r1, r2, r3, r4, r5, r6, r7, r8, r9, r10, r11, r12⟩ := e1
        have hW4 : wo.heap.size ≤ W4.heap.size := hkb.size
        have hok : pp.Ok := ⟨by rw [r10, r11]; exact q4, by rw [r4, r8]; omega, by rw [r4, r7]; omega, by rw [r5, r8]; omega, by rw [r5, r7]; omega, by rw [r6, r8]; omega, by rw [r6, r7]; omega, by rw [r8, r7]; omega⟩
        have hb5 : Below W4.heap.size W4 (W4.alloc (.cells #[.bool false] 4)) := (Below.refl _ _).alloc (Nat.le_refl _) _
        have hg4 : GnI p W4 Dk := hgx.below hkb (Nat.le_refl _)
        have hg5 : GnI p (W4.alloc (.cells #[.bool false] 4)) Dk := hg4.below hb5 (Nat.le_refl _)
        have hgw : GnW pp (W4.alloc (.cells #[.bool false] 4)) (Dk, false) := by
          refine ⟨by rw [r4, r1, r2, r8, r9, r10, r11]; exact hg5.hG, by rw [r4, r5]; exact hg5.hgb, ?_, ?_, by rw [r8, r9, r11, r12]; exact hg5.hD⟩
          · rw [r6, r3, hb5.block _ (by omega), hkb.block _ hdbl]; exact hdb
          · rw [r7, alloc_get, if_pos rfl]
        have hk5 : RX Try.prog (.sl tq0) false (W4.alloc (.cells #[.bool false] 4)) (fun b => wo.heap.size ≤ b ∧ b < W4.heap.size) [kv] known := RX_congr _ (.sl tq0) false hb5.size (fun b h1 h2 => ⟨h1, hb5.block b h2⟩) (fun b h1 => Nat.lt_of_lt_of_le h1.2 hb5.size) hkr
        have hbw : Below w.heap.size w (W4.alloc (.cells #[.bool false] 4)) := (hbx.trans (hkb.mono hbx.size)).trans (hb5.mono (Nat.le_trans hbx.size hkb.size))
        have A11 : Aside (GnW pp (W4.alloc (.cells #[.bool false] 4)) (Dk, false) ∧ Below w.heap.size w (W4.alloc (.cells #[.bool false] 4)) ∧ RX Try.prog (.sl tq0) false (W4.alloc (.cells #[.bool false] 4)) (fun b => wo.heap.size ≤ b ∧ b < W4.heap.size) [kv] known) := ⟨hgw, hbw, hk5⟩
        have A12 : Aside (pp.Ok ∧ wo.heap.size ≤ W4.heap.size) := ⟨hok, hW4⟩
        have A13 : Aside (pp.lv = p.lv ∧ pp.n = p.n ∧ pp.depth = depth ∧ pp.G = p.G ∧ pp.gb = p.gb ∧ pp.db = db ∧ pp.ab = W4.heap.size ∧ pp.D = p.D ∧ pp.o = p.o ∧ pp.c = p.c ∧ pp.L = p.L ∧ pp.tD = p.tD) := ⟨r1, r2, r3, r4, r5, r6, r7, r8, r9, r10, r11, r12⟩
        clear hkr hkb hdb hgx hbx hsx hdbs hdbl q1 q2 q3 q5 q6 q7 q8 q9 hpp r1 r2 r3 r4 r5 r6 r7 r8 r9 r10 r11 r12 hW4 hok hb5 hg4 hg5 hgw hk5 hbw c5 c7 hknc
        have hrd : roundF K list (i : Int) known depth list (Dk, false) = some s1 := A9.1
        go_loopw [41] (fun t41 wq => ∃ (j : Nat) (s : GSt), j ≤ list.length ∧ t41 = .int .i64 j ∧ foldF (fun s f => stepsF K list (i : Int) f known depth 100 [] s) (list.drop j) s = some s1 ∧ GnW pp wq s ∧ Below w.heap.size w wq ∧ W4.heap.size + 1 ≤ wq.heap.size ∧ RX Try.prog (.sl tq0) false wq (fun b => wo.heap.size ≤ b ∧ b < W4.heap.size) [kv] known) (fun t41 _ => list.length - (intOf t41).toNat)
        case atStart => exact ⟨0, (Dk, false), Nat.zero_le _, rfl, hrd, A11.1, A11.2.1, by simp, A11.2.2⟩
        case round =>
          obtain ⟨j, s, hj, rfl, hfo, hgw, hbw, hsw, hkw⟩ := hrel
          clear hrd
          by_cases hjl : j = list.length
          · subst hjl
            have hss : s = s1 := by
              rw [List.drop_length] at hfo
              injection hfo
            subst hss
            obtain ⟨r1, r2, r3, r4, r5, r6, r7, r8, r9, r10, r11, r12⟩ := (show pp.lv = p.lv ∧ pp.n = p.n ∧ pp.depth = depth ∧ pp.G = p.G ∧ pp.gb = p.gb ∧ pp.db = db ∧ pp.ab = W4.heap.size ∧ pp.D = p.D ∧ pp.o = p.o ∧ pp.c = p.c ∧ pp.L = p.L ∧ pp.tD = p.tD from A13)
            have c5 := (gn_cells hgw).1
            have c7 := (gn_cells hgw).2.2.2.1
            have c9 := (gn_cells hgw).2.2.2.2
            rw [r4, r5] at c5
            rw [r6, r3] at c7
            rw [r7] at c9
            have hgi : GnI p wr s.1 := by
              have := hgw.gi
              exact ⟨by rw [← r4, ← r1, ← r2, ← r8, ← r9, ← r10, ← r11]; exact this.hG, by rw [← r4, ← r5]; exact this.hgb, by rw [← r8, ← r9, ← r11, ← r12]; exact this.hD⟩
            have A14 : Aside (GnI p wr s.1 ∧ Below w.heap.size w wr ∧ W4.heap.size + 1 ≤ wr.heap.size) := ⟨hgi, hbw, hsw⟩
            have hA9 : (if s.2 = true then loopF K list (i : Int) k' (depth + 1) s.1 else some s.1) = some D := A9.2
            cases hs2 : s.2
            · rw [hs2] at c9
              have A15 : Aside (s.1 = D) := by
                rw [if_neg (by rw [hs2]; decide)] at hA9
                injection hA9
              clear hfo hgw hbw hsw hkw hgi hA9 hs2 r1 r2 r3 r4 r5 r6 r7 r8 r9 r10 r11 r12 A9
              go_wp2
              go_ret
              obtain ⟨q1, q2, q3, q4, q5, q6, q7, q8, q9⟩ := (show p.lv = .slice la list.length lc ∧ p.n = (i : Int) ∧ p.L = D0.length ∧ p.L ≤ p.c ∧ p.G < W3.heap.size ∧ p.gb < W3.heap.size ∧ p.D < p.G ∧ w.heap.size ≤ p.D ∧ p.G < p.gb from A4)
              have hz : s.1 = D := A15
              rw [← hz]
              exact ⟨p, rfl, q1, q2, q4, A14.1, A14.2.1⟩
            · rw [hs2] at c9
              have A15 : Aside (loopF K list (i : Int) k' (depth + 1) s.1 = some D) := by
                rw [if_pos hs2] at hA9; exact hA9
              clear hfo hgw hbw hsw hkw hgi hA9 hs2 r1 r2 r3 r4 r5 r6 r7 r8 r9 r10 r11 r12 A9
              go_wp2
              go_roundg k'
              case measure => omega
              case rel =>
                have hb7 : Below wr.heap.size wr (wr.alloc (.cells #[.int .i64 (depth + 1)] 2)) := (Below.refl _ _).alloc (Nat.le_refl _) _
                have hb8 : Below w.heap.size w wr := A14.2.1
                have hW4 : wo.heap.size ≤ W4.heap.size := A12.2
                have hwW3 : W3.heap.size ≤ wo.heap.size := A8.2.2.2.1
                have hsw : W4.heap.size + 1 ≤ wr.heap.size := A14.2.2
                exact ⟨wr.heap.size, depth + 1, s.1, rfl, A15, by rw [alloc_get, if_pos rfl], GnI.below A14.1 hb7 (Nat.le_refl _), hb8.trans (hb7.mono hb8.size), by have := hb7.size; omega, by omega⟩
          · have hjl : j < list.length := by omega
            obtain ⟨f, hf⟩ : ∃ f, list[j]? = some f := ⟨_, List.getElem?_eq_getElem hjl⟩
            have hdrop : list.drop j = f :: list.drop (j + 1) := by
              rw [List.drop_eq_getElem_cons hjl]
              rw [List.getElem?_eq_getElem hjl] at hf
              injection hf with hf; rw [hf]
            rw [hdrop] at hfo
            obtain ⟨s2, hs2, hfo2⟩ := Option.bind_eq_some_iff.1 (show (stepsF K list (i : Int) f known depth 100 [] s).bind (fun s => foldF (fun s f => stepsF K list (i : Int) f known depth 100 [] s) (list.drop (j + 1)) s) = some s1 from hfo)
            obtain ⟨r1, r2, r3, r4, r5, r6, r7, r8, r9, r10, r11, r12⟩ := (show pp.lv = p.lv ∧ pp.n = p.n ∧ pp.depth = depth ∧ pp.G = p.G ∧ pp.gb = p.gb ∧ pp.db = db ∧ pp.ab = W4.heap.size ∧ pp.D = p.D ∧ pp.o = p.o ∧ pp.c = p.c ∧ pp.L = p.L ∧ pp.tD = p.tD from A13)
            obtain ⟨q1, q2, q3, q4, q5, q6, q7, q8, q9⟩ := (show p.lv = .slice la list.length lc ∧ p.n = (i : Int) ∧ p.L = D0.length ∧ p.L ≤ p.c ∧ p.G < W3.heap.size ∧ p.gb < W3.heap.size ∧ p.D < p.G ∧ w.heap.size ≤ p.D ∧ p.G < p.gb from A4)
            -- the list, in this world
            have hlw : RX Try.prog (.sl tq0) false wr (fun b => b < w.heap.size) [.slice la list.length lc] list := RX_congr _ (.sl tq0) false hbw.size (fun b h1 h2 => ⟨h1, hbw.block b h2⟩) (fun b h1 => Nat.lt_of_lt_of_le h1 hbw.size) (show RX Try.prog (.sl tq0) false w (fun b => b < w.heap.size) [.slice la list.length lc] list from A0)
            obtain ⟨a', c', e5, _, hcs⟩ := rx_cells hlw
            injection e5 with e5 _ e6
            subst e5
            subst e6
            rcases hcs with hcs | ⟨lb, lo, rfl, hSl, hcs⟩
            · rw [hcs] at hjl; simp at hjl
            obtain ⟨d0, d1⟩ := hcs j f hf
            have hb6 : Below wr.heap.size wr (wr.alloc (.cells #[.int .i64 f.1, .int .i64 f.2.1] 23)) := (Below.refl _ _).alloc (Nat.le_refl _) _
            have hok : pp.Ok := A12.1
            have hW4 : wo.heap.size ≤ W4.heap.size := A12.2
            have hg6 : GnW pp (wr.alloc (.cells #[.int .i64 f.1, .int .i64 f.2.1] 23)) s := hgw.below hb6 (Nat.le_refl _)
            have hwW3 : W3.heap.size ≤ wo.heap.size := A8.2.2.2.1
            have hdbl : db < wo.heap.size := A8.2.2.2.2.2
            have hdbs : W3.heap.size ≤ db := A8.2.2.2.2.1
            have hwW : w.heap.size ≤ W3.heap.size := by omega
            have hl6 : RX Try.prog (.sl tq0) false (wr.alloc (.cells #[.int .i64 f.1, .int .i64 f.2.1] 23)) (pp.S (wr.alloc (.cells #[.int .i64 f.1, .int .i64 f.2.1] 23)).heap.size) [pp.lv] list := by
              rw [r1, q1]
              refine RX_congr _ (.sl tq0) false hb6.size (fun b h1 h2 => ⟨⟨?_, ?_, ?_⟩, hb6.block b h2⟩) (fun b h1 => h1.1) hlw
              · have := hb6.size; omega
              · rw [r8]; omega
              · rw [r7]; omega
            have hk6 : RX Try.prog (.sl tq0) false (wr.alloc (.cells #[.int .i64 f.1, .int .i64 f.2.1] 23)) (pp.S (wr.alloc (.cells #[.int .i64 f.1, .int .i64 f.2.1] 23)).heap.size) [kv] known := by
              refine RX_congr _ (.sl tq0) false hb6.size (fun b h1 h2 => ⟨⟨?_, ?_, ?_⟩, hb6.block b h2⟩) (fun b h1 => h1.1) hkw
              · have := hb6.size; omega
              · rw [r8]; omega
              · rw [r7]; omega
            have c5 := (gn_cells hg6).1
            have c7 := (gn_cells hg6).2.2.2.1
            rw [r4, r5] at c5
            rw [r6, r3] at c7
            have hst : Calls Try.prog 132 #[.pointer (some ⟨p.G, 0, none⟩), .agg #[.int .i64 f.1, .int .i64 f.2.1], kv, .slice none 0 0, .int .i64 depth, .func (.func 133) #[] #[.pointer (some ⟨p.gb, 0, none⟩), .pointer (some ⟨db, 0, none⟩), .pointer (some ⟨W4.heap.size, 0, none⟩)]] (wr.alloc (.cells #[.int .i64 f.1, .int .i64 f.2.1] 23)) (StepsW pp (wr.alloc (.cells #[.int .i64 f.1, .int .i64 f.2.1] 23)).heap.size [] (.slice none 0 0) s2 (wr.alloc (.cells #[.int .i64 f.1, .int .i64 f.2.1] 23))) := by
              have := steps_ok K pp hok list f known kv (wr.alloc (.cells #[.int .i64 f.1, .int .i64 f.2.1] 23)).heap.size (fun b hb => Nat.lt_of_lt_of_le (hgw.lt b hb) hb6.size) 100 [] (.slice none 0 0) _ s s2 hg6 hl6 hk6 (World.ownsRow_nil _ _ _ _) (Nat.le_refl _) (by rw [r2, q2, r3]; exact hs2)
              unfold stepArgs at this
              rw [r3, r4, r5, r6, r7] at this
              exact this
            have A14 : Aside (foldF (fun s f => stepsF K list (i : Int) f known depth 100 [] s) (list.drop (j + 1)) s2 = some s1) := hfo2
            have A15 : Aside (Below w.heap.size w wr ∧ W4.heap.size + 1 ≤ wr.heap.size ∧ RX Try.prog (.sl tq0) false wr (fun b => wo.heap.size ≤ b ∧ b < W4.heap.size) [kv] known) := ⟨hbw, hsw, hkw⟩
            clear hs2 hfo2 hfo hdrop hf hlw hcs hSl hg6 hl6 hk6 hgw hbw hsw hkw hb6 hok hW4 hwW3 hdbl hdbs hwW r1 r2 r3 r4 r5 r6 r7 r8 r9 r10 r11 r12 q1 q2 q3 q4 q5 q6 q7 q8 q9
            go_wp2_with (first
              | (go_at_call 132; refine hst.mono ?_; rintro e w9 ⟨rfl, hg9, _, hf9⟩)
              | go_in)
            obtain ⟨hbw, hsw, hkw⟩ := (show Below w.heap.size w wr ∧ W4.heap.size + 1 ≤ wr.heap.size ∧ RX Try.prog (.sl tq0) false wr (fun b => wo.heap.size ≤ b ∧ b < W4.heap.size) [kv] known from A15)
            have hb6 : Below wr.heap.size wr (wr.alloc (.cells #[.int .i64 f.1, .int .i64 f.2.1] 23)) := (Below.refl _ _).alloc (Nat.le_refl _) _
            obtain ⟨r1, r2, r3, r4, r5, r6, r7, r8, r9, r10, r11, r12⟩ := (show pp.lv = p.lv ∧ pp.n = p.n ∧ pp.depth = depth ∧ pp.G = p.G ∧ pp.gb = p.gb ∧ pp.db = db ∧ pp.ab = W4.heap.size ∧ pp.D = p.D ∧ pp.o = p.o ∧ pp.c = p.c ∧ pp.L = p.L ∧ pp.tD = p.tD from A13)
            obtain ⟨q1, q2, q3, q4, q5, q6, q7, q8, q9⟩ := (show p.lv = .slice (some ⟨lb, lo, none⟩) list.length lc ∧ p.n = (i : Int) ∧ p.L = D0.length ∧ p.L ≤ p.c ∧ p.G < W3.heap.size ∧ p.gb < W3.heap.size ∧ p.D < p.G ∧ w.heap.size ≤ p.D ∧ p.G < p.gb from A4)
            have hwW3 : W3.heap.size ≤ wo.heap.size := A8.2.2.2.1
            have hW4 : wo.heap.size ≤ W4.heap.size := A12.2
            have hb9 : Below w.heap.size w w9 := by
              refine (hbw.trans (hb6.mono hbw.size)).trans ⟨hf9.os, hf9.tape, hf9.output, hf9.size, fun k hk => hf9.block k ?_ ?_ ?_ (by simp [Value.ownBlock])⟩
              · have := hbw.size; have := hb6.size; omega
              · rw [r8]; omega
              · rw [r7]; omega
            have hk9 : RX Try.prog (.sl tq0) false w9 (fun b => wo.heap.size ≤ b ∧ b < W4.heap.size) [kv] known := by
              refine RX_congr _ (.sl tq0) false (Nat.le_trans hb6.size hf9.size) (fun b h1 h2 => ⟨h1, ?_⟩) (fun b h1 => ?_) hkw
              · rw [hf9.block b (by have := hb6.size; omega) (by rw [r8]; omega) (by rw [r7]; omega) (by simp [Value.ownBlock]), hb6.block b h2]
              · have := hb6.size; have := hf9.size; omega
            have hs9 : W4.heap.size + 1 ≤ w9.heap.size := by have := hb6.size; have := hf9.size; omega
            have A16 : Aside (GnW pp w9 s2 ∧ Below w.heap.size w w9 ∧ W4.heap.size + 1 ≤ w9.heap.size ∧ RX Try.prog (.sl tq0) false w9 (fun b => wo.heap.size ≤ b ∧ b < W4.heap.size) [kv] known) := ⟨hg9, hb9, hs9, hk9⟩
            go_roundw
            case rel => exact ⟨j + 1, s2, by omega, by simp, A14, A16.1, A16.2.1, A16.2.2.1, A16.2.2.2⟩
            case measure => simp [intOf]; omega
/-! GeneratedBy -/
theorem code_calls (K : Nat) (w : World) (b : Nat) (t : TypeId) (lv : Value) (list : List DFg) (n c : Int) {S : Nat → Prop} (hb : w.heap[b]? = some (.cells #[lv] t (0, 0))) (hl : RX Try.prog (.sl tq0) false w S [lv] list) (hy : i_generationCode K (n, [list], ()) = some c) :
    Calls Try.prog 86 #[.int .i64 n, .slice (some ⟨b, 0, none⟩) 1 1] w fun e w' => e = .returned (.int .i64 c) ∧ Below w.heap.size w w' := by
  refine (gcalls (ok_i_generationCode K) rfl Try.func86 (by kernel_rfl) (c := bodyOf Try.f86) (by kernel_rfl) w [.int .i64 n, .slice (some ⟨b, 0, none⟩) 1 1] (n, [list], ()) c ?_ hy).mono ?_
  · refine ⟨[.int .i64 n], [.slice (some ⟨b, 0, none⟩) 1 1], rfl, rfl, [.slice (some ⟨b, 0, none⟩) 1 1], [], rfl, ?_, rfl⟩
    refine ⟨some ⟨b, 0, none⟩, 1, 1, rfl, rfl, Nat.le_refl _, .inr ⟨b, 0, _, t, (0, 0), rfl, (Array.getElem?_eq_some_iff.1 hb).1, hb, Nat.le_refl _, fun i y hy => ?_⟩⟩
    cases i with
    | zero =>
      have : y = list := by simpa using hy.symm
      subst this
      exact RX_congr _ (.sl tq0) false (Nat.le_refl _) (fun b h1 h2 => ⟨h2, rfl⟩) (fun _ h => h) hl
    | succ i => simp at hy
  · rintro e w' ⟨v, rfl, bs, ⟨cs, h0, h1, h2⟩, h3, h4, h5⟩
    have h1 : cs = [.int .i64 c] := h1
    subst h1
    cases h0
    exact ⟨rfl, h5⟩
noncomputable abbrev gbT : Ty := .tup (.pair (.sl tq0) (.pair (.int .i64) .unit))
def GbW (y : List DFg × Int × Unit) (w : World) (e : Ending) (w' : World) : Prop := ∃ v, e = .returned v ∧ Ret gbT y w v w'
theorem gb_calls (K : Nat) (w : World) (list : List DFg) (lv : Value) (n : Int) (y : List DFg × Int × Unit) (hl : RX Try.prog (.sl tq0) false w (fun b => b < w.heap.size) [lv] list) (hy : genByF K (list, n, ()) = some y) : Calls Try.prog 43 #[lv, .int .i64 n] w (GbW y w) := by
  unfold genByF at hy
  obtain ⟨c, hc, hy⟩ := Option.bind_eq_some_iff.1 hy
  obtain ⟨la, lc, hlv, hlc, _⟩ := rx_cells hl
  subst hlv
  have hb1 : ∀ t, Below w.heap.size w (w.alloc (.cells #[.slice la list.length lc] t)) := fun t => (Below.refl _ _).alloc (Nat.le_refl _) _
  have hcode := fun t => code_calls K (w.alloc (.cells #[.slice la list.length lc] t)) w.heap.size t (.slice la list.length lc) list n c (S := fun b => b < w.heap.size) (by rw [alloc_get, if_pos rfl]) (RX_congr _ (.sl tq0) false (hb1 t).size (fun b h1 h2 => ⟨h1, (hb1 t).block b h2⟩) (fun b h1 => Nat.lt_of_lt_of_le h1 (hb1 t).size) hl) hc
  by_cases hc0 : c = 0
  · subst hc0
    rw [if_pos rfl] at hy
    obtain ⟨D, hD, hy⟩ := Option.bind_eq_some_iff.1 hy
    obtain ⟨l, hll, hy⟩ := Option.bind_eq_some_iff.1 hy
    injection hy with hy
    subst hy
    have hgen : ∀ w', Below w.heap.size w w' → Calls Try.prog 87 #[.slice la list.length lc, .int .i64 n] w' (GenW list (.slice la list.length lc) n D w') := fun w' hb => gen_calls K w' list _ n D (RX_congr _ (.sl tq0) false hb.size (fun b h1 h2 => ⟨Nat.lt_of_lt_of_le h1 hb.size, hb.block b h2⟩) (fun b h1 => h1) hl) hD
    have hall : ∀ p w', p.lv = .slice la list.length lc → p.n = n → p.L ≤ p.c → GnI p w' D → Below w.heap.size w w' → Calls Try.prog 88 #[.pointer (some ⟨p.G, 0, none⟩)] w' fun e w'' => ∃ v, e = .returned v ∧ Ret (.sl tq0) l w' v w'' := fun p w' h1 h2 h3 h4 hb =>
      all_calls K p h3 h4 (T := fun b => b < w.heap.size) (by rw [h1]; exact RX_congr _ (.sl tq0) false hb.size (fun b h1 h2 => ⟨h1, hb.block b h2⟩) (fun b h1 => Nat.lt_of_lt_of_le h1 hb.size) hl) (fun b h => Nat.lt_of_lt_of_le h hb.size) (by rw [h2]; exact hll)
    have A0 : Aside (∀ t, Below w.heap.size w (w.alloc (.cells #[.slice la list.length lc] t))) := hb1
    clear hc hD hll hl hb1
    go_enter Try.func43, Try.ntmps43
    go_wp2_with (first
      | (go_at_call 86; refine (hcode _).mono ?_; rintro e w1 ⟨rfl, hbe1⟩; have hb2 : Aside (Below w.heap.size w w1) := Below.trans (A0 _) (hbe1.mono (A0 _).size))
      | (go_at_call 87; refine (hgen _ hb2).mono ?_; rintro e w2 ⟨p, rfl, g1, g2, g3, g4, g5⟩; have hb3 : Aside (Below w.heap.size w w2) := Below.trans hb2 (g5.mono hb2.size); have A1 : Aside (p.lv = .slice la list.length lc ∧ p.n = n ∧ p.L ≤ p.c ∧ GnI p w2 D) := ⟨g1, g2, g3, g4⟩; clear g1 g2 g3 g4)
      | (go_at_call 88; refine (hall _ _ A1.1 A1.2.1 A1.2.2.1 A1.2.2.2 hb3).mono ?_; rintro e w3 ⟨v, rfl, hret⟩)
      | go_in)
    go_ret2
    obtain ⟨bs, h1, h2, h3, h4⟩ := hret
    have hbb : Below w.heap.size w w2 := hb3
    exact ⟨.tuple #[v, .int .i64 0], rfl, bs, ⟨[v, .int .i64 0], rfl, v, [.int .i64 0], bs, [], rfl, by simp, h1, .int .i64 0, [], [], [], rfl, rfl, ⟨[.int .i64 0], rfl, rfl, rfl⟩, rfl, rfl⟩, h2, fun b hb => ⟨Nat.le_trans hbb.size (h3 b hb).1, (h3 b hb).2⟩, hbb.trans (h4.mono hbb.size)⟩
  · rw [if_neg hc0] at hy
    injection hy with hy
    subst hy
    have A0 : Aside (∀ t, Below w.heap.size w (w.alloc (.cells #[.slice la list.length lc] t))) := hb1
    have hcb : (c == 0) = false := by rw [beq_eq_false_iff_ne]; exact hc0
    have hcb2 : (c != 0) = true := by rw [bne_iff_ne]; exact hc0
    clear hc hl hb1 hc0
    go_enter Try.func43, Try.ntmps43
    go_wp2_with (first
      | (go_at_call 86; refine (hcode _).mono ?_; rintro e w1 ⟨rfl, hbe1⟩; have hb2 : Aside (Below w.heap.size w w1) := Below.trans (A0 _) (hbe1.mono (A0 _).size))
      | go_in)
    go_ret2
    exact ⟨.tuple #[.slice none 0 0, .int .i64 c], rfl, [], ⟨[.slice none 0 0, .int .i64 c], rfl, .slice none 0 0, [.int .i64 c], [], [], rfl, rfl, ⟨[.slice none 0 0], rfl, .inl ⟨rfl, rfl, rfl⟩⟩, .int .i64 c, [], [], [], rfl, rfl, ⟨[.int .i64 c], rfl, rfl, rfl⟩, rfl, rfl⟩, List.nodup_nil, fun b hb => (by cases hb), hb2⟩
theorem gby_ok (K : Nat) : FnOk Try.prog 43 ⟨.pair (.sl tq0) (.pair (.int .i64) .unit), [false, false], gbT, genByF K⟩ := by
  refine ⟨fun _ => ?_, fun h => by cases h⟩
  intro w vs x y hx hy
  obtain ⟨list, n, u⟩ := x
  obtain ⟨cs, r, rfl, hl, c2, r2, rfl, h2, h3⟩ := hx
  have h2 : c2 = [.int .i64 n] := h2
  have h3 : r2 = [] := h3
  subst h2 h3
  obtain ⟨lv, hlv⟩ : ∃ lv, lv = valOf (.sl tq0) cs := ⟨_, rfl⟩
  have hcs : cs = [lv] := by
    have hl1 : cs.length = 1 := RX_len _ _ _ _ _ _ hl
    match cs, hl1 with
    | [x], _ => rw [hlv]; rfl
  rw [← hlv]
  rw [hcs] at hl
  refine cf_of_calls Try.func43 (c := bodyOf Try.f43) (by kernel_rfl) (by kernel_rfl) ?_
  exact gb_calls K w list lv n y hl hy
end Go.Proofs.Ytmlgfaojfmkdnaa.E
namespace Go.Proofs.Ytmlgfaojfmkdnaa.E
open Go Go.Proofs Go.Proofs.Ytmlgfaojfmkdnaa
set_option maxRecDepth 100000
set_option linter.unusedVariables false
noncomputable def as_i_GeneratedBy : Ty := (.pair (.sl tq0) (.pair (.int .i64) .unit))
noncomputable def sp_i_GeneratedBy (F : ((List dq0) × Int × Unit) → Option ((List dq0) × Int × Unit)) : FnSpec := ⟨as_i_GeneratedBy, [false, false], (.tup (.pair (.sl tq0) (.pair (.int .i64) .unit))), F⟩
noncomputable def i_GeneratedBy (K : Nat) (x : List (Int × Int × Unit) × Int × Unit) : Option (List (Int × Int × Unit) × Int × Unit) := genByF K x
theorem ok_i_GeneratedBy (K : Nat) : FnOk Try.prog 43 (sp_i_GeneratedBy (i_GeneratedBy K)) := gby_ok K
noncomputable def C_i_GeneratedBy (K : Nat) : CB Try.prog := .f _ _ (ok_i_GeneratedBy K)
noncomputable def as_i_forTwo : Ty := (.pair (.fn (.pair (.int .i64) (.pair (.int .i64) .unit)) .bool) .unit)
noncomputable def sp_i_forTwo (F : (((Int × Int × Unit) → Option Bool) × Unit) → Option Bool) : FnSpec := ⟨as_i_forTwo, [false], .bool, F⟩
noncomputable def i_forTwo (K : Nat) (x : (((Int × Int × Unit) → Option Bool) × Unit)) : Option Bool :=
    (x.1 ((0 : Int), (0 : Int), ())).bind fun y1 =>
    (if y1 = true then
    (x.1 ((0 : Int), (1 : Int), ())).bind fun y2 =>
    (if y2 = true then
    (x.1 ((1 : Int), (0 : Int), ())).bind fun y3 =>
    (if y3 = true then
    (x.1 ((1 : Int), (1 : Int), ())).bind fun y4 =>
    some y4
    else
    some false)
    else
    some false)
    else
    some false)
noncomputable def rv_i_forTwo : Lv := [(2, (.v .bool))]
theorem ok_i_forTwo (K : Nat) : FnOk Try.prog 89 (sp_i_forTwo (i_forTwo K)) :=
  fn_okD tysOk [] 0 [] [] rv_i_forTwo K Try.func89 (by kernel_rfl) trivial (fun _ => by kernel_rfl)
noncomputable def C_i_forTwo (K : Nat) : CB Try.prog := .f _ _ (ok_i_forTwo K)
noncomputable def as_i_packed : Ty := (.pair (.sl (.int .i64)) .unit)
noncomputable def sp_i_packed (F : ((List Int) × Unit) → Option Int) : FnSpec := ⟨as_i_packed, [false], (.int .i64), F⟩
noncomputable def i_packed_l3 {R : Type} (K : Nat) : Nat → Int → (List Int) → Int → Int → (Int → Option R) → Option R
  | 0, _, _, _, _, _ => none
  | k + 1, v3, v6, v7, v8, kx0 =>
    (if (decide (v8 < v7)) = true then
    (if (bnds v8 (v6.length : Int)) = true then
    (if (decide ((0 : Int) ≤ v8)) = true then
    let x1 := (bitI .or .i64 v3 (shlI .i64 (v6.getD v8.toNat (0 : Int)) v8))
    i_packed_l3 K k x1 v6 v7 (IntKind.i64.wrap (v8 + (1 : Int))) kx0
    else
    none)
    else
    none)
    else
    kx0 v3)
noncomputable def i_packed (K : Nat) (x : ((List Int) × Unit)) : Option Int :=
    i_packed_l3 K K (0 : Int) x.1 (x.1.length : Int) (0 : Int) (fun z2 =>
    some z2)
noncomputable def X0_i_packed : Lv := [(3, (.v (.int .i64)))]
noncomputable def rv_i_packed : Lv := [(2, (.v (.int .i64)))]
noncomputable def D_i_packed (K : Nat) : List (PD (den (.int .i64))) := [.L 3 [(3, (.v (.int .i64))), (6, (.v (.sl (.int .i64)))), (7, (.v (.int .i64))), (8, (.v (.int .i64)))] [] (fun k x kx kr => i_packed_l3 K k x.1 x.2.1 x.2.2.1 x.2.2.2.1 (fun z0 => kx 0 (mkSt X0_i_packed (z0, ()))))]
theorem ok_i_packed (K : Nat) : FnOk Try.prog 136 (sp_i_packed (i_packed K)) :=
  fn_okD tysOk [] 0 (D_i_packed K) [(0, X0_i_packed)] rv_i_packed K Try.func136 (by kernel_rfl) ⟨⟨fun _ _ _ _ => by kernel_rfl, fun _ _ _ => rfl⟩, trivial⟩ (fun _ => by kernel_rfl)
noncomputable def C_i_packed (K : Nat) : CB Try.prog := .f _ _ (ok_i_packed K)
noncomputable def as_i_Func_of : Ty := (.pair tq0 (.pair (.sl (.int .i64)) .unit))
noncomputable def sp_i_Func_of (F : (dq0 × (List Int) × Unit) → Option Int) : FnSpec := ⟨as_i_Func_of, [false, false], (.int .i64), F⟩
noncomputable def i_Func_of (K : Nat) (x : (dq0 × (List Int) × Unit)) : Option Int :=
    (i_packed K (x.2.1, ())).bind fun y1 =>
    (i_Func_at K (x.1, y1, ())).bind fun y2 =>
    some y2
noncomputable def rv_i_Func_of : Lv := [(4, (.v (.int .i64)))]
theorem ok_i_Func_of (K : Nat) : FnOk Try.prog 91 (sp_i_Func_of (i_Func_of K)) :=
  fn_okD tysOk [C_i_Func_at K, C_i_packed K] 0 [] [] rv_i_Func_of K Try.func91 (by kernel_rfl) trivial (fun _ => by kernel_rfl)
noncomputable def C_i_Func_of (K : Nat) : CB Try.prog := .f _ _ (ok_i_Func_of K)
noncomputable def as_i_Func_isOfKind_c1 : Ty := (.pair (.int .i64) (.pair (.int .i64) (.pair (.ptr tq0) .unit)))
noncomputable def sp_i_Func_isOfKind_c1 (F : (Int × Int × dq0 × Unit) → Option Bool) : FnSpec := ⟨as_i_Func_isOfKind_c1, [false, false, false], .bool, F⟩
noncomputable def i_Func_isOfKind_c1 (K : Nat) (x : (Int × Int × dq0 × Unit)) : Option Bool :=
    let l1 := [x.1, x.1, x.2.1]
    (i_Func_of K (x.2.2.1, l1, ())).bind fun y2 =>
    (if (decide (y2 = x.1)) = true then
    let l3 := [x.1, x.2.1, x.1]
    (i_Func_of K (x.2.2.1, l3, ())).bind fun y4 =>
    (if (decide (y4 = x.1)) = true then
    let l5 := [x.2.1, x.1, x.1]
    (i_Func_of K (x.2.2.1, l5, ())).bind fun y6 =>
    some (decide (y6 = x.1))
    else
    some false)
    else
    some false)
noncomputable def rv_i_Func_isOfKind_c1 : Lv := [(5, (.v .bool))]
theorem ok_i_Func_isOfKind_c1 (K : Nat) : FnOk Try.prog 90 (sp_i_Func_isOfKind_c1 (i_Func_isOfKind_c1 K)) :=
  fn_okD tysOk [C_i_Func_of K] 0 [] [] rv_i_Func_isOfKind_c1 K Try.func90 (by kernel_rfl) trivial (fun _ => by kernel_rfl)
noncomputable def C_i_Func_isOfKind_c1 (K : Nat) : CB Try.prog := .f _ _ (ok_i_Func_isOfKind_c1 K)
noncomputable def as_i_Func_isOfKind_c2 : Ty := (.pair (.int .i64) (.pair (.int .i64) (.pair (.ptr tq0) .unit)))
noncomputable def sp_i_Func_isOfKind_c2 (F : (Int × Int × dq0 × Unit) → Option Bool) : FnSpec := ⟨as_i_Func_isOfKind_c2, [false, false, false], .bool, F⟩
noncomputable def i_Func_isOfKind_c2 (K : Nat) (x : (Int × Int × dq0 × Unit)) : Option Bool :=
    let l1 := [x.1, x.1, x.2.1]
    (i_Func_of K (x.2.2.1, l1, ())).bind fun y2 =>
    (if (decide (y2 = x.2.1)) = true then
    let l3 := [x.1, x.2.1, x.1]
    (i_Func_of K (x.2.2.1, l3, ())).bind fun y4 =>
    (if (decide (y4 = x.2.1)) = true then
    let l5 := [x.2.1, x.1, x.1]
    (i_Func_of K (x.2.2.1, l5, ())).bind fun y6 =>
    some (decide (y6 = x.2.1))
    else
    some false)
    else
    some false)
noncomputable def rv_i_Func_isOfKind_c2 : Lv := [(5, (.v .bool))]
theorem ok_i_Func_isOfKind_c2 (K : Nat) : FnOk Try.prog 92 (sp_i_Func_isOfKind_c2 (i_Func_isOfKind_c2 K)) :=
  fn_okD tysOk [C_i_Func_of K] 0 [] [] rv_i_Func_isOfKind_c2 K Try.func92 (by kernel_rfl) trivial (fun _ => by kernel_rfl)
noncomputable def C_i_Func_isOfKind_c2 (K : Nat) : CB Try.prog := .f _ _ (ok_i_Func_isOfKind_c2 K)
noncomputable def as_i_Func_isOfKind_c3 : Ty := (.pair (.int .i64) (.pair (.int .i64) (.pair (.ptr tq0) .unit)))
noncomputable def sp_i_Func_isOfKind_c3 (F : (Int × Int × dq0 × Unit) → Option Bool) : FnSpec := ⟨as_i_Func_isOfKind_c3, [false, false, false], .bool, F⟩
noncomputable def i_Func_isOfKind_c3 (K : Nat) (x : (Int × Int × dq0 × Unit)) : Option Bool :=
    let l1 := [x.1, x.2.1, x.2.1]
    (i_Func_of K (x.2.2.1, l1, ())).bind fun y2 =>
    (if (decide (y2 = x.1)) = true then
    let l3 := [x.2.1, x.2.1, x.1]
    (i_Func_of K (x.2.2.1, l3, ())).bind fun y4 =>
    some (decide (y4 = x.1))
    else
    some false)
noncomputable def rv_i_Func_isOfKind_c3 : Lv := [(5, (.v .bool))]
theorem ok_i_Func_isOfKind_c3 (K : Nat) : FnOk Try.prog 93 (sp_i_Func_isOfKind_c3 (i_Func_isOfKind_c3 K)) :=
  fn_okD tysOk [C_i_Func_of K] 0 [] [] rv_i_Func_isOfKind_c3 K Try.func93 (by kernel_rfl) trivial (fun _ => by kernel_rfl)
noncomputable def C_i_Func_isOfKind_c3 (K : Nat) : CB Try.prog := .f _ _ (ok_i_Func_isOfKind_c3 K)
noncomputable def as_i_Func_rows : Ty := (.pair tq0 .unit)
noncomputable def sp_i_Func_rows (F : (dq0 × Unit) → Option Int) : FnSpec := ⟨as_i_Func_rows, [false], (.int .i64), F⟩
noncomputable def i_Func_rows (K : Nat) (x : (dq0 × Unit)) : Option Int :=
    (i_rowsOf K (x.1.1, ())).bind fun y1 =>
    some y1
noncomputable def rv_i_Func_rows : Lv := [(2, (.v (.int .i64)))]
theorem ok_i_Func_rows (K : Nat) : FnOk Try.prog 137 (sp_i_Func_rows (i_Func_rows K)) :=
  fn_okD tysOk [C_i_rowsOf K] 0 [] [] rv_i_Func_rows K Try.func137 (by kernel_rfl) trivial (fun _ => by kernel_rfl)
noncomputable def C_i_Func_rows (K : Nat) : CB Try.prog := .f _ _ (ok_i_Func_rows K)
noncomputable def as_i_Func_isIdempotent : Ty := (.pair tq0 .unit)
noncomputable def sp_i_Func_isIdempotent (F : (dq0 × Unit) → Option Bool) : FnSpec := ⟨as_i_Func_isIdempotent, [false], .bool, F⟩
noncomputable def i_Func_isIdempotent (K : Nat) (x : (dq0 × Unit)) : Option Bool :=
    (if (decide (x.1.1 > (0 : Int))) = true then
    (i_Func_at K (x.1, (0 : Int), ())).bind fun y1 =>
    (if (decide (y1 = (0 : Int))) = true then
    (i_Func_rows K (x.1, ())).bind fun y2 =>
    (i_Func_at K (x.1, (IntKind.i64.wrap (y2 - (1 : Int))), ())).bind fun y3 =>
    some (decide (y3 = (1 : Int)))
    else
    some false)
    else
    some false)
noncomputable def rv_i_Func_isIdempotent : Lv := [(2, (.v .bool))]
theorem ok_i_Func_isIdempotent (K : Nat) : FnOk Try.prog 94 (sp_i_Func_isIdempotent (i_Func_isIdempotent K)) :=
  fn_okD tysOk [C_i_Func_at K, C_i_Func_rows K] 0 [] [] rv_i_Func_isIdempotent K Try.func94 (by kernel_rfl) trivial (fun _ => by kernel_rfl)
noncomputable def C_i_Func_isIdempotent (K : Nat) : CB Try.prog := .f _ _ (ok_i_Func_isIdempotent K)
noncomputable def as_math_bits_OnesCount64 : Ty := (.pair (.int .u64) .unit)
noncomputable def sp_math_bits_OnesCount64 (F : (Int × Unit) → Option Int) : FnSpec := ⟨as_math_bits_OnesCount64, [false], (.int .i64), F⟩
noncomputable def math_bits_OnesCount64 (K : Nat) (x : (Int × Unit)) : Option Int :=
    let x1 := (bitI .and .u64 (shrI .u64 x.1 (1 : Int)) (6148914691236517205 : Int))
    let x2 := (IntKind.u64.wrap (x1 + (bitI .and .u64 x.1 (6148914691236517205 : Int))))
    let x3 := (bitI .and .u64 (shrI .u64 x2 (2 : Int)) (3689348814741910323 : Int))
    let x4 := (IntKind.u64.wrap (x3 + (bitI .and .u64 x2 (3689348814741910323 : Int))))
    let x5 := (bitI .and .u64 (IntKind.u64.wrap ((shrI .u64 x4 (4 : Int)) + x4)) (1085102592571150095 : Int))
    let x6 := (shrI .u64 (IntKind.u64.wrap (x5 + (shrI .u64 x5 (8 : Int)))) (16 : Int))
    let x7 := (IntKind.u64.wrap ((IntKind.u64.wrap (x5 + (shrI .u64 x5 (8 : Int)))) + x6))
    let x8 := (IntKind.i64.wrap (IntKind.u64.wrap (x7 + (shrI .u64 x7 (32 : Int)))))
    some (bitI .and .i64 x8 (127 : Int))
noncomputable def rv_math_bits_OnesCount64 : Lv := [(2, (.v (.int .i64)))]
theorem ok_math_bits_OnesCount64 (K : Nat) : FnOk Try.prog 155 (sp_math_bits_OnesCount64 (math_bits_OnesCount64 K)) :=
  fn_okD tysOk [] 0 [] [] rv_math_bits_OnesCount64 K Try.func155 (by kernel_rfl) trivial (fun _ => by kernel_rfl)
noncomputable def C_math_bits_OnesCount64 (K : Nat) : CB Try.prog := .f _ _ (ok_math_bits_OnesCount64 K)
noncomputable def as_i_ones : Ty := (.pair (.int .i64) .unit)
noncomputable def sp_i_ones (F : (Int × Unit) → Option Int) : FnSpec := ⟨as_i_ones, [false], (.int .i64), F⟩
noncomputable def i_ones (K : Nat) (x : (Int × Unit)) : Option Int :=
    (math_bits_OnesCount64 K ((IntKind.u64.wrap x.1), ())).bind fun y1 =>
    some y1
noncomputable def rv_i_ones : Lv := [(2, (.v (.int .i64)))]
theorem ok_i_ones (K : Nat) : FnOk Try.prog 149 (sp_i_ones (i_ones K)) :=
  fn_okD tysOk [C_math_bits_OnesCount64 K] 0 [] [] rv_i_ones K Try.func149 (by kernel_rfl) trivial (fun _ => by kernel_rfl)
noncomputable def C_i_ones (K : Nat) : CB Try.prog := .f _ _ (ok_i_ones K)
noncomputable def as_i_Func_levels : Ty := (.pair tq0 .unit)
noncomputable def sp_i_Func_levels (F : (dq0 × Unit) → Option ((List Int) × Bool × Unit)) : FnSpec := ⟨as_i_Func_levels, [false], (.tup (.pair (.sl (.int .i64)) (.pair .bool .unit))), F⟩
noncomputable def i_Func_levels_j8 {R : Type} (K : Nat) (k : Nat) (v1 : dq0) (v4 : (List Int)) (v5 : Int) (v6 : Int) (v13 : Int) (v14 : Int) (kn : dq0 → (List Int) → Int → Int → Option R)  : Option R :=
    (i_Func_at K (v1, v5, ())).bind fun y6 =>
    (if (bnds v6 (v4.length : Int)) = true then
    let l7 := (v4.set v6.toNat y6)
    kn v1 l7 v13 v14
    else
    none)
noncomputable def i_Func_levels_l3 {R : Type} (K : Nat) : Nat → dq0 → (List Int) → Int → Int → ((List Int) → Option R) → ((List Int) → Bool → Option R) → Option R
  | 0, _, _, _, _, _, _ => none
  | k + 1, v1, v4, v13, v14, kx0, kr =>
    (if (decide (v14 < v13)) = true then
    (i_ones K (v14, ())).bind fun y4 =>
    (if (bnds y4 (v4.length : Int)) = true then
    (if (decide ((v4.getD y4.toNat (0 : Int)) ≥ (0 : Int))) = true then
    (if (bnds y4 (v4.length : Int)) = true then
    (i_Func_at K (v1, v14, ())).bind fun y5 =>
    (if (!decide ((v4.getD y4.toNat (0 : Int)) = y5)) = true then
    kr ([] : List Int) false
    else
    i_Func_levels_j8 K k v1 v4 v14 y4 v13 v14 (fun z8 z9 z10 z11 =>
    i_Func_levels_l3 K k z8 z9 z10 (IntKind.i64.wrap (z11 + (1 : Int))) kx0 kr))
    else
    none)
    else
    i_Func_levels_j8 K k v1 v4 v14 y4 v13 v14 (fun z12 z13 z14 z15 =>
    i_Func_levels_l3 K k z12 z13 z14 (IntKind.i64.wrap (z15 + (1 : Int))) kx0 kr))
    else
    none)
    else
    kx0 v4)
noncomputable def i_Func_levels (K : Nat) (x : (dq0 × Unit)) : Option ((List Int) × Bool × Unit) :=
    let l1 := [(-1 : Int)]
    (slices_Repeat_int64 K (l1, (IntKind.i64.wrap (x.1.1 + (1 : Int))), ())).bind fun y2 =>
    (i_Func_rows K (x.1, ())).bind fun y3 =>
    i_Func_levels_l3 K K x.1 y2 y3 (0 : Int) (fun z16 =>
    some (z16, true, ())) (fun z17 z18 =>
    some (z17, z18, ()))
noncomputable def X0_i_Func_levels : Lv := [(4, (.r (.int .i64)))]
noncomputable def rv_i_Func_levels : Lv := [(2, (.r (.int .i64))), (3, (.v .bool))]
noncomputable def D_i_Func_levels (K : Nat) : List (PD (den (.tup (.pair (.sl (.int .i64)) (.pair .bool .unit))))) := [.L 3 [(1, (.bx (.v tq0))), (4, (.r (.int .i64))), (13, (.v (.int .i64))), (14, (.v (.int .i64)))] [] (fun k x kx kr => i_Func_levels_l3 K k x.1 x.2.1 x.2.2.1 x.2.2.2.1 (fun z0 => kx 0 (mkSt X0_i_Func_levels (z0, ()))) (fun z0 z1 => kr (mkSt rv_i_Func_levels (z0, z1, ())))),
  .J 8 [(1, (.bx (.v tq0))), (4, (.r (.int .i64))), (5, (.v (.int .i64))), (6, (.v (.int .i64))), (13, (.v (.int .i64))), (14, (.v (.int .i64)))] [(1, (.bx (.v tq0))), (4, (.r (.int .i64))), (13, (.v (.int .i64))), (14, (.v (.int .i64)))] 0 (fun k x kn kx kr => i_Func_levels_j8 K k x.1 x.2.1 x.2.2.1 x.2.2.2.1 x.2.2.2.2.1 x.2.2.2.2.2.1 (fun z0 z1 z2 z3 => kn (z0, z1, z2, z3, ())))]
theorem ok_i_Func_levels (K : Nat) : FnOk Try.prog 138 (sp_i_Func_levels (i_Func_levels K)) :=
  fn_okD tysOk [C_slices_Repeat_int64 K, C_i_Func_at K, C_i_Func_rows K, C_i_ones K] 0 (D_i_Func_levels K) [(0, X0_i_Func_levels)] rv_i_Func_levels K Try.func138 (by kernel_rfl) ⟨⟨fun _ _ _ _ => by kernel_rfl, fun _ _ _ => rfl⟩, ⟨fun _ _ _ _ _ => by kernel_rfl, trivial⟩⟩ (fun _ => by kernel_rfl)
noncomputable def C_i_Func_levels (K : Nat) : CB Try.prog := .f _ _ (ok_i_Func_levels K)
noncomputable def as_i_Func_isSymmetric : Ty := (.pair tq0 .unit)
noncomputable def sp_i_Func_isSymmetric (F : (dq0 × Unit) → Option Bool) : FnSpec := ⟨as_i_Func_isSymmetric, [false], .bool, F⟩
noncomputable def i_Func_isSymmetric (K : Nat) (x : (dq0 × Unit)) : Option Bool :=
    (i_Func_levels K (x.1, ())).bind fun y1 =>
    some y1.2.1
noncomputable def rv_i_Func_isSymmetric : Lv := [(2, (.v .bool))]
theorem ok_i_Func_isSymmetric (K : Nat) : FnOk Try.prog 95 (sp_i_Func_isSymmetric (i_Func_isSymmetric K)) :=
  fn_okD tysOk [C_i_Func_levels K] 0 [] [] rv_i_Func_isSymmetric K Try.func95 (by kernel_rfl) trivial (fun _ => by kernel_rfl)
noncomputable def C_i_Func_isSymmetric (K : Nat) : CB Try.prog := .f _ _ (ok_i_Func_isSymmetric K)
noncomputable def as_i_Func_isOfKind : Ty := (.pair tq0 (.pair (.int .i64) .unit))
noncomputable def sp_i_Func_isOfKind (F : (dq0 × Int × Unit) → Option Bool) : FnSpec := ⟨as_i_Func_isOfKind, [false, false], .bool, F⟩
noncomputable def i_Func_isOfKind (K : Nat) (x : (dq0 × Int × Unit)) : Option Bool :=
    (if (!decide (x.1.1 = (3 : Int))) = true then
    some false
    else
    (if (decide (x.2.1 = (0 : Int))) = true then
    (i_forTwo K ((fun y2 => i_Func_isOfKind_c1 K (y2.1, y2.2.1, x.1, ())), ())).bind fun y1 =>
    some y1
    else
    (if (decide (x.2.1 = (1 : Int))) = true then
    (i_forTwo K ((fun y4 => i_Func_isOfKind_c2 K (y4.1, y4.2.1, x.1, ())), ())).bind fun y3 =>
    some y3
    else
    (if (decide (x.2.1 = (2 : Int))) = true then
    (i_forTwo K ((fun y6 => i_Func_isOfKind_c3 K (y6.1, y6.2.1, x.1, ())), ())).bind fun y5 =>
    some y5
    else
    (i_Func_isIdempotent K (x.1, ())).bind fun y7 =>
    (if y7 = true then
    (i_Func_isSymmetric K (x.1, ())).bind fun y8 =>
    some y8
    else
    some false)))))
noncomputable def rv_i_Func_isOfKind : Lv := [(4, (.v .bool))]
theorem ok_i_Func_isOfKind (K : Nat) : FnOk Try.prog 46 (sp_i_Func_isOfKind (i_Func_isOfKind K)) :=
  fn_okD tysOk [C_i_forTwo K, C_i_Func_isOfKind_c1 K, C_i_Func_isOfKind_c2 K, C_i_Func_isOfKind_c3 K, C_i_Func_isIdempotent K, C_i_Func_isSymmetric K] 0 [] [] rv_i_Func_isOfKind K Try.func46 (by kernel_rfl) trivial (fun _ => by kernel_rfl)
noncomputable def C_i_Func_isOfKind (K : Nat) : CB Try.prog := .f _ _ (ok_i_Func_isOfKind K)
noncomputable def as_i_FindOfKind_c1 : Ty := (.pair tq0 (.pair (.ptr (.int .i64)) .unit))
noncomputable def sp_i_FindOfKind_c1 (F : (dq0 × Int × Unit) → Option Bool) : FnSpec := ⟨as_i_FindOfKind_c1, [false, false], .bool, F⟩
noncomputable def i_FindOfKind_c1 (K : Nat) (x : (dq0 × Int × Unit)) : Option Bool :=
    (i_Func_isOfKind K (x.1, x.2.1, ())).bind fun y1 =>
    some y1
noncomputable def rv_i_FindOfKind_c1 : Lv := [(3, (.v .bool))]
theorem ok_i_FindOfKind_c1 (K : Nat) : FnOk Try.prog 45 (sp_i_FindOfKind_c1 (i_FindOfKind_c1 K)) :=
  fn_okD tysOk [C_i_Func_isOfKind K] 0 [] [] rv_i_FindOfKind_c1 K Try.func45 (by kernel_rfl) trivial (fun _ => by kernel_rfl)
noncomputable def C_i_FindOfKind_c1 (K : Nat) : CB Try.prog := .f _ _ (ok_i_FindOfKind_c1 K)
noncomputable def as_i_FindOfKind : Ty := (.pair (.sl tq0) (.pair (.int .i64) .unit))
noncomputable def sp_i_FindOfKind (F : ((List dq0) × Int × Unit) → Option (dq0 × Int × Unit)) : FnSpec := ⟨as_i_FindOfKind, [false, false], (.tup (.pair tq0 (.pair (.int .i64) .unit))), F⟩
noncomputable def i_FindOfKind (K : Nat) (x : ((List dq0) × Int × Unit)) : Option (dq0 × Int × Unit) :=
    (i_areFuncs K (x.1, ())).bind fun y1 =>
    (if (!y1) = true then
    some (((0 : Int), (0 : Int), ()), (1 : Int), ())
    else
    (i_isKind K (x.2.1, ())).bind fun y2 =>
    (if (!y2) = true then
    some (((0 : Int), (0 : Int), ()), (2 : Int), ())
    else
    (i_GeneratedBy K (x.1, (3 : Int), ())).bind fun y3 =>
    (if (!decide (y3.2.1 = (0 : Int))) = true then
    some (((0 : Int), (0 : Int), ()), y3.2.1, ())
    else
    (slices_IndexFunc_impl_Func K (y3.1, (fun y5 => i_FindOfKind_c1 K (y5.1, x.2.1, ())), ())).bind fun y4 =>
    (if (decide (y4 < (0 : Int))) = true then
    some (((0 : Int), (0 : Int), ()), (4 : Int), ())
    else
    (if (bnds y4 (y3.1.length : Int)) = true then
    some ((y3.1.getD y4.toNat ((0 : Int), (0 : Int), ())), (0 : Int), ())
    else
    none)))))
noncomputable def rv_i_FindOfKind : Lv := [(4, (.bx (.v tq0))), (5, (.v (.int .i64)))]
theorem ok_i_FindOfKind (K : Nat) : FnOk Try.prog 12 (sp_i_FindOfKind (i_FindOfKind K)) :=
  fn_okD tysOk [C_i_areFuncs K, C_i_isKind K, C_i_GeneratedBy K, C_slices_IndexFunc_impl_Func K, C_i_FindOfKind_c1 K] 0 [] [] rv_i_FindOfKind K Try.func12 (by kernel_rfl) trivial (fun _ => by kernel_rfl)
noncomputable def C_i_FindOfKind (K : Nat) : CB Try.prog := .f _ _ (ok_i_FindOfKind K)
noncomputable def as_s_l01In : Ty := (.pair (.int .i64) (.pair (.int .i64) (.pair (.int .i64) .unit)))
noncomputable def sp_s_l01In (F : (Int × Int × Int × Unit) → Option Bool) : FnSpec := ⟨as_s_l01In, [false, false, false], .bool, F⟩
noncomputable def s_l01In (K : Nat) (x : (Int × Int × Int × Unit)) : Option Bool :=
    (if (decide (x.1 ≥ x.2.1)) = true then
    some (decide (x.1 ≤ x.2.2.1))
    else
    some false)
noncomputable def rv_s_l01In : Lv := [(6, (.v .bool))]
theorem ok_s_l01In (K : Nat) : FnOk Try.prog 28 (sp_s_l01In (s_l01In K)) :=
  fn_okD tysOk [] 0 [] [] rv_s_l01In K Try.func28 (by kernel_rfl) trivial (fun _ => by kernel_rfl)
noncomputable def C_s_l01In (K : Nat) : CB Try.prog := .f _ _ (ok_s_l01In K)
noncomputable def as_s_l01Rows : Ty := (.pair (.int .i64) .unit)
noncomputable def sp_s_l01Rows (F : (Int × Unit) → Option Int) : FnSpec := ⟨as_s_l01Rows, [false], (.int .i64), F⟩
noncomputable def s_l01Rows (K : Nat) (x : (Int × Unit)) : Option Int :=
    (if (decide ((0 : Int) ≤ (IntKind.u64.wrap x.1))) = true then
    some (shlI .i64 (1 : Int) (IntKind.u64.wrap x.1))
    else
    none)
noncomputable def rv_s_l01Rows : Lv := [(2, (.v (.int .i64)))]
theorem ok_s_l01Rows (K : Nat) : FnOk Try.prog 96 (sp_s_l01Rows (s_l01Rows K)) :=
  fn_okD tysOk [] 0 [] [] rv_s_l01Rows K Try.func96 (by kernel_rfl) trivial (fun _ => by kernel_rfl)
noncomputable def C_s_l01Rows (K : Nat) : CB Try.prog := .f _ _ (ok_s_l01Rows K)
noncomputable def as_s_l01All : Ty := (.pair (.int .i64) .unit)
noncomputable def sp_s_l01All (F : (Int × Unit) → Option Int) : FnSpec := ⟨as_s_l01All, [false], (.int .i64), F⟩
noncomputable def s_l01All (K : Nat) (x : (Int × Unit)) : Option Int :=
    (s_l01Rows K (x.1, ())).bind fun y1 =>
    (if (decide ((0 : Int) ≤ (IntKind.u64.wrap y1))) = true then
    let x2 := (IntKind.i64.wrap ((shlI .i64 (1 : Int) (IntKind.u64.wrap y1)) - (1 : Int)))
    some x2
    else
    none)
noncomputable def rv_s_l01All : Lv := [(2, (.v (.int .i64)))]
theorem ok_s_l01All (K : Nat) : FnOk Try.prog 79 (sp_s_l01All (s_l01All K)) :=
  fn_okD tysOk [C_s_l01Rows K] 0 [] [] rv_s_l01All K Try.func79 (by kernel_rfl) trivial (fun _ => by kernel_rfl)
noncomputable def C_s_l01All (K : Nat) : CB Try.prog := .f _ _ (ok_s_l01All K)
noncomputable def as_s_l01Is : Ty := (.pair tq0 .unit)
noncomputable def sp_s_l01Is (F : (dq0 × Unit) → Option Bool) : FnSpec := ⟨as_s_l01Is, [false], .bool, F⟩
noncomputable def s_l01Is (K : Nat) (x : (dq0 × Unit)) : Option Bool :=
    (s_l01In K (x.1.1, (0 : Int), (4 : Int), ())).bind fun y1 =>
    (if y1 = true then
    (s_l01All K (x.1.1, ())).bind fun y2 =>
    (s_l01In K (x.1.2.1, (0 : Int), y2, ())).bind fun y3 =>
    some y3
    else
    some false)
noncomputable def rv_s_l01Is : Lv := [(2, (.v .bool))]
theorem ok_s_l01Is (K : Nat) : FnOk Try.prog 56 (sp_s_l01Is (s_l01Is K)) :=
  fn_okD tysOk [C_s_l01In K, C_s_l01All K] 0 [] [] rv_s_l01Is K Try.func56 (by kernel_rfl) trivial (fun _ => by kernel_rfl)
noncomputable def C_s_l01Is (K : Nat) : CB Try.prog := .f _ _ (ok_s_l01Is K)
noncomputable def as_s_l02Code : Ty := (.pair (.sl tq0) .unit)
noncomputable def sp_s_l02Code (F : ((List dq0) × Unit) → Option Int) : FnSpec := ⟨as_s_l02Code, [false], (.int .i64), F⟩
noncomputable def s_l02Code_l2 {R : Type} (K : Nat) : Nat → (List dq0) → Int → ((List dq0) → Option R) → (Int → Option R) → Option R
  | 0, _, _, _, _ => none
  | k + 1, v0, v3, kx0, kr =>
    (if (decide (v3 < (v0.length : Int))) = true then
    (if (bnds v3 (v0.length : Int)) = true then
    (s_l01Is K ((v0.getD v3.toNat ((0 : Int), (0 : Int), ())), ())).bind fun y1 =>
    (if (!y1) = true then
    kr (1 : Int)
    else
    s_l02Code_l2 K k v0 (IntKind.i64.wrap (v3 + (1 : Int))) kx0 kr)
    else
    none)
    else
    kx0 v0)
noncomputable def s_l02Code (K : Nat) (x : ((List dq0) × Unit)) : Option Int :=
    s_l02Code_l2 K K x.1 (0 : Int) (fun z2 =>
    (if (decide ((z2.length : Int) > (8 : Int))) = true then
    some (2 : Int)
    else
    some (0 : Int))) (fun z3 =>
    some z3)
noncomputable def X0_s_l02Code : Lv := [(0, (.v (.sl tq0)))]
noncomputable def rv_s_l02Code : Lv := [(2, (.v (.int .i64)))]
noncomputable def D_s_l02Code (K : Nat) : List (PD (den (.int .i64))) := [.L 2 [(0, (.v (.sl tq0))), (3, (.v (.int .i64)))] [] (fun k x kx kr => s_l02Code_l2 K k x.1 x.2.1 (fun z0 => kx 0 (mkSt X0_s_l02Code (z0, ()))) (fun z0 => kr (mkSt rv_s_l02Code (z0, ()))))]
theorem ok_s_l02Code (K : Nat) : FnOk Try.prog 35 (sp_s_l02Code (s_l02Code K)) :=
  fn_okD tysOk [C_s_l01Is K] 0 (D_s_l02Code K) [(0, X0_s_l02Code)] rv_s_l02Code K Try.func35 (by kernel_rfl) ⟨⟨fun _ _ _ _ => by kernel_rfl, fun _ _ _ => rfl⟩, trivial⟩ (fun _ => by kernel_rfl)
noncomputable def C_s_l02Code (K : Nat) : CB Try.prog := .f _ _ (ok_s_l02Code K)
noncomputable def as_s_l10Code : Ty := (.pair (.int .i64) (.pair (.sl tq0) .unit))
noncomputable def sp_s_l10Code (F : (Int × (List dq0) × Unit) → Option Int) : FnSpec := ⟨as_s_l10Code, [false, false], (.int .i64), F⟩
noncomputable def s_l10Code_l2 {R : Type} (K : Nat) : Nat → Int → (List dq0) → Int → (Int → Option R) → (Int → Option R) → Option R
  | 0, _, _, _, _, _ => none
  | k + 1, v0, v1, v5, kx0, kr =>
    (if (decide (v5 < (v1.length : Int))) = true then
    (if (bnds v5 (v1.length : Int)) = true then
    (s_l01Is K ((v1.getD v5.toNat ((0 : Int), (0 : Int), ())), ())).bind fun y1 =>
    (if (!y1) = true then
    kr (1 : Int)
    else
    s_l10Code_l2 K k v0 v1 (IntKind.i64.wrap (v5 + (1 : Int))) kx0 kr)
    else
    none)
    else
    kx0 v0)
noncomputable def s_l10Code (K : Nat) (x : (Int × (List dq0) × Unit)) : Option Int :=
    s_l10Code_l2 K K x.1 x.2.1 (0 : Int) (fun z2 =>
    (s_l01In K (z2, (0 : Int), (3 : Int), ())).bind fun y3 =>
    (if (!y3) = true then
    some (2 : Int)
    else
    some (0 : Int))) (fun z4 =>
    some z4)
noncomputable def X0_s_l10Code : Lv := [(0, (.v (.int .i64)))]
noncomputable def rv_s_l10Code : Lv := [(4, (.v (.int .i64)))]
noncomputable def D_s_l10Code (K : Nat) : List (PD (den (.int .i64))) := [.L 2 [(0, (.v (.int .i64))), (1, (.v (.sl tq0))), (5, (.v (.int .i64)))] [] (fun k x kx kr => s_l10Code_l2 K k x.1 x.2.1 x.2.2.1 (fun z0 => kx 0 (mkSt X0_s_l10Code (z0, ()))) (fun z0 => kr (mkSt rv_s_l10Code (z0, ()))))]
theorem ok_s_l10Code (K : Nat) : FnOk Try.prog 36 (sp_s_l10Code (s_l10Code K)) :=
  fn_okD tysOk [C_s_l01In K, C_s_l01Is K] 0 (D_s_l10Code K) [(0, X0_s_l10Code)] rv_s_l10Code K Try.func36 (by kernel_rfl) ⟨⟨fun _ _ _ _ => by kernel_rfl, fun _ _ _ => rfl⟩, trivial⟩ (fun _ => by kernel_rfl)
noncomputable def C_s_l10Code (K : Nat) : CB Try.prog := .f _ _ (ok_s_l10Code K)
noncomputable def as_s_l04Code : Ty := (.pair (.sl tq0) (.pair (.int .i64) .unit))
noncomputable def sp_s_l04Code (F : ((List dq0) × Int × Unit) → Option Int) : FnSpec := ⟨as_s_l04Code, [false, false], (.int .i64), F⟩
noncomputable def s_l04Code_l7 {R : Type} (K : Nat) : Nat → (List dq0) → Int → Int → (Option R) → (Int → Option R) → Option R
  | 0, _, _, _, _, _ => none
  | k + 1, v0, v1, v6, kx0, kr =>
    (if (decide (v6 < (v0.length : Int))) = true then
    (if (decide (v1 = (3 : Int))) = true then
    (if (bnds v6 (v0.length : Int)) = true then
    let x3 := (decide ((v0.getD v6.toNat ((0 : Int), (0 : Int), ())).1 > (2 : Int)))
    (if x3 = true then
    kr (2 : Int)
    else
    s_l04Code_l7 K k v0 v1 (IntKind.i64.wrap (v6 + (1 : Int))) kx0 kr)
    else
    none)
    else
    s_l04Code_l7 K k v0 v1 (IntKind.i64.wrap (v6 + (1 : Int))) kx0 kr)
    else
    kx0)
noncomputable def s_l04Code (K : Nat) (x : ((List dq0) × Int × Unit)) : Option Int :=
    (s_l02Code K (x.1, ())).bind fun y1 =>
    (if (!decide (y1 = (0 : Int))) = true then
    some y1
    else
    (s_l01In K (x.2.1, (2 : Int), (3 : Int), ())).bind fun y2 =>
    (if (!y2) = true then
    some (2 : Int)
    else
    s_l04Code_l7 K K x.1 x.2.1 (0 : Int) (some (0 : Int)) (fun z4 =>
    some z4)))
noncomputable def X0_s_l04Code : Lv := []
noncomputable def rv_s_l04Code : Lv := [(4, (.v (.int .i64)))]
noncomputable def D_s_l04Code (K : Nat) : List (PD (den (.int .i64))) := [.L 7 [(0, (.v (.sl tq0))), (1, (.v (.int .i64))), (6, (.v (.int .i64)))] [] (fun k x kx kr => s_l04Code_l7 K k x.1 x.2.1 x.2.2.1 (kx 0 (mkSt X0_s_l04Code ())) (fun z0 => kr (mkSt rv_s_l04Code (z0, ()))))]
theorem ok_s_l04Code (K : Nat) : FnOk Try.prog 37 (sp_s_l04Code (s_l04Code K)) :=
  fn_okD tysOk [C_s_l01In K, C_s_l02Code K] 0 (D_s_l04Code K) [(0, X0_s_l04Code)] rv_s_l04Code K Try.func37 (by kernel_rfl) ⟨⟨fun _ _ _ _ => by kernel_rfl, fun _ _ _ => rfl⟩, trivial⟩ (fun _ => by kernel_rfl)
noncomputable def C_s_l04Code (K : Nat) : CB Try.prog := .f _ _ (ok_s_l04Code K)
noncomputable def as_s_l01Of : Ty := (.pair (.int .i64) (.pair (.sl (.int .i64)) .unit))
noncomputable def sp_s_l01Of (F : (Int × (List Int) × Unit) → Option dq0) : FnSpec := ⟨as_s_l01Of, [false, false], tq0, F⟩
noncomputable def s_l01Of_l3 {R : Type} (K : Nat) : Nat → Int → (List Int) → dq0 → dq0 → Int → (dq0 → dq0 → Option R) → Option R
  | 0, _, _, _, _, _, _ => none
  | k + 1, v0, v1, v4, v5, v6, kx0 =>
    (s_l01Rows K (v0, ())).bind fun y1 =>
    (if (decide (v6 < y1)) = true then
    (if (bnds v6 (v1.length : Int)) = true then
    (if (decide ((0 : Int) ≤ (IntKind.u64.wrap v6))) = true then
    let x2 := (shlI .i64 (v1.getD v6.toNat (0 : Int)) (IntKind.u64.wrap v6))
    s_l01Of_l3 K k v0 v1 v4 (v5.1, (IntKind.i64.wrap (v5.2.1 + x2)), ()) (IntKind.i64.wrap (v6 + (1 : Int))) kx0
    else
    none)
    else
    none)
    else
    kx0 v4 v5)
noncomputable def s_l01Of (K : Nat) (x : (Int × (List Int) × Unit)) : Option dq0 :=
    s_l01Of_l3 K K x.1 x.2.1 ((0 : Int), (0 : Int), ()) (x.1, ((0 : Int), (0 : Int), ()).2.1, ()) (0 : Int) (fun z3 z4 =>
    some z4)
noncomputable def X0_s_l01Of : Lv := [(4, (.bx (.v tq0))), (5, (.bx (.v tq0)))]
noncomputable def rv_s_l01Of : Lv := [(4, (.bx (.v tq0)))]
noncomputable def D_s_l01Of (K : Nat) : List (PD (den tq0)) := [.L 3 [(0, (.v (.int .i64))), (1, (.v (.sl (.int .i64)))), (4, (.bx (.v tq0))), (5, (.bx (.v tq0))), (6, (.v (.int .i64)))] [] (fun k x kx kr => s_l01Of_l3 K k x.1 x.2.1 x.2.2.1 x.2.2.2.1 x.2.2.2.2.1 (fun z0 z1 => kx 0 (mkSt X0_s_l01Of (z0, z1, ()))))]
theorem ok_s_l01Of (K : Nat) : FnOk Try.prog 98 (sp_s_l01Of (s_l01Of K)) :=
  fn_okD tysOk [C_s_l01Rows K] 0 (D_s_l01Of K) [(0, X0_s_l01Of)] rv_s_l01Of K Try.func98 (by kernel_rfl) ⟨⟨fun _ _ _ _ => by kernel_rfl, fun _ _ _ => rfl⟩, trivial⟩ (fun _ => by kernel_rfl)
noncomputable def C_s_l01Of (K : Nat) : CB Try.prog := .f _ _ (ok_s_l01Of K)
noncomputable def as_s_l01Projection : Ty := (.pair (.int .i64) (.pair (.int .i64) .unit))
noncomputable def sp_s_l01Projection (F : (Int × Int × Unit) → Option dq0) : FnSpec := ⟨as_s_l01Projection, [false, false], tq0, F⟩
noncomputable def s_l01Projection_l3 {R : Type} (K : Nat) : Nat → Int → Int → dq0 → (List Int) → Int → (Int → dq0 → (List Int) → Option R) → Option R
  | 0, _, _, _, _, _, _ => none
  | k + 1, v0, v1, v4, v5, v6, kx0 =>
    (s_l01Rows K (v0, ())).bind fun y2 =>
    (if (decide (v6 < y2)) = true then
    (if (decide ((0 : Int) ≤ (IntKind.u64.wrap v1))) = true then
    let x3 := (bitI .and .i64 (shrI .i64 v6 (IntKind.u64.wrap v1)) (1 : Int))
    (if (decide (v5.length + ([x3]).length ≤ lim)) = true then
    let l4 := (v5 ++ [x3])
    s_l01Projection_l3 K k v0 v1 v4 l4 (IntKind.i64.wrap (v6 + (1 : Int))) kx0
    else
    none)
    else
    none)
    else
    kx0 v0 v4 v5)
noncomputable def s_l01Projection (K : Nat) (x : (Int × Int × Unit)) : Option dq0 :=
    let l1 := ([] : List Int)
    s_l01Projection_l3 K K x.1 x.2.1 ((0 : Int), (0 : Int), ()) l1 (0 : Int) (fun z5 z6 z7 =>
    (s_l01Of K (z5, z7, ())).bind fun y8 =>
    some y8)
noncomputable def X0_s_l01Projection : Lv := [(0, (.v (.int .i64))), (4, (.bx (.v tq0))), (5, (.r (.int .i64)))]
noncomputable def rv_s_l01Projection : Lv := [(4, (.bx (.v tq0)))]
noncomputable def D_s_l01Projection (K : Nat) : List (PD (den tq0)) := [.L 3 [(0, (.v (.int .i64))), (1, (.v (.int .i64))), (4, (.bx (.v tq0))), (5, (.r (.int .i64))), (6, (.v (.int .i64)))] [] (fun k x kx kr => s_l01Projection_l3 K k x.1 x.2.1 x.2.2.1 x.2.2.2.1 x.2.2.2.2.1 (fun z0 z1 z2 => kx 0 (mkSt X0_s_l01Projection (z0, z1, z2, ()))))]
theorem ok_s_l01Projection (K : Nat) : FnOk Try.prog 67 (sp_s_l01Projection (s_l01Projection K)) :=
  fn_okD tysOk [C_s_l01Rows K, C_s_l01Of K] 0 (D_s_l01Projection K) [(0, X0_s_l01Projection)] rv_s_l01Projection K Try.func67 (by kernel_rfl) ⟨⟨fun _ _ _ _ => by kernel_rfl, fun _ _ _ => rfl⟩, trivial⟩ (fun _ => by kernel_rfl)
noncomputable def C_s_l01Projection (K : Nat) : CB Try.prog := .f _ _ (ok_s_l01Projection K)
noncomputable def as_s_l01At : Ty := (.pair tq0 (.pair (.int .i64) .unit))
noncomputable def sp_s_l01At (F : (dq0 × Int × Unit) → Option Int) : FnSpec := ⟨as_s_l01At, [false, false], (.int .i64), F⟩
noncomputable def s_l01At (K : Nat) (x : (dq0 × Int × Unit)) : Option Int :=
    (if (decide ((0 : Int) ≤ (IntKind.u64.wrap x.2.1))) = true then
    let x1 := (bitI .and .i64 (shrI .i64 x.1.2.1 (IntKind.u64.wrap x.2.1)) (1 : Int))
    some x1
    else
    none)
noncomputable def rv_s_l01At : Lv := [(4, (.v (.int .i64)))]
theorem ok_s_l01At (K : Nat) : FnOk Try.prog 83 (sp_s_l01At (s_l01At K)) :=
  fn_okD tysOk [] 0 [] [] rv_s_l01At K Try.func83 (by kernel_rfl) trivial (fun _ => by kernel_rfl)
noncomputable def C_s_l01At (K : Nat) : CB Try.prog := .f _ _ (ok_s_l01At K)
noncomputable def as_s_l04Put : Ty := (.pair tq0 (.pair (.sl (.int .i64)) (.pair (.int .i64) .unit)))
noncomputable def sp_s_l04Put (F : (dq0 × (List Int) × Int × Unit) → Option Int) : FnSpec := ⟨as_s_l04Put, [false, false, false], (.int .i64), F⟩
noncomputable def s_l04Put_l7 {R : Type} (K : Nat) : Nat → (List Int) → Int → dq0 → Int → Int → Int → Int → ((List Int) → Int → dq0 → Int → Int → Int → Option R) → Option R
  | 0, _, _, _, _, _, _, _, _ => none
  | k + 1, v1, v2, v3, v7, v8, v9, v10, kx2 =>
    (if (decide (v10 < (v1.length : Int))) = true then
    (if (bnds v10 (v1.length : Int)) = true then
    (if (decide ((0 : Int) ≤ (IntKind.u64.wrap v8))) = true then
    let x2 := (shrI .i64 (v1.getD v10.toNat (0 : Int)) (IntKind.u64.wrap v8))
    (if (decide ((0 : Int) ≤ (IntKind.u64.wrap v10))) = true then
    let x3 := (shlI .i64 (bitI .and .i64 x2 (1 : Int)) (IntKind.u64.wrap v10))
    s_l04Put_l7 K k v1 v2 v3 v7 v8 (bitI .or .i64 v9 x3) (IntKind.i64.wrap (v10 + (1 : Int))) kx2
    else
    none)
    else
    none)
    else
    none)
    else
    kx2 v1 v2 v3 v7 v8 v9)
noncomputable def s_l04Put_l3 {R : Type} (K : Nat) : Nat → (List Int) → Int → dq0 → Int → Int → (Int → Option R) → Option R
  | 0, _, _, _, _, _, _ => none
  | k + 1, v1, v2, v3, v7, v8, kx0 =>
    (s_l01Rows K (v2, ())).bind fun y1 =>
    (if (decide (v8 < y1)) = true then
    s_l04Put_l7 K k v1 v2 v3 v7 v8 (0 : Int) (0 : Int) (fun z4 z5 z6 z7 z8 z9 =>
    (s_l01At K (z6, z9, ())).bind fun y10 =>
    (if (decide ((0 : Int) ≤ (IntKind.u64.wrap z8))) = true then
    s_l04Put_l3 K k z4 z5 z6 (bitI .or .i64 z7 (shlI .i64 y10 (IntKind.u64.wrap z8))) (IntKind.i64.wrap (z8 + (1 : Int))) kx0
    else
    none))
    else
    kx0 v7)
noncomputable def s_l04Put (K : Nat) (x : (dq0 × (List Int) × Int × Unit)) : Option Int :=
    s_l04Put_l3 K K x.2.1 x.2.2.1 x.1 (0 : Int) (0 : Int) (fun z11 =>
    some z11)
noncomputable def X0_s_l04Put : Lv := [(7, (.v (.int .i64)))]
noncomputable def X2_s_l04Put : Lv := [(1, (.v (.sl (.int .i64)))), (2, (.v (.int .i64))), (3, (.bx (.v tq0))), (7, (.v (.int .i64))), (8, (.v (.int .i64))), (9, (.v (.int .i64)))]
noncomputable def rv_s_l04Put : Lv := [(6, (.v (.int .i64)))]
noncomputable def D_s_l04Put (K : Nat) : List (PD (den (.int .i64))) := [.L 3 [(1, (.v (.sl (.int .i64)))), (2, (.v (.int .i64))), (3, (.bx (.v tq0))), (7, (.v (.int .i64))), (8, (.v (.int .i64)))] [] (fun k x kx kr => s_l04Put_l3 K k x.1 x.2.1 x.2.2.1 x.2.2.2.1 x.2.2.2.2.1 (fun z0 => kx 0 (mkSt X0_s_l04Put (z0, ())))),
  .L 7 [(1, (.v (.sl (.int .i64)))), (2, (.v (.int .i64))), (3, (.bx (.v tq0))), (7, (.v (.int .i64))), (8, (.v (.int .i64))), (9, (.v (.int .i64))), (10, (.v (.int .i64)))] [] (fun k x kx kr => s_l04Put_l7 K k x.1 x.2.1 x.2.2.1 x.2.2.2.1 x.2.2.2.2.1 x.2.2.2.2.2.1 x.2.2.2.2.2.2.1 (fun z0 z1 z2 z3 z4 z5 => kx 2 (mkSt X2_s_l04Put (z0, z1, z2, z3, z4, z5, ()))))]
theorem ok_s_l04Put (K : Nat) : FnOk Try.prog 125 (sp_s_l04Put (s_l04Put K)) :=
  fn_okD tysOk [C_s_l01At K, C_s_l01Rows K] 0 (D_s_l04Put K) [(0, X0_s_l04Put), (2, X2_s_l04Put)] rv_s_l04Put K Try.func125 (by kernel_rfl) ⟨⟨fun _ _ _ _ => by kernel_rfl, fun _ _ _ => rfl⟩, ⟨⟨fun _ _ _ _ => by kernel_rfl, fun _ _ _ => rfl⟩, trivial⟩⟩ (fun _ => by kernel_rfl)
noncomputable def C_s_l04Put (K : Nat) : CB Try.prog := .f _ _ (ok_s_l04Put K)
noncomputable def as_s_l01Own : Ty := (.pair (.sl (.int .i64)) .unit)
noncomputable def sp_s_l01Own (F : ((List Int) × Unit) → Option (List Int)) : FnSpec := ⟨as_s_l01Own, [false], (.sl (.int .i64)), F⟩
noncomputable def s_l01Own (K : Nat) (x : ((List Int) × Unit)) : Option (List Int) :=
    let l1 := ([] : List Int)
    (if (decide (l1.length + x.1.length ≤ lim)) = true then
    let l2 := (l1 ++ x.1)
    some l2
    else
    none)
noncomputable def rv_s_l01Own : Lv := [(2, (.r (.int .i64)))]
theorem ok_s_l01Own (K : Nat) : FnOk Try.prog 126 (sp_s_l01Own (s_l01Own K)) :=
  fn_okD tysOk [] 0 [] [] rv_s_l01Own K Try.func126 (by kernel_rfl) trivial (fun _ => by kernel_rfl)
noncomputable def C_s_l01Own (K : Nat) : CB Try.prog := .f _ _ (ok_s_l01Own K)
noncomputable def s_l04Round_l9 {R : Type} (K : Nat) (r : (dq0 × (List Int) × (List Int) × (List Int) × Int × Int × Unit) → Option (Bool × ((List Int) × (List Int) × (List Int) × Unit))) : Nat → (List Int) → (List Int) → (List Int) → Int → Int → dq0 → Bool → Int → ((List Int) → (List Int) → (List Int) → Bool → Option R) → Option R
  | 0, _, _, _, _, _, _, _, _, _ => none
  | k + 1, v1, v2, v3, v4, v5, v6, v14, v15, kx0 =>
    (if (decide (v15 < (v2.length : Int))) = true then
    (s_l01Own K (v3, ())).bind fun y3 =>
    (if (bnds v15 (v2.length : Int)) = true then
    let l4 := [(v2.getD v15.toNat (0 : Int))]
    (if (decide (y3.length + l4.length ≤ lim)) = true then
    let l5 := (y3 ++ l4)
    (r (v6, v1, v2, l5, v4, v5, ())).bind fun y6 =>
    (if y6.1 = true then
    s_l04Round_l9 K r k y6.2.1 y6.2.2.1 v3 v4 v5 v6 true (IntKind.i64.wrap (v15 + (1 : Int))) kx0
    else
    s_l04Round_l9 K r k y6.2.1 y6.2.2.1 v3 v4 v5 v6 v14 (IntKind.i64.wrap (v15 + (1 : Int))) kx0)
    else
    none)
    else
    none)
    else
    kx0 v1 v2 v3 v14)
noncomputable def s_l04Round_b (K : Nat) (r : (dq0 × (List Int) × (List Int) × (List Int) × Int × Int × Unit) → Option (Bool × ((List Int) × (List Int) × (List Int) × Unit))) (x : (dq0 × (List Int) × (List Int) × (List Int) × Int × Int × Unit)) : Option (Bool × ((List Int) × (List Int) × (List Int) × Unit)) :=
    (if (decide ((x.2.2.2.1.length : Int) = x.1.1)) = true then
    (s_l04Put K (x.1, x.2.2.2.1, x.2.2.2.2.1, ())).bind fun y1 =>
    (if (bnds y1 (x.2.1.length : Int)) = true then
    (if (decide ((x.2.1.getD y1.toNat (0 : Int)) ≥ (0 : Int))) = true then
    some (false, (x.2.1, x.2.2.1, x.2.2.2.1, ()))
    else
    (if (bnds y1 (x.2.1.length : Int)) = true then
    let l2 := (x.2.1.set y1.toNat x.2.2.2.2.2.1)
    some (true, (l2, x.2.2.1, x.2.2.2.1, ()))
    else
    none))
    else
    none)
    else
    s_l04Round_l9 K r K x.2.1 x.2.2.1 x.2.2.2.1 x.2.2.2.2.1 x.2.2.2.2.2.1 x.1 false (0 : Int) (fun z7 z8 z9 z10 =>
    some (z10, (z7, z8, z9, ()))))
noncomputable def s_l04Round (K : Nat) : Nat → (dq0 × (List Int) × (List Int) × (List Int) × Int × Int × Unit) → Option (Bool × ((List Int) × (List Int) × (List Int) × Unit))
  | 0 => fun _ => none
  | k + 1 => s_l04Round_b K (s_l04Round K k)
noncomputable def X0_s_l04Round : Lv := [(1, (.r (.int .i64))), (2, (.r (.int .i64))), (3, (.r (.int .i64))), (14, (.v .bool))]
noncomputable def rv_s_l04Round : Lv := [(1, (.r (.int .i64))), (2, (.r (.int .i64))), (3, (.r (.int .i64))), (12, (.v .bool))]
noncomputable def D_s_l04Round (K : Nat) (r : (dq0 × (List Int) × (List Int) × (List Int) × Int × Int × Unit) → Option (Bool × ((List Int) × (List Int) × (List Int) × Unit))) : List (PD (den (.pair .bool (.pair (.sl (.int .i64)) (.pair (.sl (.int .i64)) (.pair (.sl (.int .i64)) .unit)))))) := [.L 9 [(1, (.r (.int .i64))), (2, (.r (.int .i64))), (3, (.r (.int .i64))), (4, (.v (.int .i64))), (5, (.v (.int .i64))), (6, (.bx (.v tq0))), (14, (.v .bool)), (15, (.v (.int .i64)))] [] (fun k x kx kr => s_l04Round_l9 K r k x.1 x.2.1 x.2.2.1 x.2.2.2.1 x.2.2.2.2.1 x.2.2.2.2.2.1 x.2.2.2.2.2.2.1 x.2.2.2.2.2.2.2.1 (fun z0 z1 z2 z3 => kx 0 (mkSt X0_s_l04Round (z0, z1, z2, z3, ()))))]
theorem okb_s_l04Round (K : Nat) (r : (dq0 × (List Int) × (List Int) × (List Int) × Int × Int × Unit) → Option (Bool × ((List Int) × (List Int) × (List Int) × Unit))) (hr : FnOk Try.prog 80 (sp_s_l04Round r)) : FnOk Try.prog 80 (sp_s_l04Round (s_l04Round_b K r)) :=
  fn_okD tysOk [.f _ (sp_s_l04Round (r)) (hr), C_s_l04Put K, C_s_l01Own K] 4 (D_s_l04Round K r) [(0, X0_s_l04Round)] rv_s_l04Round K Try.func80 (by kernel_rfl) ⟨⟨fun _ _ _ _ => by kernel_rfl, fun _ _ _ => rfl⟩, trivial⟩ (fun _ => by kernel_rfl)
theorem ok_s_l04Round (K : Nat) : ∀ k, FnOk Try.prog 80 (sp_s_l04Round (s_l04Round K k))
  | 0 => fnOk_none
  | k + 1 => okb_s_l04Round K (s_l04Round K k) (ok_s_l04Round K k)
noncomputable def as_s_l04Depths : Ty := (.pair (.sl tq0) (.pair (.int .i64) .unit))
noncomputable def sp_s_l04Depths (F : ((List dq0) × Int × Unit) → Option (List Int)) : FnSpec := ⟨as_s_l04Depths, [false, false], (.sl (.int .i64)), F⟩
noncomputable def s_l04Depths_l3 {R : Type} (K : Nat) : Nat → (List dq0) → Int → (List Int) → Int → ((List dq0) → Int → (List Int) → Option R) → Option R
  | 0, _, _, _, _, _ => none
  | k + 1, v0, v1, v5, v6, kx0 =>
    (s_l01All K (v1, ())).bind fun y2 =>
    (if (decide (v6 ≤ y2)) = true then
    let l3 := [(-1 : Int)]
    (if (decide (v5.length + l3.length ≤ lim)) = true then
    let l4 := (v5 ++ l3)
    s_l04Depths_l3 K k v0 v1 l4 (IntKind.i64.wrap (v6 + (1 : Int))) kx0
    else
    none)
    else
    kx0 v0 v1 v5)
noncomputable def s_l04Depths_l7 {R : Type} (K : Nat) : Nat → (List dq0) → Int → (List Int) → Int → ((List dq0) → Int → (List Int) → Option R) → Option R
  | 0, _, _, _, _, _ => none
  | k + 1, v0, v1, v5, v7, kx2 =>
    (if (decide (v7 < v1)) = true then
    (s_l01Projection K (v1, v7, ())).bind fun y8 =>
    (if (bnds y8.2.1 (v5.length : Int)) = true then
    let l9 := (v5.set y8.2.1.toNat (0 : Int))
    s_l04Depths_l7 K k v0 v1 l9 (IntKind.i64.wrap (v7 + (1 : Int))) kx2
    else
    none)
    else
    kx2 v0 v1 v5)
noncomputable def s_l04Depths_l17 {R : Type} (K : Nat) : Nat → (List dq0) → Int → (List Int) → Bool → Int → (List Int) → Int → ((List dq0) → Int → (List Int) → Bool → Int → (List Int) → Option R) → Option R
  | 0, _, _, _, _, _, _, _, _ => none
  | k + 1, v0, v1, v5, v8, v9, v10, v11, kx6 =>
    (s_l01All K (v1, ())).bind fun y14 =>
    (if (decide (v11 ≤ y14)) = true then
    (if (bnds v11 (v5.length : Int)) = true then
    (if (decide ((v5.getD v11.toNat (0 : Int)) ≥ (0 : Int))) = true then
    (if (decide (v10.length + ([v11]).length ≤ lim)) = true then
    let l15 := (v10 ++ [v11])
    s_l04Depths_l17 K k v0 v1 v5 v8 v9 l15 (IntKind.i64.wrap (v11 + (1 : Int))) kx6
    else
    none)
    else
    s_l04Depths_l17 K k v0 v1 v5 v8 v9 v10 (IntKind.i64.wrap (v11 + (1 : Int))) kx6)
    else
    none)
    else
    kx6 v0 v1 v5 v8 v9 v10)
noncomputable def s_l04Depths_l22 {R : Type} (K : Nat) : Nat → (List dq0) → Int → (List Int) → Bool → Int → (List Int) → Int → ((List dq0) → Int → (List Int) → Bool → Int → Option R) → Option R
  | 0, _, _, _, _, _, _, _, _ => none
  | k + 1, v0, v1, v5, v8, v9, v10, v12, kx8 =>
    (if (decide (v12 < (v0.length : Int))) = true then
    (if (bnds v12 (v0.length : Int)) = true then
    let l22 := ([] : List Int)
    (s_l04Round K K ((v0.getD v12.toNat ((0 : Int), (0 : Int), ())), v5, v10, l22, v1, v9, ())).bind fun y23 =>
    (if y23.1 = true then
    s_l04Depths_l22 K k v0 v1 y23.2.1 true v9 y23.2.2.1 (IntKind.i64.wrap (v12 + (1 : Int))) kx8
    else
    s_l04Depths_l22 K k v0 v1 y23.2.1 v8 v9 y23.2.2.1 (IntKind.i64.wrap (v12 + (1 : Int))) kx8)
    else
    none)
    else
    kx8 v0 v1 v5 v8 v9)
noncomputable def s_l04Depths_l12 {R : Type} (K : Nat) : Nat → (List dq0) → Int → (List Int) → Bool → Int → ((List Int) → Option R) → Option R
  | 0, _, _, _, _, _, _ => none
  | k + 1, v0, v1, v5, v8, v9, kx4 =>
    (if v8 = true then
    let l13 := ([] : List Int)
    s_l04Depths_l17 K k v0 v1 v5 false v9 l13 (0 : Int) (fun z16 z17 z18 z19 z20 z21 =>
    s_l04Depths_l22 K k z16 z17 z18 z19 z20 z21 (0 : Int) (fun z24 z25 z26 z27 z28 =>
    s_l04Depths_l12 K k z24 z25 z26 z27 (IntKind.i64.wrap (z28 + (1 : Int))) kx4))
    else
    kx4 v5)
noncomputable def s_l04Depths (K : Nat) (x : ((List dq0) × Int × Unit)) : Option (List Int) :=
    let l1 := ([] : List Int)
    s_l04Depths_l3 K K x.1 x.2.1 l1 (0 : Int) (fun z5 z6 z7 =>
    s_l04Depths_l7 K K z5 z6 z7 (0 : Int) (fun z10 z11 z12 =>
    s_l04Depths_l12 K K z10 z11 z12 true (1 : Int) (fun z29 =>
    some z29)))
noncomputable def X0_s_l04Depths : Lv := [(0, (.v (.sl tq0))), (1, (.v (.int .i64))), (5, (.r (.int .i64)))]
noncomputable def X2_s_l04Depths : Lv := [(0, (.v (.sl tq0))), (1, (.v (.int .i64))), (5, (.r (.int .i64)))]
noncomputable def X4_s_l04Depths : Lv := [(5, (.r (.int .i64)))]
noncomputable def X6_s_l04Depths : Lv := [(0, (.v (.sl tq0))), (1, (.v (.int .i64))), (5, (.r (.int .i64))), (8, (.v .bool)), (9, (.v (.int .i64))), (10, (.r (.int .i64)))]
noncomputable def X8_s_l04Depths : Lv := [(0, (.v (.sl tq0))), (1, (.v (.int .i64))), (5, (.r (.int .i64))), (8, (.v .bool)), (9, (.v (.int .i64)))]
noncomputable def rv_s_l04Depths : Lv := [(4, (.r (.int .i64)))]
noncomputable def D_s_l04Depths (K : Nat) : List (PD (den (.sl (.int .i64)))) := [.L 3 [(0, (.v (.sl tq0))), (1, (.v (.int .i64))), (5, (.r (.int .i64))), (6, (.v (.int .i64)))] [] (fun k x kx kr => s_l04Depths_l3 K k x.1 x.2.1 x.2.2.1 x.2.2.2.1 (fun z0 z1 z2 => kx 0 (mkSt X0_s_l04Depths (z0, z1, z2, ())))),
  .L 7 [(0, (.v (.sl tq0))), (1, (.v (.int .i64))), (5, (.r (.int .i64))), (7, (.v (.int .i64)))] [] (fun k x kx kr => s_l04Depths_l7 K k x.1 x.2.1 x.2.2.1 x.2.2.2.1 (fun z0 z1 z2 => kx 2 (mkSt X2_s_l04Depths (z0, z1, z2, ())))),
  .L 12 [(0, (.v (.sl tq0))), (1, (.v (.int .i64))), (5, (.r (.int .i64))), (8, (.v .bool)), (9, (.v (.int .i64)))] [] (fun k x kx kr => s_l04Depths_l12 K k x.1 x.2.1 x.2.2.1 x.2.2.2.1 x.2.2.2.2.1 (fun z0 => kx 4 (mkSt X4_s_l04Depths (z0, ())))),
  .L 17 [(0, (.v (.sl tq0))), (1, (.v (.int .i64))), (5, (.r (.int .i64))), (8, (.v .bool)), (9, (.v (.int .i64))), (10, (.r (.int .i64))), (11, (.v (.int .i64)))] [] (fun k x kx kr => s_l04Depths_l17 K k x.1 x.2.1 x.2.2.1 x.2.2.2.1 x.2.2.2.2.1 x.2.2.2.2.2.1 x.2.2.2.2.2.2.1 (fun z0 z1 z2 z3 z4 z5 => kx 6 (mkSt X6_s_l04Depths (z0, z1, z2, z3, z4, z5, ())))),
  .L 22 [(0, (.v (.sl tq0))), (1, (.v (.int .i64))), (5, (.r (.int .i64))), (8, (.v .bool)), (9, (.v (.int .i64))), (10, (.r (.int .i64))), (12, (.v (.int .i64)))] [] (fun k x kx kr => s_l04Depths_l22 K k x.1 x.2.1 x.2.2.1 x.2.2.2.1 x.2.2.2.2.1 x.2.2.2.2.2.1 x.2.2.2.2.2.2.1 (fun z0 z1 z2 z3 z4 => kx 8 (mkSt X8_s_l04Depths (z0, z1, z2, z3, z4, ()))))]
theorem ok_s_l04Depths (K : Nat) : FnOk Try.prog 38 (sp_s_l04Depths (s_l04Depths K)) :=
  fn_okD tysOk [C_s_l01Projection K, C_s_l01All K, .f _ (sp_s_l04Round (s_l04Round K K)) (ok_s_l04Round K K)] 0 (D_s_l04Depths K) [(0, X0_s_l04Depths), (2, X2_s_l04Depths), (4, X4_s_l04Depths), (6, X6_s_l04Depths), (8, X8_s_l04Depths)] rv_s_l04Depths K Try.func38 (by kernel_rfl) ⟨⟨fun _ _ _ _ => by kernel_rfl, fun _ _ _ => rfl⟩, ⟨⟨fun _ _ _ _ => by kernel_rfl, fun _ _ _ => rfl⟩, ⟨⟨fun _ _ _ _ => by kernel_rfl, fun _ _ _ => rfl⟩, ⟨⟨fun _ _ _ _ => by kernel_rfl, fun _ _ _ => rfl⟩, ⟨⟨fun _ _ _ _ => by kernel_rfl, fun _ _ _ => rfl⟩, trivial⟩⟩⟩⟩⟩ (fun _ => by kernel_rfl)
noncomputable def C_s_l04Depths (K : Nat) : CB Try.prog := .f _ _ (ok_s_l04Depths K)
noncomputable def as_s_l10Idem : Ty := (.pair tq0 .unit)
noncomputable def sp_s_l10Idem (F : (dq0 × Unit) → Option Bool) : FnSpec := ⟨as_s_l10Idem, [false], .bool, F⟩
noncomputable def s_l10Idem (K : Nat) (x : (dq0 × Unit)) : Option Bool :=
    (if (decide (x.1.1 > (0 : Int))) = true then
    (s_l01At K (x.1, (0 : Int), ())).bind fun y1 =>
    (if (decide (y1 = (0 : Int))) = true then
    (s_l01Rows K (x.1.1, ())).bind fun y2 =>
    (s_l01At K (x.1, (IntKind.i64.wrap (y2 - (1 : Int))), ())).bind fun y3 =>
    some (decide (y3 = (1 : Int)))
    else
    some false)
    else
    some false)
noncomputable def rv_s_l10Idem : Lv := [(2, (.v .bool))]
theorem ok_s_l10Idem (K : Nat) : FnOk Try.prog 81 (sp_s_l10Idem (s_l10Idem K)) :=
  fn_okD tysOk [C_s_l01At K, C_s_l01Rows K] 0 [] [] rv_s_l10Idem K Try.func81 (by kernel_rfl) trivial (fun _ => by kernel_rfl)
noncomputable def C_s_l10Idem (K : Nat) : CB Try.prog := .f _ _ (ok_s_l10Idem K)
noncomputable def as_s_l10Weight : Ty := (.pair (.int .i64) .unit)
noncomputable def sp_s_l10Weight (F : (Int × Unit) → Option Int) : FnSpec := ⟨as_s_l10Weight, [false], (.int .i64), F⟩
noncomputable def s_l10Weight_l2 {R : Type} (K : Nat) : Nat → Int → Int → (Int → Option R) → Option R
  | 0, _, _, _ => none
  | k + 1, v0, v3, kx0 =>
    (if (decide (v0 > (0 : Int))) = true then
    s_l10Weight_l2 K k (IntKind.i64.wrap (Int.tdiv v0 (2 : Int))) (IntKind.i64.wrap (v3 + (Int.tmod v0 (2 : Int)))) kx0
    else
    kx0 v3)
noncomputable def s_l10Weight (K : Nat) (x : (Int × Unit)) : Option Int :=
    s_l10Weight_l2 K K x.1 (0 : Int) (fun z1 =>
    some z1)
noncomputable def X0_s_l10Weight : Lv := [(3, (.v (.int .i64)))]
noncomputable def rv_s_l10Weight : Lv := [(2, (.v (.int .i64)))]
noncomputable def D_s_l10Weight (K : Nat) : List (PD (den (.int .i64))) := [.L 2 [(0, (.v (.int .i64))), (3, (.v (.int .i64)))] [] (fun k x kx kr => s_l10Weight_l2 K k x.1 x.2.1 (fun z0 => kx 0 (mkSt X0_s_l10Weight (z0, ()))))]
theorem ok_s_l10Weight (K : Nat) : FnOk Try.prog 127 (sp_s_l10Weight (s_l10Weight K)) :=
  fn_okD tysOk [] 0 (D_s_l10Weight K) [(0, X0_s_l10Weight)] rv_s_l10Weight K Try.func127 (by kernel_rfl) ⟨⟨fun _ _ _ _ => by kernel_rfl, fun _ _ _ => rfl⟩, trivial⟩ (fun _ => by kernel_rfl)
noncomputable def C_s_l10Weight (K : Nat) : CB Try.prog := .f _ _ (ok_s_l10Weight K)
noncomputable def as_s_l10Symmetric : Ty := (.pair tq0 .unit)
noncomputable def sp_s_l10Symmetric (F : (dq0 × Unit) → Option Bool) : FnSpec := ⟨as_s_l10Symmetric, [false], .bool, F⟩
noncomputable def s_l10Symmetric_l5 {R : Type} (K : Nat) : Nat → dq0 → Int → Int → (dq0 → Int → Option R) → (Bool → Option R) → Option R
  | 0, _, _, _, _, _ => none
  | k + 1, v1, v3, v4, kx2, kr =>
    (if (decide (v4 < v3)) = true then
    (s_l10Weight K (v3, ())).bind fun y2 =>
    (s_l10Weight K (v4, ())).bind fun y3 =>
    (if (decide (y2 = y3)) = true then
    (s_l01At K (v1, v3, ())).bind fun y4 =>
    (s_l01At K (v1, v4, ())).bind fun y5 =>
    (if (!decide (y4 = y5)) = true then
    kr false
    else
    s_l10Symmetric_l5 K k v1 v3 (IntKind.i64.wrap (v4 + (1 : Int))) kx2 kr)
    else
    s_l10Symmetric_l5 K k v1 v3 (IntKind.i64.wrap (v4 + (1 : Int))) kx2 kr)
    else
    kx2 v1 v3)
noncomputable def s_l10Symmetric_l2 {R : Type} (K : Nat) : Nat → dq0 → Int → (Option R) → (Bool → Option R) → Option R
  | 0, _, _, _, _ => none
  | k + 1, v1, v3, kx0, kr =>
    (s_l01Rows K (v1.1, ())).bind fun y1 =>
    (if (decide (v3 < y1)) = true then
    s_l10Symmetric_l5 K k v1 v3 (0 : Int) (fun z6 z7 =>
    s_l10Symmetric_l2 K k z6 (IntKind.i64.wrap (z7 + (1 : Int))) kx0 kr) (fun z8 =>
    kr z8)
    else
    kx0)
noncomputable def s_l10Symmetric (K : Nat) (x : (dq0 × Unit)) : Option Bool :=
    s_l10Symmetric_l2 K K x.1 (0 : Int) (some true) (fun z9 =>
    some z9)
noncomputable def X0_s_l10Symmetric : Lv := []
noncomputable def X2_s_l10Symmetric : Lv := [(1, (.bx (.v tq0))), (3, (.v (.int .i64)))]
noncomputable def rv_s_l10Symmetric : Lv := [(2, (.v .bool))]
noncomputable def D_s_l10Symmetric (K : Nat) : List (PD (den .bool)) := [.L 2 [(1, (.bx (.v tq0))), (3, (.v (.int .i64)))] [] (fun k x kx kr => s_l10Symmetric_l2 K k x.1 x.2.1 (kx 0 (mkSt X0_s_l10Symmetric ())) (fun z0 => kr (mkSt rv_s_l10Symmetric (z0, ())))),
  .L 5 [(1, (.bx (.v tq0))), (3, (.v (.int .i64))), (4, (.v (.int .i64)))] [] (fun k x kx kr => s_l10Symmetric_l5 K k x.1 x.2.1 x.2.2.1 (fun z0 z1 => kx 2 (mkSt X2_s_l10Symmetric (z0, z1, ()))) (fun z0 => kr (mkSt rv_s_l10Symmetric (z0, ()))))]
theorem ok_s_l10Symmetric (K : Nat) : FnOk Try.prog 82 (sp_s_l10Symmetric (s_l10Symmetric K)) :=
  fn_okD tysOk [C_s_l01At K, C_s_l01Rows K, C_s_l10Weight K] 0 (D_s_l10Symmetric K) [(0, X0_s_l10Symmetric), (2, X2_s_l10Symmetric)] rv_s_l10Symmetric K Try.func82 (by kernel_rfl) ⟨⟨fun _ _ _ _ => by kernel_rfl, fun _ _ _ => rfl⟩, ⟨⟨fun _ _ _ _ => by kernel_rfl, fun _ _ _ => rfl⟩, trivial⟩⟩ (fun _ => by kernel_rfl)
noncomputable def C_s_l10Symmetric (K : Nat) : CB Try.prog := .f _ _ (ok_s_l10Symmetric K)
noncomputable def as_s_l10Kind : Ty := (.pair tq0 (.pair (.int .i64) .unit))
noncomputable def sp_s_l10Kind (F : (dq0 × Int × Unit) → Option Bool) : FnSpec := ⟨as_s_l10Kind, [false, false], .bool, F⟩
noncomputable def s_l10Kind_j16 {R : Type} (K : Nat) (k : Nat) (v1 : Int) (v2 : dq0) (v5 : Int) (v6 : Int) (v7 : Int) (v9 : Int) (kn : Int → dq0 → Int → Int → Option R) (kr : (Bool → Option R)) : Option R :=
    gN K ((if (decide (v1 = (2 : Int))) = true then
    (if (!decide (v9 = v6)) = true then
    kr false
    else
    (if (!decide (v7 = v6)) = true then
    kr false
    else
    kn v1 v2 v5 v6))
    else
    kn v1 v2 v5 v6))
noncomputable def s_l10Kind_j14 {R : Type} (K : Nat) (k : Nat) (v1 : Int) (v2 : dq0) (v5 : Int) (v6 : Int) (v7 : Int) (v8 : Int) (v9 : Int) (kn : Int → dq0 → Int → Int → Option R) (kr : (Bool → Option R)) : Option R :=
    gN K ((if (decide (v1 = (1 : Int))) = true then
    (if (!decide (v7 = v6)) = true then
    kr false
    else
    (if (!decide (v8 = v6)) = true then
    kr false
    else
    (if (!decide (v9 = v6)) = true then
    kr false
    else
    s_l10Kind_j16 K k v1 v2 v5 v6 v7 v9 (fun z12 z13 z14 z15 =>
    kn z12 z13 z14 z15) (fun z16 =>
    kr z16))))
    else
    s_l10Kind_j16 K k v1 v2 v5 v6 v7 v9 (fun z17 z18 z19 z20 =>
    kn z17 z18 z19 z20) (fun z21 =>
    kr z21)))
noncomputable def s_l10Kind_j10 {R : Type} (K : Nat) (k : Nat) (v1 : Int) (v2 : dq0) (v5 : Int) (v6 : Int) (kn : Int → dq0 → Int → Int → Option R)  : Option R :=
    kn v1 v2 v5 (IntKind.i64.wrap (v6 + (1 : Int)))
noncomputable def s_l10Kind_l9 {R : Type} (K : Nat) : Nat → Int → dq0 → Int → Int → (Int → dq0 → Int → Option R) → (Bool → Option R) → Option R
  | 0, _, _, _, _, _, _ => none
  | k + 1, v1, v2, v5, v6, kx2, kr =>
    (if (decide (v6 < (2 : Int))) = true then
    let x3 := (IntKind.i64.wrap (v5 + (IntKind.i64.wrap ((2 : Int) * v5))))
    let x4 := (IntKind.i64.wrap (x3 + (IntKind.i64.wrap ((4 : Int) * v6))))
    (s_l01At K (v2, x4, ())).bind fun y5 =>
    let x6 := (IntKind.i64.wrap (v5 + (IntKind.i64.wrap ((2 : Int) * v6))))
    let x7 := (IntKind.i64.wrap (x6 + (IntKind.i64.wrap ((4 : Int) * v5))))
    (s_l01At K (v2, x7, ())).bind fun y8 =>
    let x9 := (IntKind.i64.wrap (v6 + (IntKind.i64.wrap ((2 : Int) * v5))))
    let x10 := (IntKind.i64.wrap (x9 + (IntKind.i64.wrap ((4 : Int) * v5))))
    (s_l01At K (v2, x10, ())).bind fun y11 =>
    (if (decide (v1 = (0 : Int))) = true then
    (if (!decide (y5 = v5)) = true then
    kr false
    else
    (if (!decide (y8 = v5)) = true then
    kr false
    else
    (if (!decide (y11 = v5)) = true then
    kr false
    else
    s_l10Kind_j14 K k v1 v2 v5 v6 y5 y8 y11 (fun z22 z23 z24 z25 =>
    s_l10Kind_j10 K k z22 z23 z24 z25 (fun z26 z27 z28 z29 =>
    s_l10Kind_l9 K k z26 z27 z28 z29 kx2 kr)) (fun z30 =>
    kr z30))))
    else
    s_l10Kind_j14 K k v1 v2 v5 v6 y5 y8 y11 (fun z31 z32 z33 z34 =>
    s_l10Kind_j10 K k z31 z32 z33 z34 (fun z35 z36 z37 z38 =>
    s_l10Kind_l9 K k z35 z36 z37 z38 kx2 kr)) (fun z39 =>
    kr z39))
    else
    kx2 v1 v2 v5)
noncomputable def s_l10Kind_l6 {R : Type} (K : Nat) : Nat → Int → dq0 → Int → (Option R) → (Bool → Option R) → Option R
  | 0, _, _, _, _, _ => none
  | k + 1, v1, v2, v5, kx0, kr =>
    (if (decide (v5 < (2 : Int))) = true then
    s_l10Kind_l9 K k v1 v2 v5 (0 : Int) (fun z40 z41 z42 =>
    s_l10Kind_l6 K k z40 z41 (IntKind.i64.wrap (z42 + (1 : Int))) kx0 kr) (fun z43 =>
    kr z43)
    else
    kx0)
noncomputable def s_l10Kind (K : Nat) (x : (dq0 × Int × Unit)) : Option Bool :=
    (if (!decide (x.1.1 = (3 : Int))) = true then
    some false
    else
    (if (decide (x.2.1 = (3 : Int))) = true then
    (s_l10Idem K (x.1, ())).bind fun y1 =>
    (if y1 = true then
    (s_l10Symmetric K (x.1, ())).bind fun y2 =>
    some y2
    else
    some false)
    else
    s_l10Kind_l6 K K x.2.1 x.1 (0 : Int) (some true) (fun z44 =>
    some z44)))
noncomputable def X0_s_l10Kind : Lv := []
noncomputable def X2_s_l10Kind : Lv := [(1, (.v (.int .i64))), (2, (.bx (.v tq0))), (5, (.v (.int .i64)))]
noncomputable def rv_s_l10Kind : Lv := [(4, (.v .bool))]
noncomputable def D_s_l10Kind (K : Nat) : List (PD (den .bool)) := [.L 6 [(1, (.v (.int .i64))), (2, (.bx (.v tq0))), (5, (.v (.int .i64)))] [] (fun k x kx kr => s_l10Kind_l6 K k x.1 x.2.1 x.2.2.1 (kx 0 (mkSt X0_s_l10Kind ())) (fun z0 => kr (mkSt rv_s_l10Kind (z0, ())))),
  .L 9 [(1, (.v (.int .i64))), (2, (.bx (.v tq0))), (5, (.v (.int .i64))), (6, (.v (.int .i64)))] [] (fun k x kx kr => s_l10Kind_l9 K k x.1 x.2.1 x.2.2.1 x.2.2.2.1 (fun z0 z1 z2 => kx 2 (mkSt X2_s_l10Kind (z0, z1, z2, ()))) (fun z0 => kr (mkSt rv_s_l10Kind (z0, ())))),
  .J 14 [(1, (.v (.int .i64))), (2, (.bx (.v tq0))), (5, (.v (.int .i64))), (6, (.v (.int .i64))), (7, (.v (.int .i64))), (8, (.v (.int .i64))), (9, (.v (.int .i64)))] [(1, (.v (.int .i64))), (2, (.bx (.v tq0))), (5, (.v (.int .i64))), (6, (.v (.int .i64)))] K (fun k x kn kx kr => s_l10Kind_j14 K k x.1 x.2.1 x.2.2.1 x.2.2.2.1 x.2.2.2.2.1 x.2.2.2.2.2.1 x.2.2.2.2.2.2.1 (fun z0 z1 z2 z3 => kn (z0, z1, z2, z3, ())) (fun z0 => kr (mkSt rv_s_l10Kind (z0, ())))),
  .J 16 [(1, (.v (.int .i64))), (2, (.bx (.v tq0))), (5, (.v (.int .i64))), (6, (.v (.int .i64))), (7, (.v (.int .i64))), (9, (.v (.int .i64)))] [(1, (.v (.int .i64))), (2, (.bx (.v tq0))), (5, (.v (.int .i64))), (6, (.v (.int .i64)))] K (fun k x kn kx kr => s_l10Kind_j16 K k x.1 x.2.1 x.2.2.1 x.2.2.2.1 x.2.2.2.2.1 x.2.2.2.2.2.1 (fun z0 z1 z2 z3 => kn (z0, z1, z2, z3, ())) (fun z0 => kr (mkSt rv_s_l10Kind (z0, ())))),
  .J 10 [(1, (.v (.int .i64))), (2, (.bx (.v tq0))), (5, (.v (.int .i64))), (6, (.v (.int .i64)))] [(1, (.v (.int .i64))), (2, (.bx (.v tq0))), (5, (.v (.int .i64))), (6, (.v (.int .i64)))] 0 (fun k x kn kx kr => s_l10Kind_j10 K k x.1 x.2.1 x.2.2.1 x.2.2.2.1 (fun z0 z1 z2 z3 => kn (z0, z1, z2, z3, ())))]
theorem ok_s_l10Kind (K : Nat) : FnOk Try.prog 39 (sp_s_l10Kind (s_l10Kind K)) :=
  fn_okD tysOk [C_s_l10Idem K, C_s_l10Symmetric K, C_s_l01At K] 0 (D_s_l10Kind K) [(0, X0_s_l10Kind), (2, X2_s_l10Kind)] rv_s_l10Kind K Try.func39 (by kernel_rfl) ⟨⟨fun _ _ _ _ => by kernel_rfl, fun _ _ _ => rfl⟩, ⟨⟨fun _ _ _ _ => by kernel_rfl, fun _ _ _ => rfl⟩, ⟨fun _ _ _ _ _ => by kernel_rfl, ⟨fun _ _ _ _ _ => by kernel_rfl, ⟨fun _ _ _ _ _ => by kernel_rfl, trivial⟩⟩⟩⟩⟩ (fun _ => by kernel_rfl)
noncomputable def C_s_l10Kind (K : Nat) : CB Try.prog := .f _ _ (ok_s_l10Kind K)
noncomputable def as_s_FindOfKind : Ty := (.pair (.sl tq0) (.pair (.int .i64) .unit))
noncomputable def sp_s_FindOfKind (F : ((List dq0) × Int × Unit) → Option (dq0 × Int × Unit)) : FnSpec := ⟨as_s_FindOfKind, [false, false], (.tup (.pair tq0 (.pair (.int .i64) .unit))), F⟩
noncomputable def s_FindOfKind_l10 {R : Type} (K : Nat) : Nat → Int → dq0 → (List Int) → Int → (dq0 → Option R) → (dq0 → Int → Option R) → Option R
  | 0, _, _, _, _, _, _ => none
  | k + 1, v1, v4, v7, v8, kx0, kr =>
    (if (decide (v8 < (v7.length : Int))) = true then
    (if (bnds v8 (v7.length : Int)) = true then
    (if (decide ((v7.getD v8.toNat (0 : Int)) ≥ (0 : Int))) = true then
    (s_l10Kind K ((((3 : Int), ((0 : Int), (0 : Int), ()).2.1, ()).1, v8, ()), v1, ())).bind fun y5 =>
    (if y5 = true then
    kr (((3 : Int), ((0 : Int), (0 : Int), ()).2.1, ()).1, v8, ()) (0 : Int)
    else
    s_FindOfKind_l10 K k v1 v4 v7 (IntKind.i64.wrap (v8 + (1 : Int))) kx0 kr)
    else
    s_FindOfKind_l10 K k v1 v4 v7 (IntKind.i64.wrap (v8 + (1 : Int))) kx0 kr)
    else
    none)
    else
    kx0 v4)
noncomputable def s_FindOfKind_j6 {R : Type} (K : Nat) (k : Nat) (v0 : (List dq0)) (v1 : Int) (v4 : dq0) (v6 : Int) (kn : Option R) (kr : (dq0 → Int → Option R)) : Option R :=
    (if (!decide (v6 = (0 : Int))) = true then
    kr ((0 : Int), (0 : Int), ()) v6
    else
    (s_l04Depths K (v0, (3 : Int), ())).bind fun y4 =>
    s_FindOfKind_l10 K k v1 v4 y4 (0 : Int) (fun z6 =>
    kr ((0 : Int), (0 : Int), ()) (4 : Int)) (fun z7 z8 =>
    kr z7 z8))
noncomputable def s_FindOfKind_j4 {R : Type} (K : Nat) (k : Nat) (v0 : (List dq0)) (v1 : Int) (v4 : dq0) (v6 : Int) (kn : Option R) (kr : (dq0 → Int → Option R)) : Option R :=
    (if (decide (v6 = (0 : Int))) = true then
    (s_l04Code K (v0, (3 : Int), ())).bind fun y3 =>
    s_FindOfKind_j6 K k v0 v1 v4 y3 none (fun z9 z10 =>
    kr z9 z10)
    else
    s_FindOfKind_j6 K k v0 v1 v4 v6 none (fun z11 z12 =>
    kr z11 z12))
noncomputable def s_FindOfKind (K : Nat) (x : ((List dq0) × Int × Unit)) : Option (dq0 × Int × Unit) :=
    (s_l02Code K (x.1, ())).bind fun y1 =>
    (if (decide (y1 = (0 : Int))) = true then
    (s_l10Code K (x.2.1, ([] : List dq0), ())).bind fun y2 =>
    s_FindOfKind_j4 K K x.1 x.2.1 ((0 : Int), (0 : Int), ()) y2 none (fun z13 z14 =>
    some (z13, z14, ()))
    else
    s_FindOfKind_j4 K K x.1 x.2.1 ((0 : Int), (0 : Int), ()) y1 none (fun z15 z16 =>
    some (z15, z16, ())))
noncomputable def X0_s_FindOfKind : Lv := [(4, (.bx (.v tq0)))]
noncomputable def rv_s_FindOfKind : Lv := [(4, (.bx (.v tq0))), (5, (.v (.int .i64)))]
noncomputable def D_s_FindOfKind (K : Nat) : List (PD (den (.tup (.pair tq0 (.pair (.int .i64) .unit))))) := [.J 4 [(0, (.v (.sl tq0))), (1, (.v (.int .i64))), (4, (.bx (.v tq0))), (6, (.v (.int .i64)))] [] 0 (fun k x kn kx kr => s_FindOfKind_j4 K k x.1 x.2.1 x.2.2.1 x.2.2.2.1 (kn ()) (fun z0 z1 => kr (mkSt rv_s_FindOfKind (z0, z1, ())))),
  .J 6 [(0, (.v (.sl tq0))), (1, (.v (.int .i64))), (4, (.bx (.v tq0))), (6, (.v (.int .i64)))] [] 0 (fun k x kn kx kr => s_FindOfKind_j6 K k x.1 x.2.1 x.2.2.1 x.2.2.2.1 (kn ()) (fun z0 z1 => kr (mkSt rv_s_FindOfKind (z0, z1, ())))),
  .L 10 [(1, (.v (.int .i64))), (4, (.bx (.v tq0))), (7, (.r (.int .i64))), (8, (.v (.int .i64)))] [] (fun k x kx kr => s_FindOfKind_l10 K k x.1 x.2.1 x.2.2.1 x.2.2.2.1 (fun z0 => kx 0 (mkSt X0_s_FindOfKind (z0, ()))) (fun z0 z1 => kr (mkSt rv_s_FindOfKind (z0, z1, ()))))]
theorem ok_s_FindOfKind (K : Nat) : FnOk Try.prog 10 (sp_s_FindOfKind (s_FindOfKind K)) :=
  fn_okD tysOk [C_s_l02Code K, C_s_l10Code K, C_s_l04Code K, C_s_l04Depths K, C_s_l10Kind K] 0 (D_s_FindOfKind K) [(0, X0_s_FindOfKind)] rv_s_FindOfKind K Try.func10 (by kernel_rfl) ⟨fun _ _ _ _ _ => by kernel_rfl, ⟨fun _ _ _ _ _ => by kernel_rfl, ⟨⟨fun _ _ _ _ => by kernel_rfl, fun _ _ _ => rfl⟩, trivial⟩⟩⟩ (fun _ => by kernel_rfl)
noncomputable def C_s_FindOfKind (K : Nat) : CB Try.prog := .f _ _ (ok_s_FindOfKind K)
noncomputable def as_w_eqFunc : Ty := (.pair tq0 (.pair tq0 .unit))
noncomputable def sp_w_eqFunc (F : (dq0 × dq0 × Unit) → Option Bool) : FnSpec := ⟨as_w_eqFunc, [false, false], .bool, F⟩
noncomputable def w_eqFunc (K : Nat) (x : (dq0 × dq0 × Unit)) : Option Bool :=
    (if (!decide (x.1.1 = x.2.1.1)) = true then
    some false
    else
    (if (!decide (x.1.2.1 = x.2.1.2.1)) = true then
    some false
    else
    some true))
noncomputable def rv_w_eqFunc : Lv := [(4, (.v .bool))]
theorem ok_w_eqFunc (K : Nat) : FnOk Try.prog 8 (sp_w_eqFunc (w_eqFunc K)) :=
  fn_okD tysOk [] 0 [] [] rv_w_eqFunc K Try.func8 (by kernel_rfl) trivial (fun _ => by kernel_rfl)
noncomputable def C_w_eqFunc (K : Nat) : CB Try.prog := .f _ _ (ok_w_eqFunc K)
noncomputable def as_w_szFuncS : Ty := (.pair (.sl tq0) (.pair (.int .i64) .unit))
noncomputable def sp_w_szFuncS (F : ((List dq0) × Int × Unit) → Option Int) : FnSpec := ⟨as_w_szFuncS, [false, false], (.int .i64), F⟩
noncomputable def w_szFuncS (K : Nat) (x : ((List dq0) × Int × Unit)) : Option Int :=
    let x1 := (decide ((IntKind.i64.wrap (x.2.1 - (x.1.length : Int))) < (0 : Int)))
    (if x1 = true then
    some (-1 : Int)
    else
    some (IntKind.i64.wrap (x.2.1 - (x.1.length : Int))))
noncomputable def rv_w_szFuncS : Lv := [(4, (.v (.int .i64)))]
theorem ok_w_szFuncS (K : Nat) : FnOk Try.prog 9 (sp_w_szFuncS (w_szFuncS K)) :=
  fn_okD tysOk [] 0 [] [] rv_w_szFuncS K Try.func9 (by kernel_rfl) trivial (fun _ => by kernel_rfl)
noncomputable def C_w_szFuncS (K : Nat) : CB Try.prog := .f _ _ (ok_w_szFuncS K)
noncomputable def as_w_toFunc : Ty := (.pair tq0 .unit)
noncomputable def sp_w_toFunc (F : (dq0 × Unit) → Option dq0) : FnSpec := ⟨as_w_toFunc, [false], tq0, F⟩
noncomputable def w_toFunc (K : Nat) (x : (dq0 × Unit)) : Option dq0 :=
    some ((x.1.1, ((0 : Int), (0 : Int), ()).2.1, ()).1, x.1.2.1, ())
noncomputable def rv_w_toFunc : Lv := [(2, (.bx (.v tq0)))]
theorem ok_w_toFunc (K : Nat) : FnOk Try.prog 40 (sp_w_toFunc (w_toFunc K)) :=
  fn_okD tysOk [] 0 [] [] rv_w_toFunc K Try.func40 (by kernel_rfl) trivial (fun _ => by kernel_rfl)
noncomputable def C_w_toFunc (K : Nat) : CB Try.prog := .f _ _ (ok_w_toFunc K)
noncomputable def as_w_toFuncS : Ty := (.pair (.sl tq0) .unit)
noncomputable def sp_w_toFuncS (F : ((List dq0) × Unit) → Option (List dq0)) : FnSpec := ⟨as_w_toFuncS, [false], (.sl tq0), F⟩
noncomputable def w_toFuncS_l3 {R : Type} (K : Nat) : Nat → (List dq0) → (List dq0) → Int → ((List dq0) → Option R) → Option R
  | 0, _, _, _, _ => none
  | k + 1, v0, v3, v4, kx0 =>
    (if (decide (v4 < (v0.length : Int))) = true then
    (if (bnds v4 (v0.length : Int)) = true then
    (w_toFunc K ((v0.getD v4.toNat ((0 : Int), (0 : Int), ())), ())).bind fun y2 =>
    (if (bnds v4 (v3.length : Int)) = true then
    let l3 := (v3.set v4.toNat y2)
    w_toFuncS_l3 K k v0 l3 (IntKind.i64.wrap (v4 + (1 : Int))) kx0
    else
    none)
    else
    none)
    else
    kx0 v3)
noncomputable def w_toFuncS (K : Nat) (x : ((List dq0) × Unit)) : Option (List dq0) :=
    (if (decide (0 ≤ (x.1.length : Int)) && decide ((x.1.length : Int) ≤ (lim : Int)) && decide ((x.1.length : Int) = (x.1.length : Int))) = true then
    let l1 := (List.replicate (x.1.length : Int).toNat ((0 : Int), (0 : Int), ()))
    w_toFuncS_l3 K K x.1 l1 (0 : Int) (fun z4 =>
    some z4)
    else
    none)
noncomputable def X0_w_toFuncS : Lv := [(3, (.r tq0))]
noncomputable def rv_w_toFuncS : Lv := [(2, (.r tq0))]
noncomputable def D_w_toFuncS (K : Nat) : List (PD (den (.sl tq0))) := [.L 3 [(0, (.v (.sl tq0))), (3, (.r tq0)), (4, (.v (.int .i64)))] [] (fun k x kx kr => w_toFuncS_l3 K k x.1 x.2.1 x.2.2.1 (fun z0 => kx 0 (mkSt X0_w_toFuncS (z0, ()))))]
theorem ok_w_toFuncS (K : Nat) : FnOk Try.prog 11 (sp_w_toFuncS (w_toFuncS K)) :=
  fn_okD tysOk [C_w_toFunc K] 0 (D_w_toFuncS K) [(0, X0_w_toFuncS)] rv_w_toFuncS K Try.func11 (by kernel_rfl) ⟨⟨fun _ _ _ _ => by kernel_rfl, fun _ _ _ => rfl⟩, trivial⟩ (fun _ => by kernel_rfl)
noncomputable def C_w_toFuncS (K : Nat) : CB Try.prog := .f _ _ (ok_w_toFuncS K)
noncomputable def as_w_eqFuncS : Ty := (.pair (.sl tq0) (.pair (.sl tq0) .unit))
noncomputable def sp_w_eqFuncS (F : ((List dq0) × (List dq0) × Unit) → Option Bool) : FnSpec := ⟨as_w_eqFuncS, [false, false], .bool, F⟩
noncomputable def w_eqFuncS_l4 {R : Type} (K : Nat) : Nat → (List dq0) → (List dq0) → Int → (Option R) → (Bool → Option R) → Option R
  | 0, _, _, _, _, _ => none
  | k + 1, v0, v1, v5, kx0, kr =>
    (if (decide (v5 < (v0.length : Int))) = true then
    (if (bnds v5 (v0.length : Int)) = true then
    (if (bnds v5 (v1.length : Int)) = true then
    (w_eqFunc K ((v0.getD v5.toNat ((0 : Int), (0 : Int), ())), (v1.getD v5.toNat ((0 : Int), (0 : Int), ())), ())).bind fun y1 =>
    (if (!y1) = true then
    kr false
    else
    w_eqFuncS_l4 K k v0 v1 (IntKind.i64.wrap (v5 + (1 : Int))) kx0 kr)
    else
    none)
    else
    none)
    else
    kx0)
noncomputable def w_eqFuncS (K : Nat) (x : ((List dq0) × (List dq0) × Unit)) : Option Bool :=
    (if (!decide ((x.1.length : Int) = (x.2.1.length : Int))) = true then
    some false
    else
    w_eqFuncS_l4 K K x.1 x.2.1 (0 : Int) (some true) (fun z2 =>
    some z2))
noncomputable def X0_w_eqFuncS : Lv := []
noncomputable def rv_w_eqFuncS : Lv := [(4, (.v .bool))]
noncomputable def D_w_eqFuncS (K : Nat) : List (PD (den .bool)) := [.L 4 [(0, (.v (.sl tq0))), (1, (.v (.sl tq0))), (5, (.v (.int .i64)))] [] (fun k x kx kr => w_eqFuncS_l4 K k x.1 x.2.1 x.2.2.1 (kx 0 (mkSt X0_w_eqFuncS ())) (fun z0 => kr (mkSt rv_w_eqFuncS (z0, ()))))]
theorem ok_w_eqFuncS (K : Nat) : FnOk Try.prog 13 (sp_w_eqFuncS (w_eqFuncS K)) :=
  fn_okD tysOk [C_w_eqFunc K] 0 (D_w_eqFuncS K) [(0, X0_w_eqFuncS)] rv_w_eqFuncS K Try.func13 (by kernel_rfl) ⟨⟨fun _ _ _ _ => by kernel_rfl, fun _ _ _ => rfl⟩, trivial⟩ (fun _ => by kernel_rfl)
noncomputable def C_w_eqFuncS (K : Nat) : CB Try.prog := .f _ _ (ok_w_eqFuncS K)
noncomputable def as_w_FnExactFindOfKind : Ty := (.pair (.sl tq0) (.pair (.int .i64) .unit))
noncomputable def sp_w_FnExactFindOfKind (F : ((List dq0) × Int × Unit) → Option Bool) : FnSpec := ⟨as_w_FnExactFindOfKind, [false, false], .bool, F⟩
noncomputable def w_FnExactFindOfKind_j10 {R : Type} (K : Nat) (k : Nat) (v0 : (List dq0)) (v8 : (List dq0)) (kn : Option R) (kr : (Bool → Option R)) : Option R :=
    (w_toFuncS K (v0, ())).bind fun y7 =>
    (w_eqFuncS K (v8, y7, ())).bind fun y8 =>
    (if (!y8) = true then
    kr false
    else
    kr true)
noncomputable def w_FnExactFindOfKind (K : Nat) (x : ((List dq0) × Int × Unit)) : Option Bool :=
    (w_szFuncS K (x.1, (1048576 : Int), ())).bind fun y1 =>
    (if (decide (y1 < (0 : Int))) = true then
    some true
    else
    (w_toFuncS K (x.1, ())).bind fun y2 =>
    (s_FindOfKind K (y2, x.2.1, ())).bind fun y3 =>
    (w_toFuncS K (x.1, ())).bind fun y4 =>
    (i_FindOfKind K (y4, x.2.1, ())).bind fun y5 =>
    (w_eqFunc K (y5.1, y3.1, ())).bind fun y6 =>
    (if (!y6) = true then
    some false
    else
    (if (!decide (y5.2.1 = y3.2.1)) = true then
    some false
    else
    w_FnExactFindOfKind_j10 K K x.1 y4 none (fun z9 =>
    some z9))))
noncomputable def rv_w_FnExactFindOfKind : Lv := [(4, (.v .bool))]
noncomputable def D_w_FnExactFindOfKind (K : Nat) : List (PD (den .bool)) := [.J 10 [(0, (.v (.sl tq0))), (8, (.r tq0))] [] 0 (fun k x kn kx kr => w_FnExactFindOfKind_j10 K k x.1 x.2.1 (kn ()) (fun z0 => kr (mkSt rv_w_FnExactFindOfKind (z0, ()))))]
theorem ok_w_FnExactFindOfKind (K : Nat) : FnOk Try.prog 4 (sp_w_FnExactFindOfKind (w_FnExactFindOfKind K)) :=
  fn_okD tysOk [C_w_eqFunc K, C_w_szFuncS K, C_s_FindOfKind K, C_w_toFuncS K, C_i_FindOfKind K, C_w_eqFuncS K] 0 (D_w_FnExactFindOfKind K) [] rv_w_FnExactFindOfKind K Try.func4 (by kernel_rfl) ⟨fun _ _ _ _ _ => by kernel_rfl, trivial⟩ (fun _ => by kernel_rfl)
noncomputable def C_w_FnExactFindOfKind (K : Nat) : CB Try.prog := .f _ _ (ok_w_FnExactFindOfKind K)
end Go.Proofs.Ytmlgfaojfmkdnaa.E
