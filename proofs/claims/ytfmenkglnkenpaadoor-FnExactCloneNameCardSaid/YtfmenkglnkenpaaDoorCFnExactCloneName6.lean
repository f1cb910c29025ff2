/-
  What the Go functions that FnExactCloneName reaches hand back, each as a plain function with a proof that the call does so, and plain lemmas on them. Conditions: those of each theorem.
-/
import Derived.Test.YtfmenkglnkenpaaDoorCFnExactCloneName5
namespace Go.Proofs.YtfmenkglnkenpaaDoor.E
open Go Go.Proofs Go.Proofs.YtfmenkglnkenpaaDoor Go.RowKit Go.Maps
set_option maxRecDepth 100000
set_option maxHeartbeats 4000000
set_option linter.unusedVariables false
/-- the sets of the rows with the value c -/
def degS (n b c : Nat) (m : Nat) : List Nat := ((List.range m).filter fun r => (b.testBit r).toNat == c).map fun r => if c = 0 then 2 ^ n - 1 - r else r
def stepL (n : Nat) (M S : List Nat) : List Nat := (List.range (2 ^ n)).filter fun x => M.any fun a => S.any fun y => a &&& y == x
def degGo (n : Nat) (S : List Nat) : Nat → Nat → List Nat → Nat
  | 0, _, _ => 9
  | f + 1, k, M => if 0 ∈ stepL n M S then k else degGo n S f (k + 1) (stepL n M S)
def degN (n b c : Nat) : Nat := if degS n b c (2 ^ n) = [] then 9 else degGo n (degS n b c (2 ^ n)) 9 0 [2 ^ n - 1]
theorem calls_of {f : Nat} {A R : Ty} {F : den A → Option (den R)} {mu : List Bool} {fn : Func} {c : Code} (h : FnOk Tryd.prog f ⟨A, mu, R, F⟩) (hm : mu.any id = false) (hf : Tryd.prog.funcs[f]? = some fn) (hname : (fn.name == "runtime.NumGoroutine") = false) (hb : fn.body = some c)
    (w : World) (vs : List Value) (x : den A) (y : den R) (hx : RX Tryd.prog A true w (fun b => b < w.heap.size) vs x) (hy : F x = some y) : Calls Tryd.prog f vs.toArray w fun e w' => ∃ v, e = .returned v ∧ Ret R y w v w' :=
  ((h.plain hm) w vs x y hx hy).calls hf hname hb
theorem rows_calls (w : World) (n b : Nat) (hn : n ≤ 4) : Calls Tryd.prog 87 #[.agg #[.int .i64 n, .int .i64 b]] w fun e w' => e = .returned (.int .i64 ((2 ^ n : Nat) : Int)) ∧ Below w.heap.size w w' := by
  refine (calls_of (ok_i_Func_rows 0) rfl Tryd.func87 (by kernel_rfl) (c := bodyOf Tryd.f87) (by kernel_rfl) w [.agg #[.int .i64 n, .int .i64 b]] (((n : Int), (b : Int), ()), ()) _ ?_ (Dg.i_Func_rows_eq (K := 0) (b : Int) (by omega))).mono ?_
  · exact ⟨[.int .i64 n, .int .i64 b], [], rfl, ⟨[.int .i64 n], [.int .i64 b], rfl, rfl, ⟨[.int .i64 b], [], rfl, rfl, rfl⟩⟩, rfl⟩
  · rintro e w' ⟨v, rfl, bs, ⟨cs, h0, h1, h2⟩, h3, h4, h5⟩
    have h1 : cs = [.int .i64 ((2 ^ n : Nat) : Int)] := h1
    subst h1
    cases h0
    exact ⟨rfl, h5⟩
theorem bt_toNat (b r : Nat) : ((b.testBit r).toNat : Int) = Dg.bt b r := by unfold Dg.bt; cases b.testBit r <;> rfl
theorem at_calls (w : World) (n b r : Nat) (hb : b < 65536) : Calls Tryd.prog 88 #[.agg #[.int .i64 n, .int .i64 b], .int .i64 r] w fun e w' => e = .returned (.int .i64 ((b.testBit r).toNat : Int)) ∧ Below w.heap.size w w' := by
  refine (calls_of (ok_i_Func_at 0) rfl Tryd.func88 (by kernel_rfl) (c := bodyOf Tryd.f88) (by kernel_rfl) w [.agg #[.int .i64 n, .int .i64 b], .int .i64 r] (((n : Int), (b : Int), ()), ((r : Int), ())) _ ?_ (Dg.i_Func_at_eq (K := 0) (n := (n : Int)) r (by omega))).mono ?_
  · exact ⟨[.int .i64 n, .int .i64 b], [.int .i64 r], rfl, ⟨[.int .i64 n], [.int .i64 b], rfl, rfl, ⟨[.int .i64 b], [], rfl, rfl, rfl⟩⟩, ⟨[.int .i64 r], [], rfl, rfl, rfl⟩⟩
  · rintro e w' ⟨v, rfl, bs, ⟨cs, h0, h1, h2⟩, h3, h4, h5⟩
    have h1 : cs = [.int .i64 (Dg.bt b r)] := h1
    subst h1
    cases h0
    exact ⟨by rw [bt_toNat]; rfl, h5⟩
def DegW (w : World) (n b c : Nat) (e : Ending) (w' : World) : Prop := e = .returned (.int .i64 (degN n b c : Nat)) ∧ Below w.heap.size w w'
theorem box_cells {w : World} {H n b : Nat} (h : w.heap[H]? = some (.cells #[.int .i64 n, .int .i64 b] 37 (0, 0))) : w.cell? ⟨H, 0, none⟩ = some (.int .i64 n) ∧ w.cell? ⟨H, 1, none⟩ = some (.int .i64 b) := ⟨by simp [World.cell?, h], by simp [World.cell?, h]⟩
theorem alloc2_0 (w : World) (o o' : Obj) : ((w.alloc o).alloc o').heap[w.heap.size]? = some o := by
  rw [alloc_get, if_neg (by simp), alloc_get, if_pos rfl]
theorem grown_of_below {w w' : World} (h : Below w.heap.size w w') : w.grownBy w' none := ⟨h.os, h.tape, h.output, h.size, fun k hk _ => h.block k hk⟩
theorem mono1 {w : World} {o : Obj} {w1 : World} {n b : Nat} (e : o = .cells #[.int .i64 n, .int .i64 b] 37) (h : Below ((w.alloc o).alloc (.map #[] 0)).heap.size ((w.alloc o).alloc (.map #[] 0)) w1) :
    SetM w1 (w.heap.size + 1) 0 (fun _ => False) ∧ w1.heap[w.heap.size]? = some (.cells #[.int .i64 n, .int .i64 b] 37 (0, 0)) ∧ Below w.heap.size w w1 ∧ w.heap.size + 2 ≤ w1.heap.size := by
  subst e
  have hg := grown_of_below h
  have hs := h.size
  simp at hs
  refine ⟨?_, ?_, ?_, by omega⟩
  · have := (SetM.made (w.alloc (.cells #[.int .i64 n, .int .i64 b] 37))).kept hg (by simp)
    simpa using this
  · rw [h.block _ (by simp; omega)]; exact alloc2_0 _ _ _
  · exact (((Below.refl _ w).alloc (Nat.le_refl _) _).alloc (by simp) _).grown hg (by simp; omega) (fun j hj => by cases hj)
theorem degS_succ (n b c r : Nat) : degS n b c (r + 1) = degS n b c r ++ (if (b.testBit r).toNat == c then [if c = 0 then 2 ^ n - 1 - r else r] else []) := by
  simp only [degS, List.range_succ, List.filter_append, List.map_append]
  congr 1
  cases h : ((b.testBit r).toNat == c) <;> simp [List.filter, h]
theorem deg_next {n b c r N b0 : Nat} {w : World} {k : Nat} (hk : k = if c = 0 then 2 ^ n - 1 - r else r) (he : (((b.testBit r).toNat : Int) == (c : Int)) = true) (h : SetM w b0 N (fun y => y ∈ degS n b c r ∨ y = k)) : SetM w b0 N (fun y => y ∈ degS n b c (r + 1)) := by
  have he : ((b.testBit r).toNat == c) = true := by
    rw [beq_iff_eq] at he ⊢; omega
  rw [degS_succ, if_pos he, ← hk]
  exact h.congr fun x => by simp
theorem deg_same {n b c r N b0 : Nat} {w : World} (he : (((b.testBit r).toNat : Int) == (c : Int)) = false) (h : SetM w b0 N (fun y => y ∈ degS n b c r)) : SetM w b0 N (fun y => y ∈ degS n b c (r + 1)) := by
  have he : ((b.testBit r).toNat == c) = false := by
    rw [beq_eq_false_iff_ne] at he ⊢; omega
  rw [degS_succ, he]; simpa using h
theorem degS_lt (n b c : Nat) : ∀ y ∈ degS n b c (2 ^ n), y < 2 ^ n := by
  intro y hy
  simp only [degS, List.mem_map, List.mem_filter, List.mem_range] at hy
  obtain ⟨r, ⟨hr, _⟩, rfl⟩ := hy
  split <;> omega
theorem and_lt {x y : Nat} (h : x < 65536) : x &&& y < 65536 := Nat.lt_of_le_of_lt Nat.and_le_left h
theorem step_mem {n : Nat} {M S : List Nat} (h : ∀ a ∈ M, a < 2 ^ n) (z : Nat) : z ∈ stepL n M S ↔ ∃ a, a ∈ M ∧ ∃ y, y ∈ S ∧ z = a &&& y := by
  simp only [stepL, List.mem_filter, List.mem_range, List.any_eq_true, beq_iff_eq]
  constructor
  · rintro ⟨_, a, ha, y, hy, e⟩; exact ⟨a, ha, y, hy, e.symm⟩
  · rintro ⟨a, ha, y, hy, e⟩; exact ⟨e ▸ Nat.lt_of_le_of_lt Nat.and_le_left (h a ha), a, ha, y, hy, e.symm⟩
theorem and_val {x y : Nat} (hx : x < 65536) (hy : y < 65536) : Value.int .i64 (bits BinOp.and .i64 (x : Int) (y : Int)) = .int .i64 ((x &&& y : Nat) : Int) := congrArg _ (Dg.bitI_and (by omega) (by omega))
theorem mr_cast {m r : Nat} (h : r < m) : Value.int .i64 ((m : Int) - 1 - (r : Int)) = .int .i64 ((m - 1 - r : Nat) : Int) := congrArg _ (by omega)
theorem ne_nil {c1 : Nat} {l : List Nat} (h : l ≠ []) (hc : c1 = 0 ↔ ∀ x, ¬ x ∈ l) : ((c1 : Int) == 0) = false := by
  rw [beq_eq_false_iff_ne]; intro e
  exact h (List.eq_nil_iff_forall_not_mem.2 (hc.1 (by omega)))
theorem box_below {w w' : World} {H n b : Nat} (hb : Below w.heap.size w w') (h : w.heap[H]? = some (.cells #[.int .i64 n, .int .i64 b] 37 (0, 0))) : w'.heap[H]? = some (.cells #[.int .i64 n, .int .i64 b] 37 (0, 0)) := by
  rw [hb.block H (Array.getElem?_eq_some_iff.1 h).1]; exact h
theorem dg_calls (w : World) (n b c : Nat) (hn : n ≤ 4) (hb : b < 65536) (hc : c ≤ 1) : Calls Tryd.prog 71 #[.agg #[.int .i64 n, .int .i64 b], .int .i64 c] w (DegW w n b c) := by
  have hp16 : 2 ^ n ≤ 16 := Nat.pow_le_pow_right (by decide) hn
  obtain ⟨m, hm⟩ : ∃ m, m = 2 ^ n := ⟨_, rfl⟩
  have hrows := fun w => rows_calls w n b hn
  rw [← hm] at hp16
  have hm1 : 1 ≤ m := hm ▸ Nat.one_le_two_pow
  simp only [← hm] at hrows
  have A0 : Aside (m = 2 ^ n) := hm
  clear hm
  have hmm : ∀ (t : TypeId) (w : World), (Instr.makeMap t none).run Tryd.prog w = _ := @run_makeMap Tryd.prog
  go_enter Tryd.func71, Tryd.ntmps71
  go_wp2_with (first
    | (go_at_call 87; refine (hrows _).mono ?_; rintro e w1 ⟨rfl, hbe1⟩)
    | go_in)
  obtain ⟨hset1, hbox1, hbel1, hsz1⟩ := mono1 rfl hbe1
  clear hbe1
  go_loopw [16] (fun t16 wr => ∃ r : Nat, r ≤ m ∧ t16 = .int .i64 r ∧ SetM wr (w.heap.size + 1) r (fun x => x ∈ degS n b c r) ∧ wr.heap[w.heap.size]? = some (.cells #[.int .i64 n, .int .i64 b] 37 (0, 0)) ∧ Below w.heap.size w wr ∧ w.heap.size + 2 ≤ wr.heap.size)
    (fun t16 _ => m - (intOf t16).toNat)
  case atStart => exact ⟨0, by omega, rfl, hset1.congr (fun x => by simp [degS]), hbox1, hbel1, hsz1⟩
  case round =>
    obtain ⟨r, hr, rfl, hset, hbox, hbel, hsz⟩ := hrel
    obtain ⟨hx0, hx1⟩ := box_cells hbox
    by_cases hrm : r = m
    · subst hrm
      have hlow : w.heap.size < wr.heap.size := by omega
      have hbox2 : (wr.alloc (.map #[] 0)).heap[w.heap.size]? = some (.cells #[.int .i64 n, .int .i64 b] 37 (0, 0)) := by rw [alloc_get, if_neg (by omega)]; exact hbox
      obtain ⟨hy0, hy1⟩ := box_cells hbox2
      by_cases hS : degS n b c r = []
      · go_wp2_with (first
          | (at_len; refine wpList_setLen rfl _ rfl (w.heap.size + 1) _ _ rfl hset ?_; intro c1 hc1 hc2; obtain rfl : c1 = 0 := hc1.2 (by rw [hS]; simp))
          | go_in)
        go_ret
        refine ⟨?_, hbel⟩
        have hm : r = 2 ^ n := A0
        rw [degN, if_pos (hm ▸ hS)]; rfl
      · go_wp2_with (first
          | (at_len; refine wpList_setLen rfl _ rfl (w.heap.size + 1) _ _ rfl hset ?_; intro c1 hc1 hc2; have hc3 : ((c1 : Int) == 0) = false := ne_nil hS hc1)
          | (go_at_call 87; refine (hrows _).mono ?_; rintro e w3 ⟨rfl, hbe3⟩)
          | (refine wpList_setInsert rfl _ _ rfl wr.heap.size 0 (fun _ => False) rfl (((SetM.made wr).kept (grown_of_below hbe3) (by simp))) (by unfold maxLen; omega) (r - 1) (congrArg (Value.int .i64) (by omega)) (by omega) ?_; intro w4 hset4 hg4)
          | go_in)
        have hg1 := World.grownBy_alloc wr (.map #[] 0) none
        have hsets := (((hset.kept hg1 (by simp)).kept (grown_of_below hbe3) (by simp)).kept hg4 (by simp; omega)).mono hp16
        have hbel4 : Below w.heap.size w w4 := ((hbel.alloc (by omega) _).grown (grown_of_below hbe3) (by simp; omega) (fun j hj => by cases hj)).grown hg4 (by have := hbe3.size; simp at this; omega) (fun j hj => by cases hj; omega)
        obtain ⟨SL, hSL⟩ : ∃ SL, SL = degS n b c r := ⟨_, rfl⟩
        have A1 : Aside (degGo n SL 9 0 [r - 1] = degN n b c) := by
          have hm : r = 2 ^ n := A0
          show degGo n SL 9 0 [r - 1] = degN n b c
          rw [degN, ← hm, ← hSL, if_neg (hSL ▸ hS)]
        have A2 : Aside (∀ y ∈ SL, y < r) := by
          have hm : r = 2 ^ n := A0
          show ∀ y ∈ SL, y < r
          rw [hSL, hm]; exact degS_lt n b c
        rw [← hSL] at hsets
        have hset5 : SetM w4 wr.heap.size 16 (fun x => x ∈ [r - 1]) := (hset4.congr (fun x => by simp)).mono (by decide)
        clear hx0 hx1 hy0 hy1 hS hSL hset hset4 hc1 hc2 hc3 hbox hbox2 hbe3 hg4 hg1 hbel hmm
        have hmm : ∀ (t : TypeId) (w : World), (Instr.makeMap t none).run Tryd.prog w = _ := @run_makeMap Tryd.prog
        go_loopw [8, 9] (fun t8 t9 wr => ∃ (k bm NM : Nat) (M : List Nat), k ≤ 9 ∧ t8 = .map (some bm) ∧ t9 = .int .i64 k ∧ SetM wr bm NM (fun x => x ∈ M) ∧ NM ≤ 16 ^ (k + 1) ∧ w.heap.size + 2 ≤ bm ∧ (∀ a ∈ M, a < r) ∧
            degGo n SL (9 - k) k M = degN n b c ∧ SetM wr (w.heap.size + 1) 16 (fun x => x ∈ SL) ∧ Below w.heap.size w wr) (fun _ t9 _ => 9 - (intOf t9).toNat)
        case atStart => exact ⟨0, wr.heap.size, 16, [r - 1], by omega, rfl, rfl, hset5, by decide, by omega, fun a ha => by simp at ha; omega, A1, hsets, hbel4⟩
        case round =>
          obtain ⟨k, bm, NM, M, hk, rfl, rfl, hM, hNM, hbm, hMr, hgo, hsets, hbel⟩ := hrel
          have A3 : Aside (degGo n SL (9 - k) k M = degN n b c) := hgo
          clear hgo
          by_cases hk9 : k = 9
          · subst hk9
            go_wp2
            go_ret
            have h9 : degGo n SL (9 - 9) 9 M = degN n b c := A3
            refine ⟨?_, hbel⟩
            rw [← h9]; rfl
          · have hbmlt := hM.lt
            have hNMb : NM ≤ 68719476736 := Nat.le_trans hNM (Nat.le_trans (Nat.pow_le_pow_right (by decide) (by omega : k + 1 ≤ 9)) (by decide))
            have hM1 := hM.kept (World.grownBy_alloc _ (.map #[] 0) none) (by simp)
            go_wp2_with (first
              | (at_range; refine wpList_setRange rfl _ rfl bm NM _ rfl hM1 ?_; intro w5 cnt5 hrg5 hcnt5 hg5 hs5)
              | go_in)
            go_frame
            have hset6 := (SetM.made wr).kept hg5 (by simp)
            have hsets6 := ((hsets.kept (World.grownBy_alloc wr (.map #[] 0) none) (by simp)).kept hg5 (by simp))
            have hbel6 := (hbel.alloc (by omega) (.map #[] 0)).grown hg5 (by simp; omega) (fun j hj => by cases hj)
            simp only [alloc_size] at hrg5 hs5
            have hk9b : decide ((k : Int) < 9) = true := decide_eq_true (by omega)
            simp only [alloc_size, hk9b]
            clear hg5 hM1 hbox1 hset1 hbel1
            generalize hbn : wr.heap.size = bn at *
            go_loopw [11] (fun _ wq => ∃ (L : Nat → Prop) (cnt N : Nat), SetR wq bm (bn + 1) NM (fun x => x ∈ M) L cnt ∧ SetM wq bn N (fun z => ∃ a, a ∈ M ∧ ¬ L a ∧ ∃ y, y ∈ SL ∧ z = a &&& y) ∧ N + 16 * cnt ≤ 16 * NM ∧ SetM wq (w.heap.size + 1) 16 (fun x => x ∈ SL) ∧ Below w.heap.size w wq ∧ bn + 2 ≤ wq.heap.size)
              (fun _ wq => wq.rangeLeft bm (bn + 1))
            case atStart => exact ⟨_, cnt5, 0, hrg5, hset6.congr (fun x => ⟨False.elim, fun ⟨a, h1, h2, _⟩ => h2 h1⟩), by omega, hsets6, hbel6, by omega⟩
            case round =>
              obtain ⟨L, cnt, N, hrgM, hN1, hN2, hsets7, hbel7, hsz7⟩ := hrel
              go_wp2_with (first
                | (at_next; go_loud (refine wpList_setNext rfl _ rfl bm (bn + 1) NM (fun x => x ∈ M) L cnt rfl hrgM ?_ ?_))
                | go_in)
              · intro hL0
                go_wp2_with (first
                  | (at_lookup; go_loud (refine wpList_setLook rfl _ _ rfl bn N _ rfl hN1 0 rfl (by decide) ?_); intro c9 hc9)
                  | go_in)
                all_goals have hMr2 : ∀ a ∈ M, a < 2 ^ n := fun a ha => (show r = 2 ^ n from A0) ▸ hMr a ha
                all_goals have hst : ∀ z, (∃ a, a ∈ M ∧ ¬ L a ∧ ∃ y, y ∈ SL ∧ z = a &&& y) ↔ z ∈ stepL n M SL := fun z => ⟨fun ⟨a, h1, _, h2⟩ => (step_mem hMr2 z).2 ⟨a, h1, h2⟩, fun h => by obtain ⟨a, h1, h2⟩ := (step_mem hMr2 z).1 h; exact ⟨a, h1, hL0 a, h2⟩⟩
                all_goals have h9 : degGo n SL (9 - k) k M = degN n b c := A3
                all_goals rw [show 9 - k = (9 - (k + 1)) + 1 by omega, degGo] at h9
                · have hz : 0 ∈ stepL n M SL := (hst 0).1 (hc9.1 (by assumption))
                  rw [if_pos hz] at h9
                  go_ret
                  exact ⟨by rw [← h9]; rfl, hbel7⟩
                · have hz : ¬ 0 ∈ stepL n M SL := fun h => by
                    have h1 : c9 = true := hc9.2 ((hst 0).2 h)
                    have h2 : c9 = false := by assumption
                    rw [h1] at h2; cases h2
                  rw [if_neg hz] at h9
                  refine ⟨⟨k + 1, bn, 16 * NM, stepL n M SL, by omega, rfl, rfl, (hN1.congr hst).mono (by omega), ?_, by omega, fun a ha => ?_, h9, hsets7, hbel7⟩, ?_⟩
                  · rw [Nat.pow_succ 16 (k + 1)]; omega
                  · have := (List.mem_range.1 (List.mem_filter.1 ha).1); rw [show r = 2 ^ n from A0]; exact this
                  · simp [intOf]; omega
              · intro x cx w8 cnt8 hx16 hLx hxM hrg8 hlt8 hg8 hs8 hen8
                go_wp2_with (first
                  | (at_range; refine wpList_setRange rfl _ rfl (w.heap.size + 1) 16 _ rfl (hsets7.kept hg8 (by simp; omega)) ?_; intro w9 cnt9 hrg9 hcnt9 hg9 hs9)
                  | go_in)
                go_frame
                have hN9 := (hN1.kept hg8 (by simp)).kept hg9 (by simp)
                have hrgM9 := hrg8.kept hg9 (by simp) (by simp)
                have hbel9 := (hbel7.grown hg8 (by omega) (fun j hj => by cases hj; omega)).grown hg9 (by omega) (fun j hj => by cases hj)
                have hr2 : bn + 2 ≤ w8.heap.size := by omega
                clear hg9 hg8 hN1 hsets7 hbel7 hen8 hs8
                generalize hr2e : w8.heap.size = r2 at *
                go_loopw [12] (fun _ wz => ∃ (L2 : Nat → Prop) (cnt2 N2 : Nat), SetR wz (w.heap.size + 1) r2 16 (fun x => x ∈ SL) L2 cnt2 ∧ SetM wz bn N2 (fun z => (∃ a, a ∈ M ∧ ¬ L a ∧ ∃ y, y ∈ SL ∧ z = a &&& y) ∨ ∃ y, y ∈ SL ∧ ¬ L2 y ∧ z = x &&& y) ∧ N2 + cnt2 + 16 * cnt8 ≤ 16 * NM ∧
                    SetR wz bm (bn + 1) NM (fun x => x ∈ M) (fun y => L y ∧ y ≠ x) cnt8 ∧ Below w.heap.size w wz ∧ r2 + 1 ≤ wz.heap.size)
                  (fun _ wz => wz.rangeLeft (w.heap.size + 1) r2)
                case atStart => exact ⟨_, cnt9, N, hrg9, hN9.congr (fun z => ⟨Or.inl, fun h => h.elim id (fun ⟨y, h1, h2, _⟩ => absurd h1 h2)⟩), by omega, hrgM9, hbel9, by omega⟩
                case round =>
                  obtain ⟨L2, cnt2, N2, hrgS, hNz, hNz2, hrgMz, hbelz, hszz⟩ := hrel
                  have hN2m : N2 < maxLen := by unfold maxLen; omega
                  go_wp2_with (first
                    | (at_next; refine wpList_setNext rfl _ rfl (w.heap.size + 1) r2 16 (fun x => x ∈ SL) L2 cnt2 rfl hrgS ?_ ?_)
                    | go_in)
                  · intro hL2
                    go_wp2
                    refine ⟨⟨fun y => L y ∧ y ≠ x, cnt8, N2, hrgMz, hNz.congr (fun z => ?_), by omega, hrgS.set, hbelz, by omega⟩, ?_⟩
                    · constructor
                      · rintro (⟨a, h1, h2, h3⟩ | ⟨y, h1, _, h3⟩)
                        · exact ⟨a, h1, fun h => h2 h.1, h3⟩
                        · exact ⟨x, hxM, fun h => h.2 rfl, y, h1, h3⟩
                      · rintro ⟨a, h1, h2, y, h3, h4⟩
                        by_cases e : a = x
                        · subst e; exact Or.inr ⟨y, h3, hL2 y, h4⟩
                        · exact Or.inl ⟨a, h1, fun h => h2 ⟨h, e⟩, y, h3, h4⟩
                    · rw [hrgMz.left_eq, hrgM.left_eq]; exact hlt8
                  · intro y cy wy cnty hy16 hLy hyS hrgy hlty hgy hsy heny
                    go_wp2_with (first
                      | (at_mapUpdate; go_loud (refine wpList_setPut rfl _ _ rfl bn N2 _ rfl (hNz.kept hgy (by simp; omega)) hN2m (x &&& y) (and_val hx16 hy16) (and_lt hx16) ?_); intro wp hNp hgp)
                      | go_in)
                    have hgys := hgy.size
                    have hgps := hgp.size
                    have hrgy2 := hrgy.kept hgp (by simp; omega) (by simp; omega)
                    have hrgMy := (hrgMz.kept hgy (by simp; omega) (by simp; omega)).kept hgp (by simp; omega) (by simp)
                    refine ⟨⟨_, _, _, _, _, _, _, _, _, ⟨fun q => L2 q ∧ q ≠ y, cnty, N2 + 1, hrgy2, hNp.congr (fun z => ?_), by omega, hrgMy, ?_, by omega⟩, rfl⟩, ?_⟩
                    · constructor
                      · rintro ((h | ⟨q, h1, h2, h3⟩) | h)
                        · exact Or.inl h
                        · exact Or.inr ⟨q, h1, fun h => h2 h.1, h3⟩
                        · exact Or.inr ⟨y, hyS, fun h => h.2 rfl, h⟩
                      · rintro (h | ⟨q, h1, h2, h3⟩)
                        · exact Or.inl (Or.inl h)
                        · by_cases e : q = y
                          · subst e; exact Or.inr h3
                          · exact Or.inl (Or.inr ⟨q, h1, fun h => h2 ⟨h, e⟩, h3⟩)
                    · exact (hbelz.grown hgy (by omega) (fun j hj => by cases hj; omega)).grown hgp (by omega) (fun j hj => by cases hj; omega)
                    · rw [hrgy2.left_eq, hrgS.left_eq]; exact hlty
    · have hrlt : r < m := by omega
      go_wp2_with (first
        | (go_at_call 88; refine (at_calls _ n b r hb).mono ?_; rintro e w2 ⟨rfl, hbe2⟩;  have hbox3 := box_below hbe2 hbox; obtain ⟨hz0, hz1⟩ := box_cells hbox3)
        | (go_at_call 87; refine (hrows _).mono ?_; rintro e w3 ⟨rfl, hbe3⟩)
        | (at_mapUpdate; refine wpList_setPut rfl _ _ rfl (w.heap.size + 1) r _ rfl ((hset.kept (grown_of_below hbe2) (by simp)).kept (grown_of_below hbe3) (by simp)) (by unfold maxLen; omega) (m - 1 - r) (mr_cast hrlt) (by omega) ?_; intro w4 hset4 hg4)
        | (at_mapUpdate; refine wpList_setPut rfl _ _ rfl (w.heap.size + 1) r _ rfl (hset.kept (grown_of_below hbe2) (by simp)) (by unfold maxLen; omega) r rfl (by omega) ?_; intro w4 hset4 hg4)
        | go_in)
      · have h2 := hbe2.size
        have h3 := hbe3.size
        have h4 := hg4.size
        have hc0 : c = 0 := by
          have h : ((c : Int) == 0) = true := by assumption
          rw [beq_iff_eq] at h; omega
        refine ⟨⟨r + 1, by omega, rfl, deg_next (by rw [if_pos hc0, ← (show m = 2 ^ n from A0)]) (by assumption) hset4, ?_, ?_, by omega⟩, ?_⟩
        · rw [hg4.block _ (by omega) (by simp)]; exact box_below hbe3 hbox3
        · exact (((hbel.grown (grown_of_below hbe2) (by omega) (fun j hj => by cases hj)).grown (grown_of_below hbe3) (by omega) (fun j hj => by cases hj)).grown hg4 (by omega) (fun j hj => by cases hj; omega))
        · simp [intOf]; omega
      · have h2 := hbe2.size
        have h4 := hg4.size
        have hc0 : c ≠ 0 := by
          have h : ((c : Int) == 0) = false := by assumption
          rw [beq_eq_false_iff_ne] at h; omega
        refine ⟨⟨r + 1, by omega, rfl, deg_next (by rw [if_neg hc0]) (by assumption) hset4, ?_, ?_, by omega⟩, ?_⟩
        · rw [hg4.block _ (by omega) (by simp)]; exact hbox3
        · exact ((hbel.grown (grown_of_below hbe2) (by omega) (fun j hj => by cases hj)).grown hg4 (by omega) (fun j hj => by cases hj; omega))
        · simp [intOf]; omega
      · have h2 := hbe2.size
        refine ⟨⟨r + 1, by omega, rfl, (deg_same (by assumption) (hset.kept (grown_of_below hbe2) (by simp))).mono (by omega), hbox3, hbel.grown (grown_of_below hbe2) (by omega) (fun j hj => by cases hj), by omega⟩, ?_⟩
        simp [intOf]; omega
end Go.Proofs.YtfmenkglnkenpaaDoor.E
namespace Go.Proofs.YtfmenkglnkenpaaDoor.E
open Go Go.Proofs Go.Proofs.YtfmenkglnkenpaaDoor
set_option maxRecDepth 100000
set_option linter.unusedVariables false
noncomputable def s_l08Apart_j9 {R : Type} (K : Nat) (r : ((List Int) × Int × Int × Int × Int × Int × Unit) → Option Bool) (k : Nat) (v0 : (List Int)) (v1 : Int) (v2 : Int) (v3 : Int) (v5 : Int) (v13 : Int) (v14 : Int) (kn : (List Int) → Int → Int → Int → Int → Int → Option R) (kr : (Bool → Option R)) : Option R :=
    (r (v0, v1, v2, (IntKind.i64.wrap (v3 - (1 : Int))), (IntKind.i64.wrap (v13 + (1 : Int))), (bitI .and .i64 v5 v14), ())).bind fun y3 =>
    (if (!y3) = true then
    kr false
    else
    kn v0 v1 v2 v3 v5 v13)
noncomputable def s_l08Apart_l4 {R : Type} (K : Nat) (r : ((List Int) × Int × Int × Int × Int × Int × Unit) → Option Bool) : Nat → (List Int) → Int → Int → Int → Int → Int → (Option R) → (Bool → Option R) → Option R
  | 0, _, _, _, _, _, _, _, _ => none
  | k + 1, v0, v1, v2, v3, v5, v13, kx0, kr =>
    (if (decide (v13 < (v0.length : Int))) = true then
    (if (bnds v13 (v0.length : Int)) = true then
    (if (decide (v2 = (0 : Int))) = true then
    (s_l01Rows K (v1, ())).bind fun y1 =>
    let x2 := (IntKind.i64.wrap ((IntKind.i64.wrap (y1 - (1 : Int))) - (v0.getD v13.toNat (0 : Int))))
    s_l08Apart_j9 K r k v0 v1 v2 v3 v5 v13 x2 (fun z4 z5 z6 z7 z8 z9 =>
    s_l08Apart_l4 K r k z4 z5 z6 z7 z8 (IntKind.i64.wrap (z9 + (1 : Int))) kx0 kr) (fun z10 =>
    kr z10)
    else
    s_l08Apart_j9 K r k v0 v1 v2 v3 v5 v13 (v0.getD v13.toNat (0 : Int)) (fun z11 z12 z13 z14 z15 z16 =>
    s_l08Apart_l4 K r k z11 z12 z13 z14 z15 (IntKind.i64.wrap (z16 + (1 : Int))) kx0 kr) (fun z17 =>
    kr z17))
    else
    none)
    else
    kx0)
noncomputable def s_l08Apart_b (K : Nat) (r : ((List Int) × Int × Int × Int × Int × Int × Unit) → Option Bool) (x : ((List Int) × Int × Int × Int × Int × Int × Unit)) : Option Bool :=
    (if (decide (x.2.2.2.1 = (0 : Int))) = true then
    some (!decide (x.2.2.2.2.2.1 = (0 : Int)))
    else
    s_l08Apart_l4 K r K x.1 x.2.1 x.2.2.1 x.2.2.2.1 x.2.2.2.2.2.1 x.2.2.2.2.1 (some true) (fun z18 =>
    some z18))
noncomputable def s_l08Apart (K : Nat) : Nat → ((List Int) × Int × Int × Int × Int × Int × Unit) → Option Bool
  | 0 => fun _ => none
  | k + 1 => s_l08Apart_b K (s_l08Apart K k)
noncomputable def X0_s_l08Apart : Lv := []
noncomputable def rv_s_l08Apart : Lv := [(12, (.v .bool))]
noncomputable def D_s_l08Apart (K : Nat) (r : ((List Int) × Int × Int × Int × Int × Int × Unit) → Option Bool) : List (PD (den .bool)) := [.L 4 [(0, (.v (.sl (.int .i64)))), (1, (.v (.int .i64))), (2, (.v (.int .i64))), (3, (.v (.int .i64))), (5, (.v (.int .i64))), (13, (.v (.int .i64)))] [] (fun k x kx kr => s_l08Apart_l4 K r k x.1 x.2.1 x.2.2.1 x.2.2.2.1 x.2.2.2.2.1 x.2.2.2.2.2.1 (kx 0 (mkSt X0_s_l08Apart ())) (fun z0 => kr (mkSt rv_s_l08Apart (z0, ())))),
  .J 9 [(0, (.v (.sl (.int .i64)))), (1, (.v (.int .i64))), (2, (.v (.int .i64))), (3, (.v (.int .i64))), (5, (.v (.int .i64))), (13, (.v (.int .i64))), (14, (.v (.int .i64)))] [(0, (.v (.sl (.int .i64)))), (1, (.v (.int .i64))), (2, (.v (.int .i64))), (3, (.v (.int .i64))), (5, (.v (.int .i64))), (13, (.v (.int .i64)))] 0 (fun k x kn kx kr => s_l08Apart_j9 K r k x.1 x.2.1 x.2.2.1 x.2.2.2.1 x.2.2.2.2.1 x.2.2.2.2.2.1 x.2.2.2.2.2.2.1 (fun z0 z1 z2 z3 z4 z5 => kn (z0, z1, z2, z3, z4, z5, ())) (fun z0 => kr (mkSt rv_s_l08Apart (z0, ()))))]
theorem okb_s_l08Apart (K : Nat) (r : ((List Int) × Int × Int × Int × Int × Int × Unit) → Option Bool) (hr : FnOk Tryd.prog 58 (sp_s_l08Apart r)) : FnOk Tryd.prog 58 (sp_s_l08Apart (s_l08Apart_b K r)) :=
  fn_okD tysOk [C_s_l01Rows K, .f _ (sp_s_l08Apart (r)) (hr)] 0 (D_s_l08Apart K r) [(0, X0_s_l08Apart)] rv_s_l08Apart K Tryd.func58 (by kernel_rfl) ⟨⟨fun _ _ _ _ => by kernel_rfl, fun _ _ _ => rfl⟩, ⟨fun _ _ _ _ _ => by kernel_rfl, trivial⟩⟩ (fun _ => by kernel_rfl)
theorem ok_s_l08Apart (K : Nat) : ∀ k, FnOk Tryd.prog 58 (sp_s_l08Apart (s_l08Apart K k))
  | 0 => fnOk_none
  | k + 1 => okb_s_l08Apart K (s_l08Apart K k) (ok_s_l08Apart K k)
noncomputable def as_s_l08Degree : Ty := (.pair tq0 (.pair (.int .i64) .unit))
noncomputable def sp_s_l08Degree (F : (dq0 × Int × Unit) → Option Int) : FnSpec := ⟨as_s_l08Degree, [false, false], (.int .i64), F⟩
noncomputable def s_l08Degree_l3 {R : Type} (K : Nat) : Nat → Int → dq0 → (List Int) → Int → (Int → dq0 → (List Int) → Option R) → Option R
  | 0, _, _, _, _, _ => none
  | k + 1, v1, v2, v5, v6, kx0 =>
    (s_l01Rows K (v2.1, ())).bind fun y2 =>
    (if (decide (v6 < y2)) = true then
    (s_l01At K (v2, v6, ())).bind fun y3 =>
    (if (decide (y3 = v1)) = true then
    (if (decide (v5.length + ([v6]).length ≤ lim)) = true then
    let l4 := (v5 ++ [v6])
    s_l08Degree_l3 K k v1 v2 l4 (IntKind.i64.wrap (v6 + (1 : Int))) kx0
    else
    none)
    else
    s_l08Degree_l3 K k v1 v2 v5 (IntKind.i64.wrap (v6 + (1 : Int))) kx0)
    else
    kx0 v1 v2 v5)
noncomputable def s_l08Degree_l8 {R : Type} (K : Nat) : Nat → Int → dq0 → (List Int) → Int → (Option R) → (Int → Option R) → Option R
  | 0, _, _, _, _, _, _ => none
  | k + 1, v1, v2, v5, v7, kx2, kr =>
    (if (decide (v7 ≤ (minL (v5.length : Int) [(4 : Int)]))) = true then
    (s_l01Rows K (v2.1, ())).bind fun y8 =>
    (s_l08Apart K K (v5, v2.1, v1, v7, (0 : Int), (IntKind.i64.wrap (y8 - (1 : Int))), ())).bind fun y9 =>
    (if (!y9) = true then
    kr (IntKind.i64.wrap (v7 - (1 : Int)))
    else
    s_l08Degree_l8 K k v1 v2 v5 (IntKind.i64.wrap (v7 + (1 : Int))) kx2 kr)
    else
    kx2)
noncomputable def s_l08Degree (K : Nat) (x : (dq0 × Int × Unit)) : Option Int :=
    let l1 := ([] : List Int)
    s_l08Degree_l3 K K x.2.1 x.1 l1 (0 : Int) (fun z5 z6 z7 =>
    s_l08Degree_l8 K K z5 z6 z7 (1 : Int) (some (9 : Int)) (fun z10 =>
    some z10))
noncomputable def X0_s_l08Degree : Lv := [(1, (.v (.int .i64))), (2, (.bx (.v tq0))), (5, (.r (.int .i64)))]
noncomputable def X2_s_l08Degree : Lv := []
noncomputable def rv_s_l08Degree : Lv := [(4, (.v (.int .i64)))]
noncomputable def D_s_l08Degree (K : Nat) : List (PD (den (.int .i64))) := [.L 3 [(1, (.v (.int .i64))), (2, (.bx (.v tq0))), (5, (.r (.int .i64))), (6, (.v (.int .i64)))] [] (fun k x kx kr => s_l08Degree_l3 K k x.1 x.2.1 x.2.2.1 x.2.2.2.1 (fun z0 z1 z2 => kx 0 (mkSt X0_s_l08Degree (z0, z1, z2, ())))),
  .L 8 [(1, (.v (.int .i64))), (2, (.bx (.v tq0))), (5, (.r (.int .i64))), (7, (.v (.int .i64)))] [] (fun k x kx kr => s_l08Degree_l8 K k x.1 x.2.1 x.2.2.1 x.2.2.2.1 (kx 2 (mkSt X2_s_l08Degree ())) (fun z0 => kr (mkSt rv_s_l08Degree (z0, ()))))]
theorem ok_s_l08Degree (K : Nat) : FnOk Tryd.prog 27 (sp_s_l08Degree (s_l08Degree K)) :=
  fn_okD tysOk [C_s_l01Rows K, C_s_l01At K, .f _ (sp_s_l08Apart (s_l08Apart K K)) (ok_s_l08Apart K K)] 0 (D_s_l08Degree K) [(0, X0_s_l08Degree), (2, X2_s_l08Degree)] rv_s_l08Degree K Tryd.func27 (by kernel_rfl) ⟨⟨fun _ _ _ _ => by kernel_rfl, fun _ _ _ => rfl⟩, ⟨⟨fun _ _ _ _ => by kernel_rfl, fun _ _ _ => rfl⟩, trivial⟩⟩ (fun _ => by kernel_rfl)
noncomputable def C_s_l08Degree (K : Nat) : CB Tryd.prog := .f _ _ (ok_s_l08Degree K)
end Go.Proofs.YtfmenkglnkenpaaDoor.E
namespace Go.Proofs.YtfmenkglnkenpaaDoor.E
open Go Go.Proofs
set_option linter.unusedVariables false
variable {K : Nat} {R : Type}
/-! degrees: the spec's way and the program's way -/
def andL (full : Nat) (ys : List Nat) : Nat := ys.foldl (· &&& ·) full
def apart : List Nat → Nat → Nat → Bool
  | _, 0, left => left != 0
  | [], _ + 1, _ => true
  | x :: S, k + 1, left => apart S k (left &&& x) && apart S (k + 1) left
theorem apart_iff : ∀ (S : List Nat) (k left : Nat), apart S k left = false ↔ ∃ zs, List.Sublist zs S ∧ zs.length = k ∧ andL left zs = 0
  | S, 0, left => by
    rw [apart]
    constructor
    · intro h; exact ⟨[], List.nil_sublist _, rfl, by simpa [andL] using h⟩
    · rintro ⟨zs, _, h1, h2⟩
      rw [List.length_eq_zero_iff.1 h1] at h2
      simpa [andL] using h2
  | [], k + 1, left => by
    rw [apart]
    constructor
    · intro h; cases h
    · rintro ⟨zs, h0, h1, h2⟩
      rw [List.sublist_nil.1 h0] at h1; cases h1
  | x :: S, k + 1, left => by
    rw [apart, Bool.and_eq_false_iff, apart_iff S k, apart_iff S (k + 1)]
    constructor
    · rintro (⟨zs, h0, h1, h2⟩ | ⟨zs, h0, h1, h2⟩)
      · exact ⟨x :: zs, h0.cons_cons x, by simp [h1], by simpa [andL] using h2⟩
      · exact ⟨zs, h0.cons x, h1, h2⟩
    · rintro ⟨zs, h0, h1, h2⟩
      cases h0 with
      | cons _ h => exact Or.inr ⟨zs, h, h1, h2⟩
      | cons_cons _ h => exact Or.inl ⟨_, h, by simpa using h1, by simpa [andL] using h2⟩
/-- the iterated meets -/
def meets (n : Nat) (S : List Nat) : Nat → List Nat
  | 0 => [2 ^ n - 1]
  | j + 1 => stepL n (meets n S j) S
theorem meets_lt {n : Nat} {S : List Nat} : ∀ j, ∀ a ∈ meets n S j, a < 2 ^ n
  | 0, a, h => by
    have := Nat.two_pow_pos n
    simp [meets] at h; omega
  | j + 1, a, h => List.mem_range.1 (List.mem_filter.1 h).1
theorem andL_snoc (f : Nat) (ys : List Nat) (y : Nat) : andL f (ys ++ [y]) = andL f ys &&& y := by simp [andL]
theorem mem_meets {n : Nat} {S : List Nat} : ∀ j z, z ∈ meets n S j ↔ ∃ ys : List Nat, (∀ y ∈ ys, y ∈ S) ∧ ys.length = j ∧ andL (2 ^ n - 1) ys = z
  | 0, z => by
    simp only [meets, List.mem_singleton]
    constructor
    · rintro rfl; exact ⟨[], by simp, rfl, rfl⟩
    · rintro ⟨ys, _, h1, h2⟩
      rw [List.length_eq_zero_iff.1 h1] at h2; exact h2.symm
  | j + 1, z => by
    rw [meets, step_mem (meets_lt j)]
    constructor
    · rintro ⟨a, ha, y, hy, rfl⟩
      obtain ⟨ys, h0, h1, h2⟩ := (mem_meets j a).1 ha
      refine ⟨ys ++ [y], ?_, by simp [h1], by rw [andL_snoc, h2]⟩
      intro q hq
      rcases List.mem_append.1 hq with h | h
      · exact h0 q h
      · rw [List.mem_singleton.1 h]; exact hy
    · rintro ⟨ys, h0, h1, h2⟩
      rcases List.eq_nil_or_concat ys with rfl | ⟨l, y, rfl⟩
      · cases h1
      · rw [List.concat_eq_append] at h0 h1 h2
        rw [andL_snoc] at h2
        refine ⟨andL (2 ^ n - 1) l, (mem_meets j _).2 ⟨l, fun q hq => h0 q (List.mem_append.2 (Or.inl hq)), by simpa using h1, rfl⟩, y, h0 y (by simp), h2.symm⟩
theorem degGo_meets {n : Nat} {S : List Nat} : ∀ (f k : Nat), f + k = 9 → degGo n S f k (meets n S k) = ((List.range' (k + 1) f).find? fun j => decide (0 ∈ meets n S j)).elim 9 (· - 1)
  | 0, k, h => by simp [degGo]
  | f + 1, k, h => by
    rw [degGo, List.range'_succ, List.find?_cons]
    change (if 0 ∈ meets n S (k + 1) then k else degGo n S f (k + 1) (meets n S (k + 1))) = _
    by_cases e : 0 ∈ meets n S (k + 1)
    · simp [e]
    · rw [if_neg e, degGo_meets f (k + 1) (by omega)]; simp [e]
theorem nodup_le : ∀ (l T : List Nat), l.Nodup → (∀ x ∈ l, x ∈ T) → l.length ≤ T.length
  | [], T, _, _ => by simp
  | x :: l, T, hn, hs => by
    have hx : x ∈ T := hs x (by simp)
    have := nodup_le l (T.erase x) (List.nodup_cons.1 hn).2 (fun y hy => by
      have hne : y ≠ x := fun e => (List.nodup_cons.1 hn).1 (e ▸ hy)
      exact (List.mem_erase_of_ne hne).2 (hs y (by simp [hy])))
    have h2 := List.length_erase_of_mem hx
    have h3 : 0 < T.length := List.length_pos_of_mem hx
    simp only [List.length_cons]; omega
theorem andL_bit (v : Nat) : ∀ (ys : List Nat) (f : Nat), (andL f ys).testBit v = (f.testBit v && ys.all (·.testBit v))
  | [], f => by simp [andL]
  | y :: ys, f => by
    show (andL (f &&& y) ys).testBit v = _
    rw [andL_bit v ys, Nat.testBit_and]; simp [Bool.and_assoc]
/-- If the sets of a list have nothing in common, at most n of them have. -/
theorem helly {n : Nat} {ys : List Nat} (h : andL (2 ^ n - 1) ys = 0) : ∃ T : List Nat, (∀ y ∈ T, y ∈ ys) ∧ T.length ≤ n ∧ ∀ v, v < n → ∃ y ∈ T, y.testBit v = false := by
  have key : ∀ m, m ≤ n → ∃ T : List Nat, (∀ y ∈ T, y ∈ ys) ∧ T.length ≤ m ∧ ∀ v, v < m → ∃ y ∈ T, y.testBit v = false := by
    intro m
    induction m with
    | zero => intro _; exact ⟨[], by simp, by simp, fun v hv => by omega⟩
    | succ m ih =>
      intro hm
      obtain ⟨T, h1, h2, h3⟩ := ih (by omega)
      have hb := andL_bit m ys (2 ^ n - 1)
      rw [h, Nat.zero_testBit, Nat.testBit_two_pow_sub_one, decide_eq_true (show m < n by omega), Bool.true_and] at hb
      obtain ⟨y, hy, hy2⟩ := List.all_eq_false.1 hb.symm
      refine ⟨y :: T, ?_, by simp; omega, fun v hv => ?_⟩
      · intro q hq
        rcases List.mem_cons.1 hq with rfl | hq
        · exact hy
        · exact h1 q hq
      · by_cases e : v = m
        · subst e; exact ⟨y, by simp, by simpa using hy2⟩
        · obtain ⟨q, hq, hq2⟩ := h3 v (by omega)
          exact ⟨q, by simp [hq], hq2⟩
  exact key n (Nat.le_refl n)
theorem andL_zero {n : Nat} {ys : List Nat} (h : ∀ v, v < n → ∃ y ∈ ys, y.testBit v = false) : andL (2 ^ n - 1) ys = 0 := by
  apply Nat.eq_of_testBit_eq
  intro v
  rw [andL_bit, Nat.zero_testBit, Nat.testBit_two_pow_sub_one]
  by_cases hv : v < n
  · obtain ⟨y, hy, e⟩ := h v hv
    have : ys.all (·.testBit v) = false := List.all_eq_false.2 ⟨y, hy, by simp [e]⟩
    simp [this]
  · simp [hv]
theorem mem_sub {n : Nat} {S ys : List Nat} (hS : S.Nodup) (hs : ∀ y ∈ ys, y ∈ S) (hn : n ≤ 4) (h : andL (2 ^ n - 1) ys = 0) : ∃ zs, List.Sublist zs S ∧ zs.length ≤ ys.length ∧ zs.length ≤ 4 ∧ andL (2 ^ n - 1) zs = 0 := by
  have fin : ∀ T : List Nat, (∀ y ∈ T, y ∈ ys) → (∀ v, v < n → ∃ y ∈ T, y.testBit v = false) → ∃ zs, List.Sublist zs S ∧ zs.length ≤ T.length ∧ andL (2 ^ n - 1) zs = 0 := by
    intro T h1 h2
    refine ⟨S.filter (fun y => decide (y ∈ T)), List.filter_sublist, nodup_le _ _ (hS.filter _) (fun x hx => by simpa using (List.mem_filter.1 hx).2), andL_zero fun v hv => ?_⟩
    obtain ⟨y, hy, e⟩ := h2 v hv
    exact ⟨y, List.mem_filter.2 ⟨hs y (h1 y hy), by simpa using hy⟩, e⟩
  by_cases hl : ys.length ≤ 4
  · obtain ⟨T, h1, h2, h3⟩ := helly h
    obtain ⟨zs, a, b, c⟩ := fin ys (fun _ h => h) (fun v hv => let ⟨y, hy, e⟩ := h3 v hv; ⟨y, h1 y hy, e⟩)
    exact ⟨zs, a, b, by omega, c⟩
  · obtain ⟨T, h1, h2, h3⟩ := helly h
    obtain ⟨zs, a, b, c⟩ := fin T h1 h3
    exact ⟨zs, a, by omega, by omega, c⟩
theorem deg_plain {n : Nat} (hn : n ≤ 4) {S : List Nat} (hS : S.Nodup) :
    (if S = [] then 9 else degGo n S 9 0 [2 ^ n - 1]) = ((List.range' 1 (min S.length 4)).find? fun j => !apart S j (2 ^ n - 1)).elim 9 (· - 1) := by
  by_cases h0 : S = []
  · rw [if_pos h0, h0]; rfl
  · rw [if_neg h0]
    obtain ⟨y0, hy0⟩ : ∃ y, y ∈ S := List.exists_mem_of_ne_nil S h0
    refine (degGo_meets (n := n) (S := S) 9 0 rfl).trans ?_
    have back : ∀ j, 1 ≤ j → 0 ∈ meets n S j → ∃ i, 1 ≤ i ∧ i ≤ j ∧ i ≤ 4 ∧ i ≤ S.length ∧ apart S i (2 ^ n - 1) = false := by
      intro j hj h
      obtain ⟨ys, h1, h2, h3⟩ := (mem_meets j 0).1 h
      obtain ⟨zs, a, b, c, d⟩ := mem_sub hS h1 hn h3
      by_cases hz : zs.length = 0
      · rw [List.length_eq_zero_iff.1 hz] at d
        have d : 2 ^ n - 1 = 0 := d
        refine ⟨1, Nat.le_refl _, hj, by decide, List.length_pos_of_mem hy0, (apart_iff S 1 _).2 ⟨[y0], List.singleton_sublist.2 hy0, rfl, ?_⟩⟩
        rw [d]; simp [andL]
      · exact ⟨zs.length, by omega, by omega, c, a.length_le, (apart_iff S _ _).2 ⟨zs, a, rfl, d⟩⟩
    have forth : ∀ j, apart S j (2 ^ n - 1) = false → 0 ∈ meets n S j := by
      intro j h
      obtain ⟨zs, a, b, c⟩ := (apart_iff S j _).1 h
      exact (mem_meets j 0).2 ⟨zs, fun y hy => a.subset hy, b, c⟩
    cases hP : (List.range' (0 + 1) 9).find? fun j => decide (0 ∈ meets n S j) with
    | none =>
      have hq : (List.range' 1 (min S.length 4)).find? (fun j => !apart S j (2 ^ n - 1)) = none := by
        rw [List.find?_eq_none] at hP ⊢
        intro j hj h
        rw [List.mem_range'_1] at hj
        refine hP j (List.mem_range'_1.2 ⟨by omega, by omega⟩) (decide_eq_true (forth j (by simpa using h)))
      rw [hq]
    | some j0 =>
      rw [List.find?_range'_eq_some] at hP
      obtain ⟨p1, p2, p3⟩ := hP
      rw [List.mem_range'_1] at p2
      have hmin : ∀ i, 1 ≤ i → i < j0 → ¬ apart S i (2 ^ n - 1) = false := fun i h1 h2 h => by
        have := p3 i h1 h2
        simp [forth i h] at this
      obtain ⟨i, h1, h2, h3, h4, h5⟩ := back j0 (by omega) (of_decide_eq_true p1)
      have hi : i = j0 := Nat.le_antisymm h2 (by
        rcases Nat.lt_or_ge i j0 with h | h
        · exact absurd h5 (hmin i h1 h)
        · exact h)
      subst hi
      have hq : (List.range' 1 (min S.length 4)).find? (fun j => !apart S j (2 ^ n - 1)) = some i := by
        rw [List.find?_range'_eq_some]
        refine ⟨by simp [h5], List.mem_range'_1.2 ⟨by omega, by omega⟩, fun k hk1 hk2 => ?_⟩
        have := hmin k hk1 hk2
        simpa using this
      rw [hq]
/-- the rows with the value c -/
def rowsL (b c m : Nat) : List Nat := (List.range m).filter fun r => (b.testBit r).toNat == c
def ints (l : List Nat) : List Int := l.map fun x => ((x : Nat) : Int)
theorem bt_decN (b r c : Nat) : decide (bt b r = (c : Int)) = ((b.testBit r).toNat == c) := by
  rw [Bool.eq_iff_iff]
  unfold bt
  cases b.testBit r <;> simp <;> omega
theorem s_l08Degree_l3_eq {n b c : Nat} {u1 u2 : Unit} (hn : n ≤ 4) (hb : b < 9223372036854775808) (kx : Int → (Int × Int × Unit) → List Int → Option R) :
    ∀ (m i k : Nat), i + m = 2 ^ n → m < k → s_l08Degree_l3 K k (c : Int) ((n : Int), (b : Int), u1) (ints (rowsL b c i)) (i : Int) kx = kx (c : Int) ((n : Int), (b : Int), u1) (ints (rowsL b c (2 ^ n)))
  | m, i, 0, _, h => by omega
  | 0, i, k + 1, e, _ => by
    have hp : 2 ^ n ≤ 16 := Nat.pow_le_pow_right (by decide) hn
    simp only [s_l08Degree_l3, s_l01Rows_eq (show n < 63 by omega), some_bind']
    rw [ite_f (decide_eq_false (by omega)), show i = 2 ^ n by omega]
  | m + 1, i, k + 1, e, h => by
    have hp : 2 ^ n ≤ 16 := Nat.pow_le_pow_right (by decide) hn
    have ih := s_l08Degree_l3_eq hn hb kx (u1 := u1) (u2 := u2) (c := c) m (i + 1) k (by omega) (by omega)
    have hl : (rowsL b c i).length ≤ 16 := Nat.le_trans (List.length_filter_le _ _) (by rw [List.length_range]; omega)
    have hr : rowsL b c (i + 1) = rowsL b c i ++ if ((b.testBit i).toNat == c) = true then [i] else [] := by
      rw [rowsL, List.range_succ, List.filter_append]
      cases h : ((b.testBit i).toNat == c) <;> simp [rowsL, List.filter, h]
    simp only [s_l08Degree_l3, s_l01Rows_eq (show n < 63 by omega), some_bind']
    rw [ite_t (decide_eq_true (by omega)), s_l01At_eq hb (by omega), some_bind', bt_decN]
    cases hc : ((b.testBit i).toNat == c) with
    | false =>
      rw [hc] at hr
      rw [ite_f rfl, w64s (by omega), ← ih, hr]; simp
    | true =>
      rw [hc] at hr
      rw [ite_t rfl, ite_t (lim_len (by simp [ints]; omega)), w64s (by omega), ← ih, hr]; simp [ints]
def ownR (n c r : Nat) : Nat := if c = 0 then 2 ^ n - 1 - r else r
theorem ownR_lt {n c r : Nat} (h : r < 2 ^ n) : ownR n c r < 2 ^ n := by unfold ownR; split <;> omega
theorem apart_l4_eq {n c k0 : Nat} (hn : n ≤ 4) {rows : List Nat} (hr : ∀ r ∈ rows, r < 2 ^ n) (hl : rows.length ≤ 16) (hk : k0 < 100) {rc : ((List Int) × Int × Int × Int × Int × Int × Unit) → Option Bool}
    (hrc : ∀ i left : Nat, i ≤ rows.length → left < 2 ^ n → rc (ints rows, (n : Int), (c : Int), (k0 : Int), (i : Int), (left : Int), ()) = some (apart ((rows.drop i).map (ownR n c)) k0 left)) (left : Nat) (hleft : left < 2 ^ n) (kx0 : Option R) (kr : Bool → Option R) :
    ∀ (q p : List Nat) (k : Nat), rows = p ++ q → q.length < k → s_l08Apart_l4 K rc k (ints rows) (n : Int) (c : Int) ((k0 + 1 : Nat) : Int) (left : Int) (p.length : Int) kx0 kr = if apart (q.map (ownR n c)) (k0 + 1) left then kx0 else kr false
  | _, _, 0, _, h => by omega
  | [], p, k + 1, e, _ => by
    have hlen : (ints rows).length = p.length := by rw [e]; simp [ints]
    rw [s_l08Apart_l4, hlen, ite_f (by simp)]
    simp [apart]
  | x :: q, p, k + 1, e, h => by
    have hp16 : 2 ^ n ≤ 16 := Nat.pow_le_pow_right (by decide) hn
    have hlr : rows.length = p.length + (q.length + 1) := by rw [e]; simp
    have hx : x < 2 ^ n := hr x (by rw [e]; simp)
    have hlen : (ints rows).length = rows.length := by simp [ints]
    have hg : (ints rows).getD (p.length : Int).toNat (0 : Int) = (x : Int) := by rw [e]; simp [ints]
    have hd : rows.drop (p.length + 1) = q := by rw [e]; simp [List.drop_append]
    have ih := apart_l4_eq hn hr hl hk hrc left hleft kx0 kr (q := q) (p := p ++ [x]) (k := k) (by rw [e]; simp) (by simp at h; omega)
    have hj : ∀ o : Nat, o = ownR n c x → (rc (ints rows, (n : Int), (c : Int), IntKind.i64.wrap (((k0 + 1 : Nat) : Int) - 1), IntKind.i64.wrap ((p.length : Int) + 1), bitI .and .i64 (left : Int) (o : Int), ())) = some (apart (q.map (ownR n c)) k0 (left &&& ownR n c x)) := by
      intro o ho
      have hol : o < 2 ^ n := ho ▸ ownR_lt hx
      rw [show (((k0 + 1 : Nat) : Int) - 1) = (k0 : Int) by omega, w64n (by omega), w64s (by omega), bitI_and (by omega) (by omega), hrc _ _ (by omega) (Nat.lt_of_le_of_lt Nat.and_le_left hleft), hd, ho]
    have fin : ∀ o : Nat, o = ownR n c x → s_l08Apart_j9 K rc k (ints rows) (n : Int) (c : Int) ((k0 + 1 : Nat) : Int) (left : Int) (p.length : Int) (o : Int) (fun z4 z5 z6 z7 z8 z9 => s_l08Apart_l4 K rc k z4 z5 z6 z7 z8 (IntKind.i64.wrap (z9 + (1 : Int))) kx0 kr) (fun z10 => kr z10) = if apart ((x :: q).map (ownR n c)) (k0 + 1) left then kx0 else kr false := by
      intro o ho
      rw [s_l08Apart_j9, hj o ho, some_bind', List.map_cons, apart]
      cases ha : apart (q.map (ownR n c)) k0 (left &&& ownR n c x) with
      | false => rw [ite_t (c := !false) rfl, Bool.false_and]; rfl
      | true =>
        rw [ite_f (c := !true) rfl, Bool.true_and]
        have := ih
        rw [show ((p ++ [x]).length : Int) = ((p.length + 1 : Nat) : Int) by simp] at this
        rw [w64s (by omega)]; exact this
    rw [s_l08Apart_l4, ite_t (by rw [hlen]; exact decide_eq_true (by omega)), ite_t (by rw [hlen]; exact bnds_n (by omega))]
    by_cases hc : c = 0
    · rw [ite_t (decide_eq_true (by omega)), s_l01Rows_eq (show n < 63 by omega), some_bind', hg]
      have ho : ((2 ^ n - 1 - x : Nat) : Int) = IntKind.i64.wrap (IntKind.i64.wrap (((2 ^ n : Nat) : Int) - 1) - (x : Int)) := by
        rw [w64 (x := ((2 ^ n : Nat) : Int) - 1) (by omega) (by omega), w64 (by omega) (by omega)]; omega
      show s_l08Apart_j9 K rc k (ints rows) (n : Int) (c : Int) ((k0 + 1 : Nat) : Int) (left : Int) (p.length : Int) (IntKind.i64.wrap (IntKind.i64.wrap (((2 ^ n : Nat) : Int) - 1) - (x : Int))) _ _ = _
      rw [← ho]
      exact fin _ (by rw [ownR, if_pos hc])
    · rw [ite_f (decide_eq_false (by omega)), hg]
      exact fin x (by rw [ownR, if_neg hc])
theorem s_l08Apart_eq {n c : Nat} (hn : n ≤ 4) {rows : List Nat} (hr : ∀ r ∈ rows, r < 2 ^ n) (hl : rows.length ≤ 16) (hK : 100 ≤ K) :
    ∀ (k f i left : Nat), k < f → k < 100 → i ≤ rows.length → left < 2 ^ n → s_l08Apart K f (ints rows, (n : Int), (c : Int), (k : Int), (i : Int), (left : Int), ()) = some (apart ((rows.drop i).map (ownR n c)) k left)
  | _, 0, _, _, h, _, _, _ => by omega
  | 0, f + 1, i, left, _, _, _, _ => by
    simp only [s_l08Apart, s_l08Apart_b, apart]
    rw [ite_t (by simp)]
    congr 1
    rw [Bool.eq_iff_iff]; simp
  | k + 1, f + 1, i, left, h, h2, h3, h4 => by
    simp only [s_l08Apart, s_l08Apart_b]
    rw [ite_f (decide_eq_false (by omega))]
    have := apart_l4_eq (K := K) (c := c) hn hr hl (show k < 100 by omega) (rc := s_l08Apart K f) (fun i left h5 h6 => s_l08Apart_eq (c := c) hn hr hl hK k f i left (by omega) (by omega) h5 h6) left h4 (some true) (fun z => some z) (rows.drop i) (rows.take i) K (List.take_append_drop i rows).symm (by rw [List.length_drop]; omega)
    rw [List.length_take, Nat.min_eq_left h3] at this
    refine this.trans ?_
    cases apart ((rows.drop i).map (ownR n c)) (k + 1) left <;> rfl
theorem degS_nodup (n b c m : Nat) (hm : m ≤ 2 ^ n) : (degS n b c m).Nodup := by
  unfold degS List.Nodup
  rw [List.pairwise_map]
  refine (List.nodup_range.filter _).imp_of_mem fun {a b} ha hb hne => ?_
  have h1 := List.mem_range.1 (List.mem_filter.1 ha).1
  have h2 := List.mem_range.1 (List.mem_filter.1 hb).1
  intro e
  apply hne
  split at e <;> omega
theorem degS_rows (n b c m : Nat) : degS n b c m = (rowsL b c m).map (ownR n c) := rfl
theorem minL4 (n : Nat) : minL (n : Int) [(4 : Int)] = ((min n 4 : Nat) : Int) := by
  simp only [minL]; omega
theorem s_l08Degree_l8_eq {n b c : Nat} {u : Unit} (hn : n ≤ 4) (hK : 100 ≤ K) (kx : Option R) (kr : Int → Option R) :
    ∀ (m j k : Nat), j + m = min (rowsL b c (2 ^ n)).length 4 + 1 → m < k → s_l08Degree_l8 K k (c : Int) ((n : Int), (b : Int), u) (ints (rowsL b c (2 ^ n))) (j : Int) kx kr =
      ((List.range' j m).find? fun i => !apart (degS n b c (2 ^ n)) i (2 ^ n - 1)).elim kx (fun i => kr (IntKind.i64.wrap ((i : Int) - 1)))
  | m, j, 0, _, h => by omega
  | 0, j, k + 1, e, _ => by
    have hlen : ((ints (rowsL b c (2 ^ n))).length : Int) = ((rowsL b c (2 ^ n)).length : Int) := by simp [ints]
    rw [s_l08Degree_l8, hlen, minL4, ite_f (decide_eq_false (by omega))]
    rfl
  | m + 1, j, k + 1, e, h => by
    have hp : 2 ^ n ≤ 16 := Nat.pow_le_pow_right (by decide) hn
    have hp1 : 1 ≤ 2 ^ n := Nat.one_le_two_pow
    have hl : (rowsL b c (2 ^ n)).length ≤ 16 := Nat.le_trans (List.length_filter_le _ _) (by rw [List.length_range]; omega)
    have hlen : ((ints (rowsL b c (2 ^ n))).length : Int) = ((rowsL b c (2 ^ n)).length : Int) := by simp [ints]
    have ih := s_l08Degree_l8_eq (b := b) (c := c) (u := u) hn hK kx kr m (j + 1) k (by omega) (by omega)
    have ha := s_l08Apart_eq (K := K) (c := c) hn (rows := rowsL b c (2 ^ n)) (fun r hr => List.mem_range.1 (List.mem_filter.1 hr).1) hl hK j K 0 (2 ^ n - 1) (by omega) (by omega) (by omega) (by omega)
    rw [s_l08Degree_l8, hlen, minL4, ite_t (decide_eq_true (by omega)), s_l01Rows_eq (show n < 63 by omega), some_bind', w64 (by omega) (by omega), show (((2 ^ n : Nat) : Int) - 1) = ((2 ^ n - 1 : Nat) : Int) by omega]
    rw [show (0 : Int) = ((0 : Nat) : Int) from rfl, ha, some_bind', List.drop_zero, ← degS_rows, List.range'_succ, List.find?_cons]
    cases hq : apart (degS n b c (2 ^ n)) j (2 ^ n - 1) with
    | false => rw [ite_t (c := !false) rfl]; rfl
    | true => rw [ite_f (c := !true) rfl, w64s (by omega)]; exact ih
/-- The spec's degree is the program's. -/
theorem s_l08Degree_eq {n b c : Nat} (hn : n ≤ 4) (hb : b < 9223372036854775808) (hK : 100 ≤ K) : s_l08Degree K (((n : Int), (b : Int), ()), (c : Int), ()) = some ((degN n b c : Nat) : Int) := by
  have hp : 2 ^ n ≤ 16 := Nat.pow_le_pow_right (by decide) hn
  simp only [s_l08Degree]
  refine (s_l08Degree_l3_eq (K := K) (u1 := ()) (u2 := ()) (n := n) (b := b) (c := c) hn hb _ (2 ^ n) 0 K (by omega) (by omega)).trans ?_
  refine (s_l08Degree_l8_eq (K := K) (u := ()) hn hK _ _ (min (rowsL b c (2 ^ n)).length 4) 1 K (by omega) (by omega)).trans ?_
  have h := deg_plain hn (degS_nodup n b c (2 ^ n) (Nat.le_refl _))
  have hl : (degS n b c (2 ^ n)).length = (rowsL b c (2 ^ n)).length := by rw [degS_rows, List.length_map]
  rw [hl] at h
  rw [degN, h]
  cases hf : (List.range' 1 (min (rowsL b c (2 ^ n)).length 4)).find? fun i => !apart (degS n b c (2 ^ n)) i (2 ^ n - 1) with
  | none => rfl
  | some i =>
    have := (List.mem_range'_1.1 (List.mem_of_find?_eq_some hf))
    show some (IntKind.i64.wrap ((i : Int) - 1)) = some (((i - 1 : Nat)) : Int)
    rw [w64 (by omega) (by omega)]; congr 1; omega
end Go.Proofs.YtfmenkglnkenpaaDoor.E
namespace Go.Proofs.YtfmenkglnkenpaaDoor.E
open Go Go.Proofs Go.Proofs.YtfmenkglnkenpaaDoor
set_option maxRecDepth 100000
set_option linter.unusedVariables false
noncomputable def as_i_Func_dual_c1 : Ty := (.pair (.int .i64) (.pair (.ptr tq0) .unit))
noncomputable def sp_i_Func_dual_c1 (F : (Int × dq0 × Unit) → Option Int) : FnSpec := ⟨as_i_Func_dual_c1, [false, false], (.int .i64), F⟩
noncomputable def i_Func_dual_c1 (K : Nat) (x : (Int × dq0 × Unit)) : Option Int :=
    (i_Func_rows K (x.2.1, ())).bind fun y1 =>
    let x2 := (IntKind.i64.wrap ((IntKind.i64.wrap (y1 - (1 : Int))) - x.1))
    (i_Func_at K (x.2.1, x2, ())).bind fun y3 =>
    some (IntKind.i64.wrap ((1 : Int) - y3))
noncomputable def rv_i_Func_dual_c1 : Lv := [(3, (.v (.int .i64)))]
theorem ok_i_Func_dual_c1 (K : Nat) : FnOk Tryd.prog 100 (sp_i_Func_dual_c1 (i_Func_dual_c1 K)) :=
  fn_okD tysOk [C_i_Func_rows K, C_i_Func_at K] 0 [] [] rv_i_Func_dual_c1 K Tryd.func100 (by kernel_rfl) trivial (fun _ => by kernel_rfl)
noncomputable def C_i_Func_dual_c1 (K : Nat) : CB Tryd.prog := .f _ _ (ok_i_Func_dual_c1 K)
noncomputable def as_i_Func_dual : Ty := (.pair tq0 .unit)
noncomputable def sp_i_Func_dual (F : (dq0 × Unit) → Option dq0) : FnSpec := ⟨as_i_Func_dual, [false], tq0, F⟩
noncomputable def i_Func_dual (K : Nat) (x : (dq0 × Unit)) : Option dq0 :=
    (i_funcBy K (x.1.1, (fun y2 => i_Func_dual_c1 K (y2.1, x.1, ())), ())).bind fun y1 =>
    some y1
noncomputable def rv_i_Func_dual : Lv := [(2, (.bx (.v tq0)))]
theorem ok_i_Func_dual (K : Nat) : FnOk Tryd.prog 89 (sp_i_Func_dual (i_Func_dual K)) :=
  fn_okD tysOk [C_i_funcBy K, C_i_Func_dual_c1 K] 0 [] [] rv_i_Func_dual K Tryd.func89 (by kernel_rfl) trivial (fun _ => by kernel_rfl)
noncomputable def C_i_Func_dual (K : Nat) : CB Tryd.prog := .f _ _ (ok_i_Func_dual K)
end Go.Proofs.YtfmenkglnkenpaaDoor.E
namespace Go.Proofs.YtfmenkglnkenpaaDoor.E
open Go Go.Proofs
set_option linter.unusedVariables false
set_option linter.unusedSimpArgs false
variable {K : Nat} {R : Type}
/-! dual functions -/
def dualN (n b : Nat) : Nat := mkB (fun j => !b.testBit (2 ^ n - 1 - j)) (2 ^ n)
theorem dualN_lt (n b : Nat) : dualN n b < 2 ^ 2 ^ n := mkB_lt _ _
theorem dualN_bit {n b j : Nat} (h : j < 2 ^ n) : (dualN n b).testBit j = !b.testBit (2 ^ n - 1 - j) := by rw [dualN, mkB_bit, decide_eq_true h, Bool.true_and]
theorem compl_bit {n r : Nat} (h : r < 2 ^ n) (i : Nat) : (2 ^ n - 1 - r).testBit i = (decide (i < n) && !r.testBit i) := by
  rw [show 2 ^ n - 1 - r = 2 ^ n - (r + 1) by omega]
  exact Nat.testBit_two_pow_sub_succ h i
theorem compl_xor {n r i : Nat} (h : r < 2 ^ n) (hi : i < n) : 2 ^ n - 1 - (r ^^^ pw i) = (2 ^ n - 1 - r) ^^^ pw i := by
  apply Nat.eq_of_testBit_eq
  intro j
  rw [compl_bit (show r ^^^ pw i < 2 ^ n from xorP_lt h hi), Nat.testBit_xor, Nat.testBit_xor, compl_bit h]
  unfold pw
  rw [Nat.testBit_two_pow]
  by_cases hj : j < n
  · simp [hj]
  · have : ¬ i = j := by omega
    simp [hj, this]
theorem essB_iff (n b i : Nat) : essB n b i = false ↔ ∀ r, r < 2 ^ n → tb b r = tb b (r ^^^ pw i) := by
  unfold essB
  rw [anyN_iff]
  constructor
  · intro h r hr
    have := h r (by omega) (by unfold pw; omega)
    simpa using this
  · intro h r _ hr
    have := h r (by unfold pw at hr; omega)
    simpa using this
theorem tb_dual {n b r : Nat} (h : r < 2 ^ n) : tb (dualN n b) r = 1 - tb b (2 ^ n - 1 - r) := by
  unfold tb
  rw [dualN_bit h]
  cases b.testBit (2 ^ n - 1 - r) <;> rfl
theorem essB_dual {n b i : Nat} (hi : i < n) : essB n (dualN n b) i = essB n b i := by
  have h : essB n (dualN n b) i = false ↔ essB n b i = false := by
    rw [essB_iff, essB_iff]
    constructor
    · intro h r hr
      have := h (2 ^ n - 1 - r) (by omega)
      rw [tb_dual (by omega), tb_dual (show (2 ^ n - 1 - r) ^^^ pw i < 2 ^ n from xorP_lt (by unfold pw; omega) hi), compl_xor (by omega) hi, show 2 ^ n - 1 - (2 ^ n - 1 - r) = r by omega] at this
      have h1 := tb_le b r
      have h2 := tb_le b (r ^^^ pw i)
      omega
    · intro h r hr
      rw [tb_dual hr, tb_dual (show r ^^^ pw i < 2 ^ n from xorP_lt hr hi), compl_xor hr hi, h (2 ^ n - 1 - r) (by omega)]
  cases h1 : essB n (dualN n b) i <;> cases h2 : essB n b i <;> simp_all
theorem essK_dual {n b : Nat} : essK n (dualN n b) = essK n b := keepL_congr n 0 fun j _ h => essB_dual (by omega)
theorem cntE_compl {n r : Nat} (h : r < 2 ^ n) : ∀ l : List Nat, (∀ x ∈ l, x < n) → cntE (2 ^ n - 1 - r) l + cntE r l = l.length
  | [], _ => rfl
  | x :: l, hl => by
    have ih := cntE_compl h l (fun y hy => hl y (by simp [hy]))
    have hx : tb (2 ^ n - 1 - r) x + tb r x = 1 := by
      unfold tb
      rw [compl_bit h, decide_eq_true (hl x (by simp)), Bool.true_and]
      cases r.testBit x <;> rfl
    simp only [cntE, List.length_cons]; omega
theorem essK_ltn (n b : Nat) : ∀ x ∈ essK n b, x < n := fun x h => by have := keepL_lt _ _ _ x h; omega
theorem joinB_dual {n b : Nat} (hb : b < 2 ^ 2 ^ n) : joinB true n (dualN n b) = joinB false n b := by
  unfold joinB
  rw [essK_dual]
  congr 1
  rw [Bool.eq_iff_iff, decide_eq_true_eq, decide_eq_true_eq, mkB_iff (dualN_lt n b), mkB_iff hb]
  have key : ∀ j, j < 2 ^ n → ((joinR true (essK n b) j = (dualN n b).testBit j) ↔ (joinR false (essK n b) (2 ^ n - 1 - j) = b.testBit (2 ^ n - 1 - j))) := by
    intro j hj
    have hc := cntE_compl hj _ (essK_ltn n b)
    rw [dualN_bit hj]
    simp only [joinR, if_true, Bool.false_eq_true, if_false]
    have e : (cntE j (essK n b) == (essK n b).length) = !decide (0 < cntE (2 ^ n - 1 - j) (essK n b)) := by
      rw [Bool.eq_iff_iff]; simp; omega
    rw [e]
    cases decide (0 < cntE (2 ^ n - 1 - j) (essK n b)) <;> cases b.testBit (2 ^ n - 1 - j) <;> simp
  constructor
  · intro h j hj
    have := (key (2 ^ n - 1 - j) (by omega)).1 (h _ (by omega))
    rwa [show 2 ^ n - 1 - (2 ^ n - 1 - j) = j by omega] at this
  · intro h j hj
    exact (key j hj).2 (h _ (by omega))
theorem stepL_congr {n : Nat} {M S T : List Nat} (h : ∀ y, y ∈ S ↔ y ∈ T) : stepL n M S = stepL n M T := by
  unfold stepL
  congr 1
  funext x
  rw [Bool.eq_iff_iff]
  simp only [List.any_eq_true]
  constructor
  · rintro ⟨a, ha, y, hy, e⟩; exact ⟨a, ha, y, (h y).1 hy, e⟩
  · rintro ⟨a, ha, y, hy, e⟩; exact ⟨a, ha, y, (h y).2 hy, e⟩
theorem degGo_congr {n : Nat} {S T : List Nat} (h : ∀ y, y ∈ S ↔ y ∈ T) : ∀ (f k : Nat) (M : List Nat), degGo n S f k M = degGo n T f k M
  | 0, k, M => rfl
  | f + 1, k, M => by rw [degGo, degGo, stepL_congr h, degGo_congr h f (k + 1)]
theorem degS_mem {n b c m y : Nat} : y ∈ degS n b c m ↔ ∃ r, r < m ∧ (b.testBit r).toNat = c ∧ y = if c = 0 then 2 ^ n - 1 - r else r := by
  simp only [degS, List.mem_map, List.mem_filter, List.mem_range, beq_iff_eq]
  constructor
  · rintro ⟨r, ⟨h1, h2⟩, h3⟩; exact ⟨r, h1, h2, h3.symm⟩
  · rintro ⟨r, h1, h2, h3⟩; exact ⟨r, ⟨h1, h2⟩, h3.symm⟩
theorem degS_dual {n b c : Nat} (hc : c ≤ 1) (y : Nat) : y ∈ degS n (dualN n b) (1 - c) (2 ^ n) ↔ y ∈ degS n b c (2 ^ n) := by
  rw [degS_mem, degS_mem]
  have hcc : c = 0 ∨ c = 1 := by omega
  constructor
  · rintro ⟨r, h1, h2, h3⟩
    refine ⟨2 ^ n - 1 - r, by omega, ?_, ?_⟩
    · rw [dualN_bit h1] at h2
      cases hb : b.testBit (2 ^ n - 1 - r) <;> rw [hb] at h2 <;> simp at h2 ⊢ <;> omega
    · rcases hcc with rfl | rfl
      · simp at h3 ⊢; omega
      · simp at h3 ⊢; omega
  · rintro ⟨r, h1, h2, h3⟩
    refine ⟨2 ^ n - 1 - r, by omega, ?_, ?_⟩
    · rw [dualN_bit (by omega), show 2 ^ n - 1 - (2 ^ n - 1 - r) = r by omega]
      cases hb : b.testBit r <;> rw [hb] at h2 <;> simp at h2 ⊢ <;> omega
    · rcases hcc with rfl | rfl
      · simp at h3 ⊢; omega
      · simp at h3 ⊢; omega
theorem degN_dual {n b c : Nat} (hc : c ≤ 1) : degN n (dualN n b) (1 - c) = degN n b c := by
  have h := fun y => degS_dual (n := n) (b := b) hc y
  unfold degN
  rw [degGo_congr h]
  have e : degS n (dualN n b) (1 - c) (2 ^ n) = [] ↔ degS n b c (2 ^ n) = [] := by
    rw [List.eq_nil_iff_forall_not_mem, List.eq_nil_iff_forall_not_mem]
    exact ⟨fun k y hy => k y ((h y).2 hy), fun k y hy => k y ((h y).1 hy)⟩
  by_cases e0 : degS n b c (2 ^ n) = []
  · rw [if_pos e0, if_pos (e.2 e0)]
  · rw [if_neg e0, if_neg (fun h => e0 (e.1 h))]
theorem i_Func_dual_eq {n b : Nat} (hn : n ≤ 4) (hb : b < 9223372036854775808) (hK : 4611686018427387904 ≤ K) : i_Func_dual K (((n : Int), (b : Int), ()), ()) = some ((n : Int), ((dualN n b : Nat) : Int), ()) := by
  have hp : 2 ^ n ≤ 16 := Nat.pow_le_pow_right (by decide) hn
  simp only [i_Func_dual]
  rw [i_funcBy_eq (fun j => !b.testBit (2 ^ n - 1 - j)) hn (fun j hj => ?_) hK]
  · rfl
  · simp only [i_Func_dual_c1]
    rw [i_Func_rows_eq _ (by omega), some_bind', w64 (x := ((2 ^ n : Nat) : Int) - 1) (by omega) (by omega), w64 (by omega) (by omega), show ((2 ^ n : Nat) : Int) - 1 - (j : Int) = ((2 ^ n - 1 - j : Nat) : Int) by omega, i_Func_at_eq _ hb, some_bind']
    unfold bt
    cases b.testBit (2 ^ n - 1 - j) <;> rfl
/-! Post's classes: the program's way and the spec's -/
def monoI (n b : Nat) : Bool := allR (fun r => allR (fun i => !(b.testBit r && !b.testBit (r ||| 2 ^ i))) 0 n) 0 (2 ^ n)
def monoS (n b : Nat) : Bool := allR (fun r => allR (fun i => !((r &&& 2 ^ i == 0) && b.testBit r && !b.testBit (r ||| 2 ^ i))) 0 n) 0 (2 ^ n)
theorem allR_congr {p q : Nat → Bool} : ∀ (d i : Nat), (∀ j, i ≤ j → j < i + d → p j = q j) → allR p i d = allR q i d
  | 0, _, _ => rfl
  | d + 1, i, h => by rw [allR, allR, h i (by omega) (by omega), allR_congr d (i + 1) (fun j h1 h2 => h j (by omega) (by omega))]
theorem or_bit {r i : Nat} (h : r.testBit i = true) : r ||| 2 ^ i = r := by
  apply Nat.eq_of_testBit_eq
  intro j
  rw [Nat.testBit_or, Nat.testBit_two_pow]
  by_cases e : i = j
  · subst e; simp [h]
  · simp [e]
theorem and_bit0 {r i : Nat} : (r &&& 2 ^ i == 0) = !r.testBit i := by
  rw [Bool.eq_iff_iff]
  simp only [beq_iff_eq, Bool.not_eq_true']
  constructor
  · intro h
    have := congrArg (·.testBit i) h
    simpa [Nat.testBit_and, Nat.testBit_two_pow] using this
  · intro h
    apply Nat.eq_of_testBit_eq
    intro j
    rw [Nat.testBit_and, Nat.testBit_two_pow, Nat.zero_testBit]
    by_cases e : i = j
    · subst e; simp [h]
    · simp [e]
theorem mono_eq (n b : Nat) : monoI n b = monoS n b := by
  unfold monoI monoS
  refine allR_congr _ _ fun r _ _ => allR_congr _ _ fun i _ _ => ?_
  rw [and_bit0]
  cases h : r.testBit i
  · simp
  · rw [or_bit h]; cases b.testBit r <;> simp
def dualI (n b : Nat) : Bool := decide (0 < n) && decide (b = dualN n b)
def dualS (n b : Nat) : Bool := allR (fun r => !(b.testBit r == b.testBit (2 ^ n - 1 - r))) 0 (2 ^ n)
theorem dual_eq {n b : Nat} (hb : b < 2 ^ 2 ^ n) : dualI n b = dualS n b := by
  unfold dualI dualS
  rw [Bool.eq_iff_iff, allR_iff, Bool.and_eq_true, decide_eq_true_eq, decide_eq_true_eq]
  have hm := mkB_iff (g := fun j => !b.testBit (2 ^ n - 1 - j)) hb
  constructor
  · rintro ⟨h0, h⟩ j _ hj
    have := hm.1 h j (by omega)
    rw [← this]
    cases b.testBit (2 ^ n - 1 - j) <;> rfl
  · intro h
    refine ⟨?_, hm.2 fun j hj => ?_⟩
    · rcases Nat.eq_zero_or_pos n with e | e
      · subst e
        have := h 0 (by omega) (by decide)
        simp at this
      · exact e
    · have := h j (by omega) (by omega)
      cases h1 : b.testBit j <;> cases h2 : b.testBit (2 ^ n - 1 - j) <;> rw [h1, h2] at this <;> simp_all
/-- the sum of the steps of the variables that are 1 in a row -/
def linR (d : Nat → Bool) (r : Nat) : Nat → Bool
  | 0 => false
  | n + 1 => xor (linR d r n) (r.testBit n && d n)
theorem linR_congr {d : Nat → Bool} {r s : Nat} : ∀ n, (∀ i, i < n → r.testBit i = s.testBit i) → linR d r n = linR d s n
  | 0, _ => rfl
  | n + 1, h => by rw [linR, linR, linR_congr n (fun i hi => h i (by omega)), h n (by omega)]
theorem linR_flip {d : Nat → Bool} {r v : Nat} : ∀ n, linR d (r ^^^ 2 ^ v) n = xor (linR d r n) (decide (v < n) && d v)
  | 0 => by simp [linR]
  | n + 1 => by
    rw [linR, linR, linR_flip n, Nat.testBit_xor, Nat.testBit_two_pow]
    by_cases e : v = n
    · subst e; simp; cases linR d r v <;> cases r.testBit v <;> cases d v <;> rfl
    · by_cases h : v < n
      · have : v < n + 1 := by omega
        simp [e, h, this]; cases linR d r n <;> cases r.testBit n <;> cases d n <;> cases d v <;> rfl
      · have : ¬ v < n + 1 := by omega
        simp [e, h, this]
def affI (n b : Nat) : Bool := allR (fun r => xor (b.testBit 0) (linR (fun i => xor (b.testBit 0) (b.testBit (2 ^ i))) r n) == b.testBit r) 0 (2 ^ n)
def affS (n b : Nat) : Bool := allR (fun v => allR (fun r => (xor (b.testBit r) (b.testBit (r ^^^ 2 ^ v))) == xor (b.testBit 0) (b.testBit (2 ^ v))) 0 (2 ^ n)) 0 n
theorem aff_eq {n b : Nat} (hn : n ≤ 4) : affI n b = affS n b := by
  unfold affI affS
  rw [Bool.eq_iff_iff, allR_iff, allR_iff]
  constructor
  · intro h v _ hv
    rw [allR_iff]
    intro r _ hr
    have hx : r ^^^ 2 ^ v < 2 ^ n := xorP_lt (show r < pw n by unfold pw; omega) (by omega)
    have h1 := h r (by omega) (by omega)
    have h2 := h (r ^^^ 2 ^ v) (by omega) (by omega)
    rw [linR_flip, decide_eq_true (by omega : v < n)] at h2
    rw [beq_iff_eq] at h1 h2 ⊢
    rw [← h1, ← h2]
    cases linR (fun i => xor (b.testBit 0) (b.testBit (2 ^ i))) r n <;> cases b.testBit 0 <;> cases b.testBit (2 ^ v) <;> rfl
  · intro h
    have hs : ∀ v r, v < n → r < 2 ^ n → xor (b.testBit r) (b.testBit (r ^^^ 2 ^ v)) = xor (b.testBit 0) (b.testBit (2 ^ v)) := by
      intro v r hv hr
      have := (allR_iff _ _ _).1 (h v (by omega) (by omega)) r (by omega) (by omega)
      simpa using this
    have key : ∀ m r, r ≤ m → r < 2 ^ n → xor (b.testBit 0) (linR (fun i => xor (b.testBit 0) (b.testBit (2 ^ i))) r n) = b.testBit r := by
      intro m
      induction m with
      | zero =>
        intro r h1 _
        obtain rfl : r = 0 := by omega
        have : linR (fun i => xor (b.testBit 0) (b.testBit (2 ^ i))) 0 n = false := by
          have : ∀ k, linR (fun i => xor (b.testBit 0) (b.testBit (2 ^ i))) 0 k = false := by
            intro k
            induction k with
            | zero => rfl
            | succ k ih => rw [linR, ih]; simp
          exact this n
        rw [this]; simp
      | succ m ih =>
        intro r h1 hr
        by_cases h0 : r = 0
        · exact ih r (by omega) hr
        · obtain ⟨i, hi, hl⟩ := lower_row n r hn (by unfold pw; omega) h0
          have hl : r ^^^ 2 ^ i < r := hl
          have h2 := ih (r ^^^ 2 ^ i) (by omega) (by omega)
          rw [linR_flip, decide_eq_true hi] at h2
          have h3 := hs i r hi hr
          revert h2 h3
          cases linR (fun i => xor (b.testBit 0) (b.testBit (2 ^ i))) r n <;> cases b.testBit 0 <;> cases b.testBit (2 ^ i) <;> cases b.testBit r <;> cases b.testBit (r ^^^ 2 ^ i) <;> decide
    intro r _ hr
    rw [beq_iff_eq]
    exact key r r (Nat.le_refl _) (by omega)
end Go.Proofs.YtfmenkglnkenpaaDoor.E
namespace Go.Proofs.YtfmenkglnkenpaaDoor.E
open Go Go.Proofs Go.Proofs.YtfmenkglnkenpaaDoor
set_option maxRecDepth 100000
set_option linter.unusedVariables false
noncomputable def as_i_Func_isMonotone : Ty := (.pair tq0 .unit)
noncomputable def sp_i_Func_isMonotone (F : (dq0 × Unit) → Option Bool) : FnSpec := ⟨as_i_Func_isMonotone, [false], .bool, F⟩
noncomputable def i_Func_isMonotone_l5 {R : Type} (K : Nat) : Nat → dq0 → Int → Int → Int → Int → Int → (dq0 → Int → Int → Option R) → (Bool → Option R) → Option R
  | 0, _, _, _, _, _, _, _, _ => none
  | k + 1, v1, v3, v6, v7, v11, v12, kx2, kr =>
    (if (decide (v12 < v11)) = true then
    (i_Func_at K (v1, v3, ())).bind fun y2 =>
    (if (decide ((0 : Int) ≤ v12)) = true then
    (i_Func_at K (v1, (bitI .or .i64 v3 (shlI .i64 (1 : Int) v12)), ())).bind fun y3 =>
    (if (decide (y2 > y3)) = true then
    kr false
    else
    i_Func_isMonotone_l5 K k v1 v3 v6 v7 v11 (IntKind.i64.wrap (v12 + (1 : Int))) kx2 kr)
    else
    none)
    else
    kx2 v1 v6 v7)
noncomputable def i_Func_isMonotone_l2 {R : Type} (K : Nat) : Nat → dq0 → Int → Int → (Option R) → (Bool → Option R) → Option R
  | 0, _, _, _, _, _ => none
  | k + 1, v1, v6, v7, kx0, kr =>
    (if (decide (v7 < v6)) = true then
    i_Func_isMonotone_l5 K k v1 v7 v6 v7 v1.1 (0 : Int) (fun z4 z5 z6 =>
    i_Func_isMonotone_l2 K k z4 z5 (IntKind.i64.wrap (z6 + (1 : Int))) kx0 kr) (fun z7 =>
    kr z7)
    else
    kx0)
noncomputable def i_Func_isMonotone (K : Nat) (x : (dq0 × Unit)) : Option Bool :=
    (i_Func_rows K (x.1, ())).bind fun y1 =>
    i_Func_isMonotone_l2 K K x.1 y1 (0 : Int) (some true) (fun z8 =>
    some z8)
noncomputable def X0_i_Func_isMonotone : Lv := []
noncomputable def X2_i_Func_isMonotone : Lv := [(1, (.bx (.v tq0))), (6, (.v (.int .i64))), (7, (.v (.int .i64)))]
noncomputable def rv_i_Func_isMonotone : Lv := [(2, (.v .bool))]
noncomputable def D_i_Func_isMonotone (K : Nat) : List (PD (den .bool)) := [.L 2 [(1, (.bx (.v tq0))), (6, (.v (.int .i64))), (7, (.v (.int .i64)))] [] (fun k x kx kr => i_Func_isMonotone_l2 K k x.1 x.2.1 x.2.2.1 (kx 0 (mkSt X0_i_Func_isMonotone ())) (fun z0 => kr (mkSt rv_i_Func_isMonotone (z0, ())))),
  .L 5 [(1, (.bx (.v tq0))), (3, (.v (.int .i64))), (6, (.v (.int .i64))), (7, (.v (.int .i64))), (11, (.v (.int .i64))), (12, (.v (.int .i64)))] [] (fun k x kx kr => i_Func_isMonotone_l5 K k x.1 x.2.1 x.2.2.1 x.2.2.2.1 x.2.2.2.2.1 x.2.2.2.2.2.1 (fun z0 z1 z2 => kx 2 (mkSt X2_i_Func_isMonotone (z0, z1, z2, ()))) (fun z0 => kr (mkSt rv_i_Func_isMonotone (z0, ()))))]
theorem ok_i_Func_isMonotone (K : Nat) : FnOk Tryd.prog 90 (sp_i_Func_isMonotone (i_Func_isMonotone K)) :=
  fn_okD tysOk [C_i_Func_rows K, C_i_Func_at K] 0 (D_i_Func_isMonotone K) [(0, X0_i_Func_isMonotone), (2, X2_i_Func_isMonotone)] rv_i_Func_isMonotone K Tryd.func90 (by kernel_rfl) ⟨⟨fun _ _ _ _ => by kernel_rfl, fun _ _ _ => rfl⟩, ⟨⟨fun _ _ _ _ => by kernel_rfl, fun _ _ _ => rfl⟩, trivial⟩⟩ (fun _ => by kernel_rfl)
noncomputable def C_i_Func_isMonotone (K : Nat) : CB Tryd.prog := .f _ _ (ok_i_Func_isMonotone K)
noncomputable def as_i_Func_isIn : Ty := (.pair tq0 (.pair (.int .i64) .unit))
noncomputable def sp_i_Func_isIn (F : (dq0 × Int × Unit) → Option Bool) : FnSpec := ⟨as_i_Func_isIn, [false, false], .bool, F⟩
noncomputable def i_Func_isIn_l16 {R : Type} (K : Nat) : Nat → dq0 → Int → Int → Int → Int → Int → Int → (dq0 → Int → Int → Int → Int → Option R) → Option R
  | 0, _, _, _, _, _, _, _, _ => none
  | k + 1, v2, v6, v7, v40, v41, v47, v48, kx3 =>
    (if (decide (v48 < v47)) = true then
    (i_bit K (v6, v48, ())).bind fun y8 =>
    (i_Func_at K (v2, (0 : Int), ())).bind fun y9 =>
    (if (decide ((0 : Int) ≤ v48)) = true then
    (i_Func_at K (v2, (shlI .i64 (1 : Int) v48), ())).bind fun y10 =>
    let x11 := (bitI .xor .i64 v7 (bitI .and .i64 y8 (bitI .xor .i64 y9 y10)))
    i_Func_isIn_l16 K k v2 v6 x11 v40 v41 v47 (IntKind.i64.wrap (v48 + (1 : Int))) kx3
    else
    none)
    else
    kx3 v2 v6 v7 v40 v41)
noncomputable def i_Func_isIn_l12 {R : Type} (K : Nat) : Nat → dq0 → Int → Int → (Option R) → (Bool → Option R) → Option R
  | 0, _, _, _, _, _ => none
  | k + 1, v2, v40, v41, kx1, kr =>
    (if (decide (v41 < v40)) = true then
    (i_Func_at K (v2, (0 : Int), ())).bind fun y7 =>
    i_Func_isIn_l16 K k v2 v41 y7 v40 v41 v2.1 (0 : Int) (fun z12 z13 z14 z15 z16 =>
    (i_Func_at K (z12, z13, ())).bind fun y17 =>
    (if (!decide (z14 = y17)) = true then
    kr false
    else
    i_Func_isIn_l12 K k z12 z15 (IntKind.i64.wrap (z16 + (1 : Int))) kx1 kr))
    else
    kx1)
noncomputable def i_Func_isIn (K : Nat) (x : (dq0 × Int × Unit)) : Option Bool :=
    (i_Func_rows K (x.1, ())).bind fun y1 =>
    (if (decide (x.2.1 = (0 : Int))) = true then
    (i_Func_at K (x.1, (0 : Int), ())).bind fun y2 =>
    some (decide (y2 = (0 : Int)))
    else
    (if (decide (x.2.1 = (1 : Int))) = true then
    (i_Func_at K (x.1, (IntKind.i64.wrap (y1 - (1 : Int))), ())).bind fun y3 =>
    some (decide (y3 = (1 : Int)))
    else
    (if (decide (x.2.1 = (2 : Int))) = true then
    (if (decide (x.1.1 > (0 : Int))) = true then
    (i_Func_dual K (x.1, ())).bind fun y4 =>
    some (eqD (.pair (.int .i64) (.pair (.int .i64) .unit)) x.1 y4)
    else
    some false)
    else
    (if (decide (x.2.1 = (3 : Int))) = true then
    (i_Func_isMonotone K (x.1, ())).bind fun y5 =>
    some y5
    else
    (i_Func_rows K (x.1, ())).bind fun y6 =>
    i_Func_isIn_l12 K K x.1 y6 (0 : Int) (some true) (fun z18 =>
    some z18)))))
noncomputable def X1_i_Func_isIn : Lv := []
noncomputable def X3_i_Func_isIn : Lv := [(2, (.bx (.v tq0))), (6, (.v (.int .i64))), (7, (.v (.int .i64))), (40, (.v (.int .i64))), (41, (.v (.int .i64)))]
noncomputable def rv_i_Func_isIn : Lv := [(4, (.v .bool))]
noncomputable def D_i_Func_isIn (K : Nat) : List (PD (den .bool)) := [.L 12 [(2, (.bx (.v tq0))), (40, (.v (.int .i64))), (41, (.v (.int .i64)))] [] (fun k x kx kr => i_Func_isIn_l12 K k x.1 x.2.1 x.2.2.1 (kx 1 (mkSt X1_i_Func_isIn ())) (fun z0 => kr (mkSt rv_i_Func_isIn (z0, ())))),
  .L 16 [(2, (.bx (.v tq0))), (6, (.v (.int .i64))), (7, (.v (.int .i64))), (40, (.v (.int .i64))), (41, (.v (.int .i64))), (47, (.v (.int .i64))), (48, (.v (.int .i64)))] [] (fun k x kx kr => i_Func_isIn_l16 K k x.1 x.2.1 x.2.2.1 x.2.2.2.1 x.2.2.2.2.1 x.2.2.2.2.2.1 x.2.2.2.2.2.2.1 (fun z0 z1 z2 z3 z4 => kx 3 (mkSt X3_i_Func_isIn (z0, z1, z2, z3, z4, ()))))]
theorem ok_i_Func_isIn (K : Nat) : FnOk Tryd.prog 64 (sp_i_Func_isIn (i_Func_isIn K)) :=
  fn_okD tysOk [C_i_Func_rows K, C_i_Func_at K, C_i_Func_dual K, C_i_Func_isMonotone K, C_i_bit K] 0 (D_i_Func_isIn K) [(1, X1_i_Func_isIn), (3, X3_i_Func_isIn)] rv_i_Func_isIn K Tryd.func64 (by kernel_rfl) ⟨⟨fun _ _ _ _ => by kernel_rfl, fun _ _ _ => rfl⟩, ⟨⟨fun _ _ _ _ => by kernel_rfl, fun _ _ _ => rfl⟩, trivial⟩⟩ (fun _ => by kernel_rfl)
noncomputable def C_i_Func_isIn (K : Nat) : CB Tryd.prog := .f _ _ (ok_i_Func_isIn K)
noncomputable def as_s_l02In : Ty := (.pair tq0 (.pair (.int .i64) .unit))
noncomputable def sp_s_l02In (F : (dq0 × Int × Unit) → Option Bool) : FnSpec := ⟨as_s_l02In, [false, false], .bool, F⟩
noncomputable def s_l02In_l9 {R : Type} (K : Nat) : Nat → dq0 → Int → Int → (Option R) → (Bool → Option R) → Option R
  | 0, _, _, _, _, _ => none
  | k + 1, v2, v5, v6, kx1, kr =>
    (if (decide (v6 < v5)) = true then
    (s_l01At K (v2, v6, ())).bind fun y4 =>
    let x5 := (IntKind.i64.wrap ((IntKind.i64.wrap (v5 - (1 : Int))) - v6))
    (s_l01At K (v2, x5, ())).bind fun y6 =>
    (if (decide (y4 = y6)) = true then
    kr false
    else
    s_l02In_l9 K k v2 v5 (IntKind.i64.wrap (v6 + (1 : Int))) kx1 kr)
    else
    kx1)
noncomputable def s_l02In_l19 {R : Type} (K : Nat) : Nat → dq0 → Int → Int → Int → (dq0 → Int → Int → Option R) → (Bool → Option R) → Option R
  | 0, _, _, _, _, _, _ => none
  | k + 1, v2, v5, v7, v8, kx5, kr =>
    (if (decide (v8 < v2.1)) = true then
    (if (decide ((0 : Int) ≤ (IntKind.u64.wrap v8))) = true then
    let x8 := (bitI .and .i64 v7 (shlI .i64 (1 : Int) (IntKind.u64.wrap v8)))
    (if (decide (x8 = (0 : Int))) = true then
    (s_l01At K (v2, v7, ())).bind fun y9 =>
    (if (decide (y9 = (1 : Int))) = true then
    let x10 := (bitI .or .i64 v7 (shlI .i64 (1 : Int) (IntKind.u64.wrap v8)))
    (s_l01At K (v2, x10, ())).bind fun y11 =>
    (if (decide (y11 = (0 : Int))) = true then
    kr false
    else
    s_l02In_l19 K k v2 v5 v7 (IntKind.i64.wrap (v8 + (1 : Int))) kx5 kr)
    else
    s_l02In_l19 K k v2 v5 v7 (IntKind.i64.wrap (v8 + (1 : Int))) kx5 kr)
    else
    s_l02In_l19 K k v2 v5 v7 (IntKind.i64.wrap (v8 + (1 : Int))) kx5 kr)
    else
    none)
    else
    kx5 v2 v5 v7)
noncomputable def s_l02In_l16 {R : Type} (K : Nat) : Nat → dq0 → Int → Int → (Option R) → (Bool → Option R) → Option R
  | 0, _, _, _, _, _ => none
  | k + 1, v2, v5, v7, kx3, kr =>
    (if (decide (v7 < v5)) = true then
    s_l02In_l19 K k v2 v5 v7 (0 : Int) (fun z12 z13 z14 =>
    s_l02In_l16 K k z12 z13 (IntKind.i64.wrap (z14 + (1 : Int))) kx3 kr) (fun z15 =>
    kr z15)
    else
    kx3)
noncomputable def s_l02In_l31 {R : Type} (K : Nat) : Nat → dq0 → Int → Int → Int → Bool → Int → (dq0 → Int → Int → Option R) → (Bool → Option R) → Option R
  | 0, _, _, _, _, _, _, _, _ => none
  | k + 1, v2, v5, v10, v11, v12, v13, kx9, kr =>
    (if (decide (v13 < v5)) = true then
    (s_l01At K (v2, v13, ())).bind fun y19 =>
    (s_l01At K (v2, (bitI .xor .i64 v13 v11), ())).bind fun y20 =>
    (if (!((!decide (y19 = y20)) == v12)) = true then
    kr false
    else
    s_l02In_l31 K k v2 v5 v10 v11 v12 (IntKind.i64.wrap (v13 + (1 : Int))) kx9 kr)
    else
    kx9 v2 v5 v10)
noncomputable def s_l02In_l26 {R : Type} (K : Nat) : Nat → dq0 → Int → Int → (Option R) → (Bool → Option R) → Option R
  | 0, _, _, _, _, _ => none
  | k + 1, v2, v5, v10, kx7, kr =>
    (if (decide (v10 < v2.1)) = true then
    (if (decide ((0 : Int) ≤ (IntKind.u64.wrap v10))) = true then
    (s_l01At K (v2, (0 : Int), ())).bind fun y17 =>
    (s_l01At K (v2, (shlI .i64 (1 : Int) (IntKind.u64.wrap v10)), ())).bind fun y18 =>
    s_l02In_l31 K k v2 v5 v10 (shlI .i64 (1 : Int) (IntKind.u64.wrap v10)) (!decide (y17 = y18)) (0 : Int) (fun z21 z22 z23 =>
    s_l02In_l26 K k z21 z22 (IntKind.i64.wrap (z23 + (1 : Int))) kx7 kr) (fun z24 =>
    kr z24)
    else
    none)
    else
    kx7)
noncomputable def s_l02In (K : Nat) (x : (dq0 × Int × Unit)) : Option Bool :=
    (s_l01Rows K (x.1.1, ())).bind fun y1 =>
    (if (decide (x.2.1 = (0 : Int))) = true then
    (s_l01At K (x.1, (0 : Int), ())).bind fun y2 =>
    some (decide (y2 = (0 : Int)))
    else
    (if (decide (x.2.1 = (1 : Int))) = true then
    (s_l01At K (x.1, (IntKind.i64.wrap (y1 - (1 : Int))), ())).bind fun y3 =>
    some (decide (y3 = (1 : Int)))
    else
    (if (decide (x.2.1 = (2 : Int))) = true then
    s_l02In_l9 K K x.1 y1 (0 : Int) (some true) (fun z7 =>
    some z7)
    else
    (if (decide (x.2.1 = (3 : Int))) = true then
    s_l02In_l16 K K x.1 y1 (0 : Int) (some true) (fun z16 =>
    some z16)
    else
    s_l02In_l26 K K x.1 y1 (0 : Int) (some true) (fun z25 =>
    some z25)))))
noncomputable def X1_s_l02In : Lv := []
noncomputable def X3_s_l02In : Lv := []
noncomputable def X5_s_l02In : Lv := [(2, (.bx (.v tq0))), (5, (.v (.int .i64))), (7, (.v (.int .i64)))]
noncomputable def X7_s_l02In : Lv := []
noncomputable def X9_s_l02In : Lv := [(2, (.bx (.v tq0))), (5, (.v (.int .i64))), (10, (.v (.int .i64)))]
noncomputable def rv_s_l02In : Lv := [(4, (.v .bool))]
noncomputable def D_s_l02In (K : Nat) : List (PD (den .bool)) := [.L 9 [(2, (.bx (.v tq0))), (5, (.v (.int .i64))), (6, (.v (.int .i64)))] [] (fun k x kx kr => s_l02In_l9 K k x.1 x.2.1 x.2.2.1 (kx 1 (mkSt X1_s_l02In ())) (fun z0 => kr (mkSt rv_s_l02In (z0, ())))),
  .L 16 [(2, (.bx (.v tq0))), (5, (.v (.int .i64))), (7, (.v (.int .i64)))] [] (fun k x kx kr => s_l02In_l16 K k x.1 x.2.1 x.2.2.1 (kx 3 (mkSt X3_s_l02In ())) (fun z0 => kr (mkSt rv_s_l02In (z0, ())))),
  .L 19 [(2, (.bx (.v tq0))), (5, (.v (.int .i64))), (7, (.v (.int .i64))), (8, (.v (.int .i64)))] [] (fun k x kx kr => s_l02In_l19 K k x.1 x.2.1 x.2.2.1 x.2.2.2.1 (fun z0 z1 z2 => kx 5 (mkSt X5_s_l02In (z0, z1, z2, ()))) (fun z0 => kr (mkSt rv_s_l02In (z0, ())))),
  .L 26 [(2, (.bx (.v tq0))), (5, (.v (.int .i64))), (10, (.v (.int .i64)))] [] (fun k x kx kr => s_l02In_l26 K k x.1 x.2.1 x.2.2.1 (kx 7 (mkSt X7_s_l02In ())) (fun z0 => kr (mkSt rv_s_l02In (z0, ())))),
  .L 31 [(2, (.bx (.v tq0))), (5, (.v (.int .i64))), (10, (.v (.int .i64))), (11, (.v (.int .i64))), (12, (.v .bool)), (13, (.v (.int .i64)))] [] (fun k x kx kr => s_l02In_l31 K k x.1 x.2.1 x.2.2.1 x.2.2.2.1 x.2.2.2.2.1 x.2.2.2.2.2.1 (fun z0 z1 z2 => kx 9 (mkSt X9_s_l02In (z0, z1, z2, ()))) (fun z0 => kr (mkSt rv_s_l02In (z0, ()))))]
theorem ok_s_l02In (K : Nat) : FnOk Tryd.prog 55 (sp_s_l02In (s_l02In K)) :=
  fn_okD tysOk [C_s_l01Rows K, C_s_l01At K] 0 (D_s_l02In K) [(1, X1_s_l02In), (3, X3_s_l02In), (5, X5_s_l02In), (7, X7_s_l02In), (9, X9_s_l02In)] rv_s_l02In K Tryd.func55 (by kernel_rfl) ⟨⟨fun _ _ _ _ => by kernel_rfl, fun _ _ _ => rfl⟩, ⟨⟨fun _ _ _ _ => by kernel_rfl, fun _ _ _ => rfl⟩, ⟨⟨fun _ _ _ _ => by kernel_rfl, fun _ _ _ => rfl⟩, ⟨⟨fun _ _ _ _ => by kernel_rfl, fun _ _ _ => rfl⟩, ⟨⟨fun _ _ _ _ => by kernel_rfl, fun _ _ _ => rfl⟩, trivial⟩⟩⟩⟩⟩ (fun _ => by kernel_rfl)
noncomputable def C_s_l02In (K : Nat) : CB Tryd.prog := .f _ _ (ok_s_l02In K)
end Go.Proofs.YtfmenkglnkenpaaDoor.E
namespace Go.Proofs.YtfmenkglnkenpaaDoor.E
open Go Go.Proofs
set_option linter.unusedVariables false
set_option linter.unusedSimpArgs false
variable {K : Nat} {R : Type}
/-! loops that ask something of each number; the classes, as the program and the spec compute them -/
theorem lpA {L : Nat → Nat → Option R} {p : Nat → Bool} {N B : Nat} {kx kf : Option R} (stop : ∀ k, L (k + 1) N = kx) (step : ∀ k i, B ≤ k → i < N → L (k + 1) i = if p i = true then L k (i + 1) else kf) :
    ∀ (d i k : Nat), i + d = N → B + d < k → L k i = if allR p i d = true then kx else kf
  | d, i, 0, _, h => by omega
  | 0, i, k + 1, e, h => by obtain rfl : i = N := by omega
                            rw [stop]; rfl
  | d + 1, i, k + 1, e, h => by
    rw [step k i (by omega) (by omega), allR]
    cases hp : p i
    · rfl
    · rw [ite_t rfl, Bool.true_and]; exact lpA stop step d (i + 1) k (by omega) (by omega)
theorem p16 {n : Nat} (hn : n ≤ 4) : 2 ^ n ≤ 16 := Nat.pow_le_pow_right (by decide) hn
theorem or_lt16 {a i : Nat} (h : a < 16) (hi : i < 4) : a ||| 2 ^ i < 16 := Nat.or_lt_two_pow (n := 4) h (Nat.lt_of_lt_of_le (Nat.pow_lt_pow_right (by decide) hi) (Nat.le_refl _))
theorem p8 {i : Nat} (hi : i < 4) : 2 ^ i ≤ 8 := Nat.pow_le_pow_right (n := 2) (by decide) (by omega : i ≤ 3)
theorem bt_gt (b r s : Nat) : decide (bt b r > bt b s) = (b.testBit r && !b.testBit s) := by unfold bt; cases b.testBit r <;> cases b.testBit s <;> rfl
theorem ite_not {c : Bool} {α : Type} {a b : α} : (if (!c) = true then a else b) = if c = true then b else a := by cases c <;> rfl
theorem imono_l5 {n b r : Nat} {u : Unit} (hn : n ≤ 4) (hb : b < 9223372036854775808) (hr : r < 16) (v6 v7 : Int) (kx2 : (Int × Int × Unit) → Int → Int → Option R) (kr : Bool → Option R) (k : Nat) (hk : n < k) :
    i_Func_isMonotone_l5 K k ((n : Int), (b : Int), u) (r : Int) v6 v7 (n : Int) 0 kx2 kr = if allR (fun i => !(b.testBit r && !b.testBit (r ||| 2 ^ i))) 0 n = true then kx2 ((n : Int), (b : Int), u) v6 v7 else kr false := by
  refine lpA (L := fun k i => i_Func_isMonotone_l5 K k ((n : Int), (b : Int), u) (r : Int) v6 v7 (n : Int) (i : Int) kx2 kr) (N := n) (B := 0) (fun k => ?_) (fun k i _ hi => ?_) n 0 k (by omega) (by omega)
  · simp only [i_Func_isMonotone_l5]; rw [ite_f (decide_eq_false (by omega))]
  · have h8 := p8 (show i < 4 by omega)
    simp only [i_Func_isMonotone_l5]
    rw [ite_t (decide_eq_true (by omega)), i_Func_at_eq _ hb, some_bind', ite_t (nn _), shl1 (by omega), bitI_or (by omega) (by omega), i_Func_at_eq _ hb, some_bind', w64s (by omega), bt_gt, ite_not]
theorem imono_eq {n b : Nat} {u : Unit} (hn : n ≤ 4) (hb : b < 9223372036854775808) (hK : 100 ≤ K) : i_Func_isMonotone K (((n : Int), (b : Int), u), ()) = some (monoI n b) := by
  have hp := p16 hn
  simp only [i_Func_isMonotone]
  rw [i_Func_rows_eq _ (by omega), some_bind']
  refine (lpA (L := fun k i => i_Func_isMonotone_l2 K k ((n : Int), (b : Int), u) ((2 ^ n : Nat) : Int) (i : Int) (some true) (fun z8 => some z8)) (N := 2 ^ n) (B := 10) (kx := some true) (kf := some false) (p := fun r => allR (fun i => !(b.testBit r && !b.testBit (r ||| 2 ^ i))) 0 n) (fun k => ?_) (fun k i hB hi => ?_) (2 ^ n) 0 K (by omega) (by omega)).trans ?_
  · simp only [i_Func_isMonotone_l2]; rw [ite_f (decide_eq_false (by omega))]
  · simp only [i_Func_isMonotone_l2]
    rw [ite_t (decide_eq_true (by omega)), imono_l5 hn hb (by omega) _ _ _ _ k (by omega), w64s (by omega)]
  · rw [monoI]; cases allR (fun r => allR (fun i => !(b.testBit r && !b.testBit (r ||| 2 ^ i))) 0 n) 0 (2 ^ n) <;> rfl
theorem iaff_l16 {n b r : Nat} {u : Unit} (hn : n ≤ 4) (hb : b < 9223372036854775808) (hr : r < 16) (v40 v41 : Int) (kx3 : (Int × Int × Unit) → Int → Int → Int → Int → Option R) :
    ∀ (d i k : Nat) (x : Bool), i + d = n → d < k → i_Func_isIn_l16 K k ((n : Int), (b : Int), u) (r : Int) (if xor x (linR (fun i => xor (b.testBit 0) (b.testBit (2 ^ i))) r i) then 1 else 0) v40 v41 (n : Int) (i : Int) kx3 =
      kx3 ((n : Int), (b : Int), u) (r : Int) (if xor x (linR (fun i => xor (b.testBit 0) (b.testBit (2 ^ i))) r n) then 1 else 0) v40 v41
  | d, i, 0, x, _, h => by omega
  | 0, i, k + 1, x, e, h => by
    obtain rfl : i = n := by omega
    simp only [i_Func_isIn_l16]; rw [ite_f (decide_eq_false (by omega))]
  | d + 1, i, k + 1, x, e, h => by
    have h8 := p8 (show i < 4 by omega)
    have hx : ∀ a c : Bool, bitI .xor .i64 (if a = true then (1 : Int) else 0) (if c = true then (1 : Int) else 0) = if xor a c = true then 1 else 0 := by decide
    have ha : ∀ a c : Bool, bitI .and .i64 (if a = true then (1 : Int) else 0) (if c = true then (1 : Int) else 0) = if (a && c) = true then 1 else 0 := by decide
    simp only [i_Func_isIn_l16]
    rw [ite_t (decide_eq_true (by omega)), i_bit_eq _ (by omega), some_bind', show ((0 : Int)) = ((0 : Nat) : Int) from rfl, i_Func_at_eq _ hb, some_bind', show (((0 : Nat) : Int)) = 0 from rfl, ite_t (nn _), shl1 (by omega), i_Func_at_eq _ hb, some_bind', w64s (by omega)]
    simp only [bt, hx, ha]
    have := iaff_l16 (u := u) hn hb hr v40 v41 kx3 d (i + 1) k x (by omega) (by omega)
    rw [linR] at this
    rw [← this]
    congr 2
    cases x <;> cases linR (fun i => xor (b.testBit 0) (b.testBit (2 ^ i))) r i <;> cases r.testBit i <;> cases b.testBit 0 <;> cases b.testBit (2 ^ i) <;> rfl
theorem iaff_l12 {n b : Nat} {u : Unit} (hn : n ≤ 4) (hb : b < 9223372036854775808) (kx1 : Option R) (kr : Bool → Option R) (k : Nat) (hk : 100 ≤ k) :
    i_Func_isIn_l12 K k ((n : Int), (b : Int), u) ((2 ^ n : Nat) : Int) 0 kx1 kr = if affI n b = true then kx1 else kr false := by
  have hp := p16 hn
  refine lpA (L := fun k i => i_Func_isIn_l12 K k ((n : Int), (b : Int), u) ((2 ^ n : Nat) : Int) (i : Int) kx1 kr) (N := 2 ^ n) (B := 10) (fun k => ?_) (fun k i hB hi => ?_) (2 ^ n) 0 k (by omega) (by omega)
  · simp only [i_Func_isIn_l12]; rw [ite_f (decide_eq_false (by omega))]
  · have h := iaff_l16 (u := u) (K := K) hn hb (show i < 16 by omega) ((2 ^ n : Nat) : Int) (i : Int) (fun z12 z13 z14 z15 z16 => (i_Func_at K (z12, z13, ())).bind fun y17 => (if (!decide (z14 = y17)) = true then kr false else i_Func_isIn_l12 K k z12 z15 (IntKind.i64.wrap (z16 + (1 : Int))) kx1 kr)) n 0 k (b.testBit 0) (by omega) (by omega)
    simp only [linR, Bool.xor_false] at h
    simp only [i_Func_isIn_l12]
    rw [ite_t (decide_eq_true (by omega)), show ((0 : Int)) = ((0 : Nat) : Int) from rfl, i_Func_at_eq _ hb, some_bind', show bt b 0 = if b.testBit 0 = true then 1 else 0 from rfl, h, i_Func_at_eq _ hb, some_bind', w64s (by omega), ite_not]
    congr 1
    rw [bt, Bool.eq_iff_iff, decide_eq_true_eq, beq_iff_eq]
    cases xor (b.testBit 0) (linR (fun i => xor (b.testBit 0) (b.testBit (2 ^ i))) i n) <;> cases b.testBit i <;> simp
/-- Is a function in a class? -/
def inC (n b k : Nat) : Bool := match k with
  | 0 => !b.testBit 0
  | 1 => b.testBit (2 ^ n - 1)
  | 2 => dualI n b
  | 3 => monoI n b
  | _ => affI n b
theorem i_isIn_eq {n b k : Nat} (hn : n ≤ 4) (hb : b < 2 ^ 2 ^ n) (hk : k < 5) (hK : 4611686018427387904 ≤ K) : i_Func_isIn K (((n : Int), (b : Int), ()), (k : Int), ()) = some (inC n b k) := by
  have hp := p16 hn
  have hb2 := b4 hn hb
  have h1 : 1 ≤ 2 ^ n := Nat.one_le_two_pow
  simp only [i_Func_isIn]
  rw [i_Func_rows_eq _ (by omega), some_bind']
  match k, hk with
  | 0, _ => rw [ite_t (decide_eq_true (by omega)), show ((0 : Int)) = ((0 : Nat) : Int) from rfl, i_Func_at_eq _ (by omega), some_bind']; exact congrArg some (bt_dec0 b 0)
  | 1, _ => rw [ite_f (decide_eq_false (by omega)), ite_t (decide_eq_true (by omega)), w64 (by omega) (by omega), show ((2 ^ n : Nat) : Int) - 1 = ((2 ^ n - 1 : Nat) : Int) by omega, i_Func_at_eq _ (by omega), some_bind']; exact congrArg some (bt_dec b _)
  | 2, _ =>
    rw [ite_f (decide_eq_false (by omega)), ite_f (decide_eq_false (by omega)), ite_t (decide_eq_true (by omega)), inC, dualI]
    by_cases h0 : 0 < n
    · rw [ite_t (decide_eq_true (by omega)), i_Func_dual_eq hn (by omega) hK, some_bind', decide_eq_true h0, Bool.true_and, eqD_F]
    · rw [ite_f (decide_eq_false (by omega)), decide_eq_false h0]; rfl
  | 3, _ => rw [ite_f (decide_eq_false (by omega)), ite_f (decide_eq_false (by omega)), ite_f (decide_eq_false (by omega)), ite_t (decide_eq_true (by omega)), imono_eq hn (by omega) (by omega)]; rfl
  | 4, _ =>
    rw [ite_f (decide_eq_false (by omega)), ite_f (decide_eq_false (by omega)), ite_f (decide_eq_false (by omega)), ite_f (decide_eq_false (by omega)), some_bind', iaff_l12 hn (by omega) _ _ K (by omega), show inC n b 4 = affI n b from rfl]
    cases affI n b <;> rfl
theorem sdual_l9 {n b : Nat} {u : Unit} (hn : n ≤ 4) (hb : b < 9223372036854775808) (kx1 : Option R) (kr : Bool → Option R) (k : Nat) (hk : 100 ≤ k) :
    s_l02In_l9 K k ((n : Int), (b : Int), u) ((2 ^ n : Nat) : Int) 0 kx1 kr = if dualS n b = true then kx1 else kr false := by
  have hp := p16 hn
  refine lpA (L := fun k i => s_l02In_l9 K k ((n : Int), (b : Int), u) ((2 ^ n : Nat) : Int) (i : Int) kx1 kr) (N := 2 ^ n) (B := 10) (fun k => ?_) (fun k i hB hi => ?_) (2 ^ n) 0 k (by omega) (by omega)
  · simp only [s_l02In_l9]; rw [ite_f (decide_eq_false (by omega))]
  · simp only [s_l02In_l9]
    rw [ite_t (decide_eq_true (by omega)), s_l01At_eq hb (by omega), some_bind', w64 (show -9223372036854775808 ≤ ((2 ^ n : Nat) : Int) - 1 by omega) (by omega), w64 (by omega) (by omega), show ((2 ^ n : Nat) : Int) - 1 - (i : Int) = ((2 ^ n - 1 - i : Nat) : Int) by omega, s_l01At_eq hb (by omega), some_bind', w64s (by omega), ite_not]
    have : decide (bt b i = bt b (2 ^ n - 1 - i)) = (b.testBit i == b.testBit (2 ^ n - 1 - i)) := by unfold bt; cases b.testBit i <;> cases b.testBit (2 ^ n - 1 - i) <;> rfl
    rw [this]
theorem smono_l19 {n b r : Nat} {u : Unit} (hn : n ≤ 4) (hb : b < 9223372036854775808) (hr : r < 16) (v5 : Int) (kx5 : (Int × Int × Unit) → Int → Int → Option R) (kr : Bool → Option R) (k : Nat) (hk : n < k) :
    s_l02In_l19 K k ((n : Int), (b : Int), u) v5 (r : Int) 0 kx5 kr = if allR (fun i => !((r &&& 2 ^ i == 0) && b.testBit r && !b.testBit (r ||| 2 ^ i))) 0 n = true then kx5 ((n : Int), (b : Int), u) v5 (r : Int) else kr false := by
  refine lpA (L := fun k i => s_l02In_l19 K k ((n : Int), (b : Int), u) v5 (r : Int) (i : Int) kx5 kr) (N := n) (B := 0) (fun k => ?_) (fun k i _ hi => ?_) n 0 k (by omega) (by omega)
  · simp only [s_l02In_l19]; rw [ite_f (decide_eq_false (by omega))]
  · have h8 := p8 (show i < 4 by omega)
    simp only [s_l02In_l19]
    rw [ite_t (decide_eq_true (by omega)), ite_t (u64_dec _), u64n (by omega), shl1 (by omega), bitI_and (by omega) (by omega), bitI_or (by omega) (by omega), w64s (by omega)]
    have e0 : decide (((r &&& 2 ^ i : Nat) : Int) = 0) = (r &&& 2 ^ i == 0) := by rw [Bool.eq_iff_iff]; simp
    rw [e0]
    cases h0 : (r &&& 2 ^ i == 0)
    · rw [ite_f rfl]; rfl
    · rw [ite_t rfl, s_l01At_eq hb (by omega), some_bind', bt_dec]
      cases h1 : b.testBit r
      · rw [ite_f rfl]; rfl
      · rw [ite_t rfl, s_l01At_eq hb (by have := or_lt16 hr (show i < 4 by omega); omega), some_bind', bt_dec0]
        cases b.testBit (r ||| 2 ^ i) <;> rfl
theorem smono_l16 {n b : Nat} {u : Unit} (hn : n ≤ 4) (hb : b < 9223372036854775808) (kx3 : Option R) (kr : Bool → Option R) (k : Nat) (hk : 100 ≤ k) :
    s_l02In_l16 K k ((n : Int), (b : Int), u) ((2 ^ n : Nat) : Int) 0 kx3 kr = if monoS n b = true then kx3 else kr false := by
  have hp := p16 hn
  refine lpA (L := fun k i => s_l02In_l16 K k ((n : Int), (b : Int), u) ((2 ^ n : Nat) : Int) (i : Int) kx3 kr) (N := 2 ^ n) (B := 10) (fun k => ?_) (fun k i hB hi => ?_) (2 ^ n) 0 k (by omega) (by omega)
  · simp only [s_l02In_l16]; rw [ite_f (decide_eq_false (by omega))]
  · simp only [s_l02In_l16]
    rw [ite_t (decide_eq_true (by omega)), smono_l19 hn hb (by omega) _ _ _ k (by omega), w64s (by omega)]
theorem saff_l31 {n b w : Nat} {u : Unit} (hn : n ≤ 4) (hb : b < 9223372036854775808) (hw : w < 16) (v10 : Int) (c : Bool) (kx9 : (Int × Int × Unit) → Int → Int → Option R) (kr : Bool → Option R) (k : Nat) (hk : 50 ≤ k) :
    s_l02In_l31 K k ((n : Int), (b : Int), u) ((2 ^ n : Nat) : Int) v10 (w : Int) c 0 kx9 kr = if allR (fun r => xor (b.testBit r) (b.testBit (r ^^^ w)) == c) 0 (2 ^ n) = true then kx9 ((n : Int), (b : Int), u) ((2 ^ n : Nat) : Int) v10 else kr false := by
  have hp := p16 hn
  refine lpA (L := fun k i => s_l02In_l31 K k ((n : Int), (b : Int), u) ((2 ^ n : Nat) : Int) v10 (w : Int) c (i : Int) kx9 kr) (N := 2 ^ n) (B := 10) (fun k => ?_) (fun k i _ hi => ?_) (2 ^ n) 0 k (by omega) (by omega)
  · simp only [s_l02In_l31]; rw [ite_f (decide_eq_false (by omega))]
  · have hx : i ^^^ w < 16 := Nat.xor_lt_two_pow (n := 4) (by omega) hw
    simp only [s_l02In_l31]
    rw [ite_t (decide_eq_true (by omega)), s_l01At_eq hb (by omega), some_bind', bitI_xor (by omega) (by omega), s_l01At_eq hb (by omega), some_bind', w64s (by omega), ite_not]
    have : (!decide (bt b i = bt b (i ^^^ w))) = xor (b.testBit i) (b.testBit (i ^^^ w)) := by unfold bt; cases b.testBit i <;> cases b.testBit (i ^^^ w) <;> rfl
    rw [this]
theorem saff_l26 {n b : Nat} {u : Unit} (hn : n ≤ 4) (hb : b < 9223372036854775808) (kx7 : Option R) (kr : Bool → Option R) (k : Nat) (hk : 100 ≤ k) :
    s_l02In_l26 K k ((n : Int), (b : Int), u) ((2 ^ n : Nat) : Int) 0 kx7 kr = if affS n b = true then kx7 else kr false := by
  have hp := p16 hn
  refine lpA (L := fun k i => s_l02In_l26 K k ((n : Int), (b : Int), u) ((2 ^ n : Nat) : Int) (i : Int) kx7 kr) (N := n) (B := 50) (fun k => ?_) (fun k i hB hi => ?_) n 0 k (by omega) (by omega)
  · simp only [s_l02In_l26]; rw [ite_f (decide_eq_false (by omega))]
  · have h8 := p8 (show i < 4 by omega)
    simp only [s_l02In_l26]
    rw [ite_t (decide_eq_true (by omega)), ite_t (u64_dec _), u64n (by omega), shl1 (by omega), show ((0 : Int)) = ((0 : Nat) : Int) from rfl, s_l01At_eq hb (by omega), some_bind', s_l01At_eq hb (by omega), some_bind', show (((0 : Nat) : Int)) = 0 from rfl, saff_l31 hn hb (by omega) _ _ _ _ k (by omega), w64s (by omega)]
    have : (!decide (bt b 0 = bt b (2 ^ i))) = xor (b.testBit 0) (b.testBit (2 ^ i)) := by unfold bt; cases b.testBit 0 <;> cases b.testBit (2 ^ i) <;> rfl
    rw [this]
theorem s_l02In_eq {n b k : Nat} (hn : n ≤ 4) (hb : b < 2 ^ 2 ^ n) (hk : k < 5) (hK : 100 ≤ K) : s_l02In K (((n : Int), (b : Int), ()), (k : Int), ()) = some (inC n b k) := by
  have hp := p16 hn
  have hb2 := b4 hn hb
  have h1 : 1 ≤ 2 ^ n := Nat.one_le_two_pow
  simp only [s_l02In]
  rw [s_l01Rows_eq (by omega), some_bind']
  match k, hk with
  | 0, _ => rw [ite_t (decide_eq_true (by omega)), show ((0 : Int)) = ((0 : Nat) : Int) from rfl, s_l01At_eq (by omega) (by omega), some_bind']; exact congrArg some (bt_dec0 b 0)
  | 1, _ => rw [ite_f (decide_eq_false (by omega)), ite_t (decide_eq_true (by omega)), w64 (by omega) (by omega), show ((2 ^ n : Nat) : Int) - 1 = ((2 ^ n - 1 : Nat) : Int) by omega, s_l01At_eq (by omega) (by omega), some_bind']; exact congrArg some (bt_dec b _)
  | 2, _ => rw [ite_f (decide_eq_false (by omega)), ite_f (decide_eq_false (by omega)), ite_t (decide_eq_true (by omega)), sdual_l9 hn (by omega) _ _ K hK, inC, dual_eq hb]; cases dualS n b <;> rfl
  | 3, _ => rw [ite_f (decide_eq_false (by omega)), ite_f (decide_eq_false (by omega)), ite_f (decide_eq_false (by omega)), ite_t (decide_eq_true (by omega)), smono_l16 hn (by omega) _ _ K hK, inC, mono_eq]; cases monoS n b <;> rfl
  | 4, _ => rw [ite_f (decide_eq_false (by omega)), ite_f (decide_eq_false (by omega)), ite_f (decide_eq_false (by omega)), ite_f (decide_eq_false (by omega)), saff_l26 hn (by omega) _ _ K hK, show inC n b 4 = affI n b from rfl, aff_eq hn]; cases affS n b <;> rfl
end Go.Proofs.YtfmenkglnkenpaaDoor.E
namespace Go.Proofs.YtfmenkglnkenpaaDoor.E
open Go Go.Proofs Go.Proofs.YtfmenkglnkenpaaDoor
set_option maxRecDepth 100000
set_option linter.unusedVariables false
noncomputable def as_slices_IndexFunc_impl_Func : Ty := (.pair (.sl tq0) (.pair (.fn (.pair tq0 .unit) .bool) .unit))
noncomputable def sp_slices_IndexFunc_impl_Func (F : ((List dq0) × ((dq0 × Unit) → Option Bool) × Unit) → Option Int) : FnSpec := ⟨as_slices_IndexFunc_impl_Func, [false, false], (.int .i64), F⟩
noncomputable def slices_IndexFunc_impl_Func_l2 {R : Type} (K : Nat) : Nat → (List dq0) → ((dq0 × Unit) → Option Bool) → Int → Int → (Option R) → (Int → Option R) → Option R
  | 0, _, _, _, _, _, _ => none
  | k + 1, v0, v1, v7, v8, kx0, kr =>
    (if (decide (v8 < v7)) = true then
    (if (bnds v8 (v0.length : Int)) = true then
    (v1 ((v0.getD v8.toNat ((0 : Int), (0 : Int), ())), ())).bind fun y1 =>
    (if y1 = true then
    kr v8
    else
    slices_IndexFunc_impl_Func_l2 K k v0 v1 v7 (IntKind.i64.wrap (v8 + (1 : Int))) kx0 kr)
    else
    none)
    else
    kx0)
noncomputable def slices_IndexFunc_impl_Func (K : Nat) (x : ((List dq0) × ((dq0 × Unit) → Option Bool) × Unit)) : Option Int :=
    slices_IndexFunc_impl_Func_l2 K K x.1 x.2.1 (x.1.length : Int) (0 : Int) (some (-1 : Int)) (fun z2 =>
    some z2)
noncomputable def X0_slices_IndexFunc_impl_Func : Lv := []
noncomputable def rv_slices_IndexFunc_impl_Func : Lv := [(4, (.v (.int .i64)))]
noncomputable def D_slices_IndexFunc_impl_Func (K : Nat) : List (PD (den (.int .i64))) := [.L 2 [(0, (.v (.sl tq0))), (1, (.v (.fn (.pair tq0 .unit) .bool))), (7, (.v (.int .i64))), (8, (.v (.int .i64)))] [] (fun k x kx kr => slices_IndexFunc_impl_Func_l2 K k x.1 x.2.1 x.2.2.1 x.2.2.2.1 (kx 0 (mkSt X0_slices_IndexFunc_impl_Func ())) (fun z0 => kr (mkSt rv_slices_IndexFunc_impl_Func (z0, ()))))]
theorem ok_slices_IndexFunc_impl_Func (K : Nat) : FnOk Tryd.prog 83 (sp_slices_IndexFunc_impl_Func (slices_IndexFunc_impl_Func K)) :=
  fn_okD tysOk [] 0 (D_slices_IndexFunc_impl_Func K) [(0, X0_slices_IndexFunc_impl_Func)] rv_slices_IndexFunc_impl_Func K Tryd.func83 (by kernel_rfl) ⟨⟨fun _ _ _ _ => by kernel_rfl, fun _ _ _ => rfl⟩, trivial⟩ (fun _ => by kernel_rfl)
noncomputable def C_slices_IndexFunc_impl_Func (K : Nat) : CB Tryd.prog := .f _ _ (ok_slices_IndexFunc_impl_Func K)
noncomputable def as_slices_ContainsFunc_impl_Func : Ty := (.pair (.sl tq0) (.pair (.fn (.pair tq0 .unit) .bool) .unit))
noncomputable def sp_slices_ContainsFunc_impl_Func (F : ((List dq0) × ((dq0 × Unit) → Option Bool) × Unit) → Option Bool) : FnSpec := ⟨as_slices_ContainsFunc_impl_Func, [false, false], .bool, F⟩
noncomputable def slices_ContainsFunc_impl_Func (K : Nat) (x : ((List dq0) × ((dq0 × Unit) → Option Bool) × Unit)) : Option Bool :=
    (slices_IndexFunc_impl_Func K (x.1, x.2.1, ())).bind fun y1 =>
    some (decide (y1 ≥ (0 : Int)))
noncomputable def rv_slices_ContainsFunc_impl_Func : Lv := [(4, (.v .bool))]
theorem ok_slices_ContainsFunc_impl_Func (K : Nat) : FnOk Tryd.prog 60 (sp_slices_ContainsFunc_impl_Func (slices_ContainsFunc_impl_Func K)) :=
  fn_okD tysOk [C_slices_IndexFunc_impl_Func K] 0 [] [] rv_slices_ContainsFunc_impl_Func K Tryd.func60 (by kernel_rfl) trivial (fun _ => by kernel_rfl)
noncomputable def C_slices_ContainsFunc_impl_Func (K : Nat) : CB Tryd.prog := .f _ _ (ok_slices_ContainsFunc_impl_Func K)
noncomputable def as_i_allIn_c1 : Ty := (.pair tq0 (.pair (.ptr (.int .i64)) .unit))
noncomputable def sp_i_allIn_c1 (F : (dq0 × Int × Unit) → Option Bool) : FnSpec := ⟨as_i_allIn_c1, [false, false], .bool, F⟩
noncomputable def i_allIn_c1 (K : Nat) (x : (dq0 × Int × Unit)) : Option Bool :=
    (i_Func_isIn K (x.1, x.2.1, ())).bind fun y1 =>
    some (!y1)
noncomputable def rv_i_allIn_c1 : Lv := [(3, (.v .bool))]
theorem ok_i_allIn_c1 (K : Nat) : FnOk Tryd.prog 63 (sp_i_allIn_c1 (i_allIn_c1 K)) :=
  fn_okD tysOk [C_i_Func_isIn K] 0 [] [] rv_i_allIn_c1 K Tryd.func63 (by kernel_rfl) trivial (fun _ => by kernel_rfl)
noncomputable def C_i_allIn_c1 (K : Nat) : CB Tryd.prog := .f _ _ (ok_i_allIn_c1 K)
noncomputable def as_i_allIn : Ty := (.pair (.sl tq0) (.pair (.int .i64) .unit))
noncomputable def sp_i_allIn (F : ((List dq0) × Int × Unit) → Option Bool) : FnSpec := ⟨as_i_allIn, [false, false], .bool, F⟩
noncomputable def i_allIn (K : Nat) (x : ((List dq0) × Int × Unit)) : Option Bool :=
    (slices_ContainsFunc_impl_Func K (x.1, (fun y2 => i_allIn_c1 K (y2.1, x.2.1, ())), ())).bind fun y1 =>
    some (!y1)
noncomputable def rv_i_allIn : Lv := [(4, (.v .bool))]
theorem ok_i_allIn (K : Nat) : FnOk Tryd.prog 32 (sp_i_allIn (i_allIn K)) :=
  fn_okD tysOk [C_slices_ContainsFunc_impl_Func K, C_i_allIn_c1 K] 0 [] [] rv_i_allIn K Tryd.func32 (by kernel_rfl) trivial (fun _ => by kernel_rfl)
noncomputable def C_i_allIn (K : Nat) : CB Tryd.prog := .f _ _ (ok_i_allIn K)
noncomputable def as_i_allAre_c1 : Ty := (.pair tq0 (.pair (.ptr (.fn (.pair tq0 .unit) .bool)) .unit))
noncomputable def sp_i_allAre_c1 (F : (dq0 × ((dq0 × Unit) → Option Bool) × Unit) → Option Bool) : FnSpec := ⟨as_i_allAre_c1, [false, false], .bool, F⟩
noncomputable def i_allAre_c1 (K : Nat) (x : (dq0 × ((dq0 × Unit) → Option Bool) × Unit)) : Option Bool :=
    (x.2.1 (x.1, ())).bind fun y1 =>
    some (!y1)
noncomputable def rv_i_allAre_c1 : Lv := [(3, (.v .bool))]
theorem ok_i_allAre_c1 (K : Nat) : FnOk Tryd.prog 65 (sp_i_allAre_c1 (i_allAre_c1 K)) :=
  fn_okD tysOk [] 0 [] [] rv_i_allAre_c1 K Tryd.func65 (by kernel_rfl) trivial (fun _ => by kernel_rfl)
noncomputable def C_i_allAre_c1 (K : Nat) : CB Tryd.prog := .f _ _ (ok_i_allAre_c1 K)
noncomputable def as_i_allAre : Ty := (.pair (.sl tq0) (.pair (.fn (.pair tq0 .unit) .bool) .unit))
noncomputable def sp_i_allAre (F : ((List dq0) × ((dq0 × Unit) → Option Bool) × Unit) → Option Bool) : FnSpec := ⟨as_i_allAre, [false, false], .bool, F⟩
noncomputable def i_allAre (K : Nat) (x : ((List dq0) × ((dq0 × Unit) → Option Bool) × Unit)) : Option Bool :=
    (slices_ContainsFunc_impl_Func K (x.1, (fun y2 => i_allAre_c1 K (y2.1, x.2.1, ())), ())).bind fun y1 =>
    some (!y1)
noncomputable def rv_i_allAre : Lv := [(4, (.v .bool))]
theorem ok_i_allAre (K : Nat) : FnOk Tryd.prog 33 (sp_i_allAre (i_allAre K)) :=
  fn_okD tysOk [C_slices_ContainsFunc_impl_Func K, C_i_allAre_c1 K] 0 [] [] rv_i_allAre K Tryd.func33 (by kernel_rfl) trivial (fun _ => by kernel_rfl)
noncomputable def C_i_allAre (K : Nat) : CB Tryd.prog := .f _ _ (ok_i_allAre K)
noncomputable def as_i_byConstants : Ty := (.pair .str (.pair .bool (.pair .bool .unit)))
noncomputable def sp_i_byConstants (F : (ByteArray × Bool × Bool × Unit) → Option ByteArray) : FnSpec := ⟨as_i_byConstants, [false, false, false], .str, F⟩
noncomputable def i_byConstants_j3 {R : Type} (K : Nat) (k : Nat) (v0 : ByteArray) (v1 : Bool) (v2 : Bool) (kn : ByteArray → Option R) (kr : (ByteArray → Option R)) : Option R :=
    gN K ((if v1 = true then
    (if (decide (v0.size + (⟨#[48]⟩ : ByteArray).size ≤ 9223372036854775807)) = true then
    kr (v0 ++ (⟨#[48]⟩ : ByteArray))
    else
    none)
    else
    (if v2 = true then
    (if (decide (v0.size + (⟨#[49]⟩ : ByteArray).size ≤ 9223372036854775807)) = true then
    kr (v0 ++ (⟨#[49]⟩ : ByteArray))
    else
    none)
    else
    kn v0)))
noncomputable def i_byConstants (K : Nat) (x : (ByteArray × Bool × Bool × Unit)) : Option ByteArray :=
    (if x.2.1 = true then
    (if x.2.2.1 = true then
    (if (decide (x.1.size + (⟨#[50]⟩ : ByteArray).size ≤ 9223372036854775807)) = true then
    some (x.1 ++ (⟨#[50]⟩ : ByteArray))
    else
    none)
    else
    i_byConstants_j3 K K x.1 x.2.1 x.2.2.1 (fun z1 =>
    some z1) (fun z2 =>
    some z2))
    else
    i_byConstants_j3 K K x.1 x.2.1 x.2.2.1 (fun z3 =>
    some z3) (fun z4 =>
    some z4))
noncomputable def rv_i_byConstants : Lv := [(6, (.v .str))]
noncomputable def D_i_byConstants (K : Nat) : List (PD (den .str)) := [.J 3 [(0, (.v .str)), (1, (.v .bool)), (2, (.v .bool))] [(0, (.v .str))] K (fun k x kn kx kr => i_byConstants_j3 K k x.1 x.2.1 x.2.2.1 (fun z0 => kn (z0, ())) (fun z0 => kr (mkSt rv_i_byConstants (z0, ()))))]
theorem ok_i_byConstants (K : Nat) : FnOk Tryd.prog 35 (sp_i_byConstants (i_byConstants K)) :=
  fn_okD tysOk [] 0 (D_i_byConstants K) [] rv_i_byConstants K Tryd.func35 (by kernel_rfl) ⟨fun _ _ _ _ _ => by kernel_rfl, trivial⟩ (fun _ => by kernel_rfl)
noncomputable def C_i_byConstants (K : Nat) : CB Tryd.prog := .f _ _ (ok_i_byConstants K)
noncomputable def as_i_choose : Ty := (.pair .bool (.pair .str (.pair .str .unit)))
noncomputable def sp_i_choose (F : (Bool × ByteArray × ByteArray × Unit) → Option ByteArray) : FnSpec := ⟨as_i_choose, [false, false, false], .str, F⟩
noncomputable def i_choose (K : Nat) (x : (Bool × ByteArray × ByteArray × Unit)) : Option ByteArray :=
    (if x.1 = true then
    some x.2.1
    else
    some x.2.2.1)
noncomputable def rv_i_choose : Lv := [(6, (.v .str))]
theorem ok_i_choose (K : Nat) : FnOk Tryd.prog 36 (sp_i_choose (i_choose K)) :=
  fn_okD tysOk [] 0 [] [] rv_i_choose K Tryd.func36 (by kernel_rfl) trivial (fun _ => by kernel_rfl)
noncomputable def C_i_choose (K : Nat) : CB Tryd.prog := .f _ _ (ok_i_choose K)
noncomputable def degF (x : (Int × Int × Unit) × Int × Unit) : Option Int :=
  if 0 ≤ x.1.1 ∧ x.1.1 ≤ 4 ∧ 0 ≤ x.1.2.1 ∧ x.1.2.1 < 65536 ∧ 0 ≤ x.2.1 ∧ x.2.1 ≤ 1 then some (degN x.1.1.toNat x.1.2.1.toNat x.2.1.toNat : Nat) else none
theorem degF_ok : FnOk Tryd.prog 71 ⟨.pair (.st (.pair (.int .i64) (.pair (.int .i64) .unit))) (.pair (.int .i64) .unit), [false, false], .int .i64, degF⟩ := by
  refine ⟨fun _ => ?_, fun h => by cases h⟩
  intro w vs x y hx hy
  obtain ⟨⟨ar, bi, u⟩, c, u2⟩ := x
  have hy : degF ((ar, bi, u), c, u2) = some y := hy
  unfold degF at hy
  split at hy
  case isFalse => cases hy
  rename_i h
  cases hy
  obtain ⟨h1, h2, h3, h4, h5, h6⟩ := h
  obtain ⟨n, rfl⟩ := Int.eq_ofNat_of_zero_le h1
  obtain ⟨b, rfl⟩ := Int.eq_ofNat_of_zero_le h3
  obtain ⟨c, rfl⟩ := Int.eq_ofNat_of_zero_le h5
  have hv : vs = [.agg #[.int .i64 n, .int .i64 b], .int .i64 c] := by
    obtain ⟨cs, r, rfl, ⟨c1, c2, rfl, h7, c3, c4, rfl, h8, h9⟩, c5, r2, rfl, h10, h11⟩ := hx
    have h7 : c1 = [.int .i64 (n : Int)] := h7
    have h8 : c3 = [.int .i64 (b : Int)] := h8
    have h9 : c4 = [] := h9
    have h10 : c5 = [.int .i64 (c : Int)] := h10
    have h11 : r2 = [] := h11
    subst h7 h8 h9 h10 h11
    rfl
  subst hv
  refine cf_of_calls Tryd.func71 (c := bodyOf Tryd.f71) (by kernel_rfl) (by kernel_rfl) ?_
  refine (dg_calls w n b c (by have h2 : (n : Int) ≤ 4 := h2; omega) (by have h4 : (b : Int) < 65536 := h4; omega) (by have h6 : (c : Int) ≤ 1 := h6; omega)).mono ?_
  rintro e w' ⟨rfl, hb⟩
  exact ⟨_, rfl, ret_plain (R := .int .i64) rfl rfl rfl (c := [.int .i64 (degN n b c : Nat)]) ⟨rfl, rfl⟩ hb⟩
noncomputable def as_i_Func_degree : Ty := (.pair tq0 (.pair (.int .i64) .unit))
noncomputable def sp_i_Func_degree (F : (dq0 × Int × Unit) → Option Int) : FnSpec := ⟨as_i_Func_degree, [false, false], (.int .i64), F⟩
noncomputable def i_Func_degree (K : Nat) (x : (Int × Int × Unit) × Int × Unit) : Option Int := degF x
theorem ok_i_Func_degree (K : Nat) : FnOk Tryd.prog 71 (sp_i_Func_degree (i_Func_degree K)) := degF_ok
noncomputable def C_i_Func_degree (K : Nat) : CB Tryd.prog := .f _ _ (ok_i_Func_degree K)
noncomputable def as_i_least : Ty := (.pair (.sl tq0) (.pair (.int .i64) .unit))
noncomputable def sp_i_least (F : ((List dq0) × Int × Unit) → Option Int) : FnSpec := ⟨as_i_least, [false, false], (.int .i64), F⟩
noncomputable def i_least_l3 {R : Type} (K : Nat) : Nat → Int → Int → (List dq0) → Int → Int → (Int → Option R) → Option R
  | 0, _, _, _, _, _, _ => none
  | k + 1, v1, v5, v8, v9, v10, kx0 =>
    (if (decide (v10 < v9)) = true then
    (if (bnds v10 (v8.length : Int)) = true then
    (i_Func_degree K ((v8.getD v10.toNat ((0 : Int), (0 : Int), ())), v1, ())).bind fun y1 =>
    i_least_l3 K k v1 (minL v5 [y1]) v8 v9 (IntKind.i64.wrap (v10 + (1 : Int))) kx0
    else
    none)
    else
    kx0 v5)
noncomputable def i_least (K : Nat) (x : ((List dq0) × Int × Unit)) : Option Int :=
    i_least_l3 K K x.2.1 (9 : Int) x.1 (x.1.length : Int) (0 : Int) (fun z2 =>
    some z2)
noncomputable def X0_i_least : Lv := [(5, (.v (.int .i64)))]
noncomputable def rv_i_least : Lv := [(4, (.v (.int .i64)))]
noncomputable def D_i_least (K : Nat) : List (PD (den (.int .i64))) := [.L 3 [(1, (.v (.int .i64))), (5, (.v (.int .i64))), (8, (.v (.sl tq0))), (9, (.v (.int .i64))), (10, (.v (.int .i64)))] [] (fun k x kx kr => i_least_l3 K k x.1 x.2.1 x.2.2.1 x.2.2.2.1 x.2.2.2.2.1 (fun z0 => kx 0 (mkSt X0_i_least (z0, ()))))]
theorem ok_i_least (K : Nat) : FnOk Tryd.prog 39 (sp_i_least (i_least K)) :=
  fn_okD tysOk [C_i_Func_degree K] 0 (D_i_least K) [(0, X0_i_least)] rv_i_least K Tryd.func39 (by kernel_rfl) ⟨⟨fun _ _ _ _ => by kernel_rfl, fun _ _ _ => rfl⟩, trivial⟩ (fun _ => by kernel_rfl)
noncomputable def C_i_least (K : Nat) : CB Tryd.prog := .f _ _ (ok_i_least K)
noncomputable def as_internal_strconv_small : Ty := (.pair (.int .i64) .unit)
noncomputable def sp_internal_strconv_small (F : (Int × Unit) → Option ByteArray) : FnSpec := ⟨as_internal_strconv_small, [false], .str, F⟩
noncomputable def internal_strconv_small (K : Nat) (x : (Int × Unit)) : Option ByteArray :=
    (if (decide (x.1 < (10 : Int))) = true then
    (if (decide (0 ≤ x.1) && decide (x.1 ≤ (IntKind.i64.wrap (x.1 + (1 : Int)))) && decide ((IntKind.i64.wrap (x.1 + (1 : Int))) ≤ ((⟨#[48, 49, 50, 51, 52, 53, 54, 55, 56, 57, 97, 98, 99, 100, 101, 102, 103, 104, 105, 106, 107, 108, 109, 110, 111, 112, 113, 114, 115, 116, 117, 118, 119, 120, 121, 122]⟩ : ByteArray).size : Int))) = true then
    let x1 := ((⟨#[48, 49, 50, 51, 52, 53, 54, 55, 56, 57, 97, 98, 99, 100, 101, 102, 103, 104, 105, 106, 107, 108, 109, 110, 111, 112, 113, 114, 115, 116, 117, 118, 119, 120, 121, 122]⟩ : ByteArray).extract x.1.toNat (IntKind.i64.wrap (x.1 + (1 : Int))).toNat)
    some x1
    else
    none)
    else
    let x2 := (IntKind.i64.wrap ((IntKind.i64.wrap (x.1 * (2 : Int))) + (2 : Int)))
    (if (decide (0 ≤ (IntKind.i64.wrap (x.1 * (2 : Int)))) && decide ((IntKind.i64.wrap (x.1 * (2 : Int))) ≤ x2) && decide (x2 ≤ ((⟨#[48, 48, 48, 49, 48, 50, 48, 51, 48, 52, 48, 53, 48, 54, 48, 55, 48, 56, 48, 57, 49, 48, 49, 49, 49, 50, 49, 51, 49, 52, 49, 53, 49, 54, 49, 55, 49, 56, 49, 57, 50, 48, 50, 49, 50, 50, 50, 51, 50, 52, 50, 53, 50, 54, 50, 55, 50, 56, 50, 57, 51, 48, 51, 49, 51, 50, 51, 51, 51, 52, 51, 53, 51, 54, 51, 55, 51, 56, 51, 57, 52, 48, 52, 49, 52, 50, 52, 51, 52, 52, 52, 53, 52, 54, 52, 55, 52, 56, 52, 57, 53, 48, 53, 49, 53, 50, 53, 51, 53, 52, 53, 53, 53, 54, 53, 55, 53, 56, 53, 57, 54, 48, 54, 49, 54, 50, 54, 51, 54, 52, 54, 53, 54, 54, 54, 55, 54, 56, 54, 57, 55, 48, 55, 49, 55, 50, 55, 51, 55, 52, 55, 53, 55, 54, 55, 55, 55, 56, 55, 57, 56, 48, 56, 49, 56, 50, 56, 51, 56, 52, 56, 53, 56, 54, 56, 55, 56, 56, 56, 57, 57, 48, 57, 49, 57, 50, 57, 51, 57, 52, 57, 53, 57, 54, 57, 55, 57, 56, 57, 57]⟩ : ByteArray).size : Int))) = true then
    let x3 := ((⟨#[48, 48, 48, 49, 48, 50, 48, 51, 48, 52, 48, 53, 48, 54, 48, 55, 48, 56, 48, 57, 49, 48, 49, 49, 49, 50, 49, 51, 49, 52, 49, 53, 49, 54, 49, 55, 49, 56, 49, 57, 50, 48, 50, 49, 50, 50, 50, 51, 50, 52, 50, 53, 50, 54, 50, 55, 50, 56, 50, 57, 51, 48, 51, 49, 51, 50, 51, 51, 51, 52, 51, 53, 51, 54, 51, 55, 51, 56, 51, 57, 52, 48, 52, 49, 52, 50, 52, 51, 52, 52, 52, 53, 52, 54, 52, 55, 52, 56, 52, 57, 53, 48, 53, 49, 53, 50, 53, 51, 53, 52, 53, 53, 53, 54, 53, 55, 53, 56, 53, 57, 54, 48, 54, 49, 54, 50, 54, 51, 54, 52, 54, 53, 54, 54, 54, 55, 54, 56, 54, 57, 55, 48, 55, 49, 55, 50, 55, 51, 55, 52, 55, 53, 55, 54, 55, 55, 55, 56, 55, 57, 56, 48, 56, 49, 56, 50, 56, 51, 56, 52, 56, 53, 56, 54, 56, 55, 56, 56, 56, 57, 57, 48, 57, 49, 57, 50, 57, 51, 57, 52, 57, 53, 57, 54, 57, 55, 57, 56, 57, 57]⟩ : ByteArray).extract (IntKind.i64.wrap (x.1 * (2 : Int))).toNat x2.toNat)
    some x3
    else
    none))
noncomputable def rv_internal_strconv_small : Lv := [(2, (.v .str))]
theorem ok_internal_strconv_small (K : Nat) : FnOk Tryd.prog 101 (sp_internal_strconv_small (internal_strconv_small K)) :=
  fn_okD tysOk [] 0 [] [] rv_internal_strconv_small K Tryd.func101 (by kernel_rfl) trivial (fun _ => by kernel_rfl)
noncomputable def C_internal_strconv_small (K : Nat) : CB Tryd.prog := .f _ _ (ok_internal_strconv_small K)
noncomputable def as_math_bits_Len64 : Ty := (.pair (.int .u64) .unit)
noncomputable def sp_math_bits_Len64 (F : (Int × Unit) → Option Int) : FnSpec := ⟨as_math_bits_Len64, [false], (.int .i64), F⟩
noncomputable def math_bits_Len64_j10 {R : Type} (K : Nat) (k : Nat) (v0 : Int) (v2 : Int) (kn : Option R) (kr : (Int → Option R)) : Option R :=
    (if (bnds (IntKind.u8.wrap v0) ((⟨#[0, 1, 2, 2, 3, 3, 3, 3, 4, 4, 4, 4, 4, 4, 4, 4, 5, 5, 5, 5, 5, 5, 5, 5, 5, 5, 5, 5, 5, 5, 5, 5, 6, 6, 6, 6, 6, 6, 6, 6, 6, 6, 6, 6, 6, 6, 6, 6, 6, 6, 6, 6, 6, 6, 6, 6, 6, 6, 6, 6, 6, 6, 6, 6, 7, 7, 7, 7, 7, 7, 7, 7, 7, 7, 7, 7, 7, 7, 7, 7, 7, 7, 7, 7, 7, 7, 7, 7, 7, 7, 7, 7, 7, 7, 7, 7, 7, 7, 7, 7, 7, 7, 7, 7, 7, 7, 7, 7, 7, 7, 7, 7, 7, 7, 7, 7, 7, 7, 7, 7, 7, 7, 7, 7, 7, 7, 7, 7, 8, 8, 8, 8, 8, 8, 8, 8, 8, 8, 8, 8, 8, 8, 8, 8, 8, 8, 8, 8, 8, 8, 8, 8, 8, 8, 8, 8, 8, 8, 8, 8, 8, 8, 8, 8, 8, 8, 8, 8, 8, 8, 8, 8, 8, 8, 8, 8, 8, 8, 8, 8, 8, 8, 8, 8, 8, 8, 8, 8, 8, 8, 8, 8, 8, 8, 8, 8, 8, 8, 8, 8, 8, 8, 8, 8, 8, 8, 8, 8, 8, 8, 8, 8, 8, 8, 8, 8, 8, 8, 8, 8, 8, 8, 8, 8, 8, 8, 8, 8, 8, 8, 8, 8, 8, 8, 8, 8, 8, 8, 8, 8, 8, 8, 8, 8, 8, 8, 8, 8, 8, 8, 8, 8, 8, 8, 8, 8]⟩ : ByteArray).size : Int)) = true then
    let x1 := (byteAt (⟨#[0, 1, 2, 2, 3, 3, 3, 3, 4, 4, 4, 4, 4, 4, 4, 4, 5, 5, 5, 5, 5, 5, 5, 5, 5, 5, 5, 5, 5, 5, 5, 5, 6, 6, 6, 6, 6, 6, 6, 6, 6, 6, 6, 6, 6, 6, 6, 6, 6, 6, 6, 6, 6, 6, 6, 6, 6, 6, 6, 6, 6, 6, 6, 6, 7, 7, 7, 7, 7, 7, 7, 7, 7, 7, 7, 7, 7, 7, 7, 7, 7, 7, 7, 7, 7, 7, 7, 7, 7, 7, 7, 7, 7, 7, 7, 7, 7, 7, 7, 7, 7, 7, 7, 7, 7, 7, 7, 7, 7, 7, 7, 7, 7, 7, 7, 7, 7, 7, 7, 7, 7, 7, 7, 7, 7, 7, 7, 7, 8, 8, 8, 8, 8, 8, 8, 8, 8, 8, 8, 8, 8, 8, 8, 8, 8, 8, 8, 8, 8, 8, 8, 8, 8, 8, 8, 8, 8, 8, 8, 8, 8, 8, 8, 8, 8, 8, 8, 8, 8, 8, 8, 8, 8, 8, 8, 8, 8, 8, 8, 8, 8, 8, 8, 8, 8, 8, 8, 8, 8, 8, 8, 8, 8, 8, 8, 8, 8, 8, 8, 8, 8, 8, 8, 8, 8, 8, 8, 8, 8, 8, 8, 8, 8, 8, 8, 8, 8, 8, 8, 8, 8, 8, 8, 8, 8, 8, 8, 8, 8, 8, 8, 8, 8, 8, 8, 8, 8, 8, 8, 8, 8, 8, 8, 8, 8, 8, 8, 8, 8, 8, 8, 8, 8, 8, 8, 8]⟩ : ByteArray) (IntKind.u8.wrap v0))
    kr (IntKind.i64.wrap (v2 + (IntKind.i64.wrap x1)))
    else
    none)
noncomputable def math_bits_Len64_j7 {R : Type} (K : Nat) (k : Nat) (v0 : Int) (v2 : Int) (kn : Option R) (kr : (Int → Option R)) : Option R :=
    (if (decide (v0 ≥ (256 : Int))) = true then
    math_bits_Len64_j10 K k (shrI .u64 v0 (8 : Int)) (IntKind.i64.wrap (v2 + (8 : Int))) none (fun z2 =>
    kr z2)
    else
    math_bits_Len64_j10 K k v0 v2 none (fun z3 =>
    kr z3))
noncomputable def math_bits_Len64_j4 {R : Type} (K : Nat) (k : Nat) (v0 : Int) (v2 : Int) (kn : Option R) (kr : (Int → Option R)) : Option R :=
    (if (decide (v0 ≥ (65536 : Int))) = true then
    math_bits_Len64_j7 K k (shrI .u64 v0 (16 : Int)) (IntKind.i64.wrap (v2 + (16 : Int))) none (fun z4 =>
    kr z4)
    else
    math_bits_Len64_j7 K k v0 v2 none (fun z5 =>
    kr z5))
noncomputable def math_bits_Len64 (K : Nat) (x : (Int × Unit)) : Option Int :=
    (if (decide (x.1 ≥ (4294967296 : Int))) = true then
    math_bits_Len64_j4 K K (shrI .u64 x.1 (32 : Int)) (32 : Int) none (fun z6 =>
    some z6)
    else
    math_bits_Len64_j4 K K x.1 (0 : Int) none (fun z7 =>
    some z7))
noncomputable def rv_math_bits_Len64 : Lv := [(2, (.v (.int .i64)))]
noncomputable def D_math_bits_Len64 (K : Nat) : List (PD (den (.int .i64))) := [.J 4 [(0, (.v (.int .u64))), (2, (.v (.int .i64)))] [] 0 (fun k x kn kx kr => math_bits_Len64_j4 K k x.1 x.2.1 (kn ()) (fun z0 => kr (mkSt rv_math_bits_Len64 (z0, ())))),
  .J 7 [(0, (.v (.int .u64))), (2, (.v (.int .i64)))] [] 0 (fun k x kn kx kr => math_bits_Len64_j7 K k x.1 x.2.1 (kn ()) (fun z0 => kr (mkSt rv_math_bits_Len64 (z0, ())))),
  .J 10 [(0, (.v (.int .u64))), (2, (.v (.int .i64)))] [] 0 (fun k x kn kx kr => math_bits_Len64_j10 K k x.1 x.2.1 (kn ()) (fun z0 => kr (mkSt rv_math_bits_Len64 (z0, ()))))]
theorem ok_math_bits_Len64 (K : Nat) : FnOk Tryd.prog 115 (sp_math_bits_Len64 (math_bits_Len64 K)) :=
  fn_okD tysOk [] 0 (D_math_bits_Len64 K) [] rv_math_bits_Len64 K Tryd.func115 (by kernel_rfl) ⟨fun _ _ _ _ _ => by kernel_rfl, ⟨fun _ _ _ _ _ => by kernel_rfl, ⟨fun _ _ _ _ _ => by kernel_rfl, trivial⟩⟩⟩ (fun _ => by kernel_rfl)
noncomputable def C_math_bits_Len64 (K : Nat) : CB Tryd.prog := .f _ _ (ok_math_bits_Len64 K)
noncomputable def as_internal_strconv_log10Pow2 : Ty := (.pair (.int .i64) .unit)
noncomputable def sp_internal_strconv_log10Pow2 (F : (Int × Unit) → Option Int) : FnSpec := ⟨as_internal_strconv_log10Pow2, [false], (.int .i64), F⟩
noncomputable def internal_strconv_log10Pow2 (K : Nat) (x : (Int × Unit)) : Option Int :=
    let x1 := (shrI .i64 (IntKind.i64.wrap (x.1 * (78913 : Int))) (18 : Int))
    some x1
noncomputable def rv_internal_strconv_log10Pow2 : Lv := [(2, (.v (.int .i64)))]
theorem ok_internal_strconv_log10Pow2 (K : Nat) : FnOk Tryd.prog 123 (sp_internal_strconv_log10Pow2 (internal_strconv_log10Pow2 K)) :=
  fn_okD tysOk [] 0 [] [] rv_internal_strconv_log10Pow2 K Tryd.func123 (by kernel_rfl) trivial (fun _ => by kernel_rfl)
noncomputable def C_internal_strconv_log10Pow2 (K : Nat) : CB Tryd.prog := .f _ _ (ok_internal_strconv_log10Pow2 K)
noncomputable def as_internal_strconv_numDigits : Ty := (.pair (.int .u64) .unit)
noncomputable def sp_internal_strconv_numDigits (F : (Int × Unit) → Option Int) : FnSpec := ⟨as_internal_strconv_numDigits, [false], (.int .i64), F⟩
noncomputable def internal_strconv_numDigits (K : Nat) (x : (Int × Unit)) : Option Int :=
    (math_bits_Len64 K (x.1, ())).bind fun y1 =>
    (internal_strconv_log10Pow2 K (y1, ())).bind fun y2 =>
    none
noncomputable def rv_internal_strconv_numDigits : Lv := []
theorem ok_internal_strconv_numDigits (K : Nat) : FnOk Tryd.prog 102 (sp_internal_strconv_numDigits (internal_strconv_numDigits K)) :=
  fn_okD tysOk [C_math_bits_Len64 K, C_internal_strconv_log10Pow2 K] 0 [] [] rv_internal_strconv_numDigits K Tryd.func102 (by kernel_rfl) trivial (fun _ => by kernel_rfl)
noncomputable def C_internal_strconv_numDigits (K : Nat) : CB Tryd.prog := .f _ _ (ok_internal_strconv_numDigits K)
noncomputable def as_internal_strconv_formatBits : Ty := (.pair (.sl (.int .u8)) (.pair (.int .u64) (.pair (.int .i64) (.pair .bool (.pair .bool .unit)))))
noncomputable def sp_internal_strconv_formatBits (F : ((List Int) × Int × Int × Bool × Bool × Unit) → Option ((List Int) × ByteArray × Unit)) : FnSpec := ⟨as_internal_strconv_formatBits, [false, false, false, false, false], (.tup (.pair (.sl (.int .u8)) (.pair .str .unit))), F⟩
noncomputable def internal_strconv_formatBits (K : Nat) (x : ((List Int) × Int × Int × Bool × Bool × Unit)) : Option ((List Int) × ByteArray × Unit) := none
theorem ok_internal_strconv_formatBits (K : Nat) : FnOk Tryd.prog 104 (sp_internal_strconv_formatBits (internal_strconv_formatBits K)) := fnOk_none
noncomputable def C_internal_strconv_formatBits (K : Nat) : CB Tryd.prog := .f _ _ (ok_internal_strconv_formatBits K)
noncomputable def as_internal_strconv_FormatInt : Ty := (.pair (.int .i64) (.pair (.int .i64) .unit))
noncomputable def sp_internal_strconv_FormatInt (F : (Int × Int × Unit) → Option ByteArray) : FnSpec := ⟨as_internal_strconv_FormatInt, [false, false], .str, F⟩
noncomputable def internal_strconv_FormatInt_j8 {R : Type} (K : Nat) (k : Nat) (v0 : Int) (v5 : (List Int)) (v6 : Int) (kn : Option R) (kr : (ByteArray → Option R)) : Option R :=
    (internal_strconv_numDigits K (v6, ())).bind fun y2 =>
    none
noncomputable def internal_strconv_FormatInt_j4 {R : Type} (K : Nat) (k : Nat) (v0 : Int) (kn : Option R) (kr : (ByteArray → Option R)) : Option R :=
    (if (decide (v0 < (0 : Int))) = true then
    internal_strconv_FormatInt_j8 K k v0 (List.replicate 24 (0 : Int)) (IntKind.u64.wrap (0 - (IntKind.u64.wrap v0))) none (fun z3 =>
    kr z3)
    else
    internal_strconv_FormatInt_j8 K k v0 (List.replicate 24 (0 : Int)) (IntKind.u64.wrap v0) none (fun z4 =>
    kr z4))
noncomputable def internal_strconv_FormatInt (K : Nat) (x : (Int × Int × Unit)) : Option ByteArray :=
    (if (decide (x.2.1 = (10 : Int))) = true then
    (if (decide ((0 : Int) ≤ x.1)) = true then
    (if (decide (x.1 < (100 : Int))) = true then
    (internal_strconv_small K (x.1, ())).bind fun y1 =>
    some y1
    else
    internal_strconv_FormatInt_j4 K K x.1 none (fun z5 =>
    some z5))
    else
    internal_strconv_FormatInt_j4 K K x.1 none (fun z6 =>
    some z6))
    else
    (internal_strconv_formatBits K (([] : List Int), (IntKind.u64.wrap x.1), x.2.1, (decide (x.1 < (0 : Int))), false, ())).bind fun y7 =>
    some y7.2.1)
noncomputable def rv_internal_strconv_FormatInt : Lv := [(4, (.v .str))]
noncomputable def D_internal_strconv_FormatInt (K : Nat) : List (PD (den .str)) := [.J 4 [(0, (.v (.int .i64)))] [] 0 (fun k x kn kx kr => internal_strconv_FormatInt_j4 K k x.1 (kn ()) (fun z0 => kr (mkSt rv_internal_strconv_FormatInt (z0, ())))),
  .J 8 [(0, (.v (.int .i64))), (5, (.bx (.v (.arr 24 (.int .u8))))), (6, (.v (.int .u64)))] [] 0 (fun k x kn kx kr => internal_strconv_FormatInt_j8 K k x.1 x.2.1 x.2.2.1 (kn ()) (fun z0 => kr (mkSt rv_internal_strconv_FormatInt (z0, ()))))]
theorem ok_internal_strconv_FormatInt (K : Nat) : FnOk Tryd.prog 93 (sp_internal_strconv_FormatInt (internal_strconv_FormatInt K)) :=
  fn_okD tysOk [C_internal_strconv_small K, C_internal_strconv_numDigits K, C_internal_strconv_formatBits K] 0 (D_internal_strconv_FormatInt K) [] rv_internal_strconv_FormatInt K Tryd.func93 (by kernel_rfl) ⟨fun _ _ _ _ _ => by kernel_rfl, ⟨fun _ _ _ _ _ => by kernel_rfl, trivial⟩⟩ (fun _ => by kernel_rfl)
noncomputable def C_internal_strconv_FormatInt (K : Nat) : CB Tryd.prog := .f _ _ (ok_internal_strconv_FormatInt K)
noncomputable def as_strconv_FormatInt : Ty := (.pair (.int .i64) (.pair (.int .i64) .unit))
noncomputable def sp_strconv_FormatInt (F : (Int × Int × Unit) → Option ByteArray) : FnSpec := ⟨as_strconv_FormatInt, [false, false], .str, F⟩
noncomputable def strconv_FormatInt (K : Nat) (x : (Int × Int × Unit)) : Option ByteArray :=
    (internal_strconv_FormatInt K (x.1, x.2.1, ())).bind fun y1 =>
    some y1
noncomputable def rv_strconv_FormatInt : Lv := [(4, (.v .str))]
theorem ok_strconv_FormatInt (K : Nat) : FnOk Tryd.prog 72 (sp_strconv_FormatInt (strconv_FormatInt K)) :=
  fn_okD tysOk [C_internal_strconv_FormatInt K] 0 [] [] rv_strconv_FormatInt K Tryd.func72 (by kernel_rfl) trivial (fun _ => by kernel_rfl)
noncomputable def C_strconv_FormatInt (K : Nat) : CB Tryd.prog := .f _ _ (ok_strconv_FormatInt K)
noncomputable def as_i_separatedName : Ty := (.pair .str (.pair .bool (.pair .bool (.pair (.int .i64) .unit))))
noncomputable def sp_i_separatedName (F : (ByteArray × Bool × Bool × Int × Unit) → Option ByteArray) : FnSpec := ⟨as_i_separatedName, [false, false, false, false], .str, F⟩
noncomputable def i_separatedName (K : Nat) (x : (ByteArray × Bool × Bool × Int × Unit)) : Option ByteArray :=
    (i_choose K (x.2.1, (⟨#[48]⟩ : ByteArray), (⟨#[49]⟩ : ByteArray), ())).bind fun y1 =>
    (i_choose K (x.2.1, (⟨#[50]⟩ : ByteArray), (⟨#[]⟩ : ByteArray), ())).bind fun y2 =>
    (i_choose K (x.2.2.1, y1, y2, ())).bind fun y3 =>
    (if (decide (x.2.2.2.1 < (9 : Int))) = true then
    (if (decide (x.1.size + y3.size ≤ 9223372036854775807)) = true then
    (if (decide ((x.1 ++ y3).size + (⟨#[94]⟩ : ByteArray).size ≤ 9223372036854775807)) = true then
    (strconv_FormatInt K (x.2.2.2.1, (10 : Int), ())).bind fun y4 =>
    (if (decide (((x.1 ++ y3) ++ (⟨#[94]⟩ : ByteArray)).size + y4.size ≤ 9223372036854775807)) = true then
    some (((x.1 ++ y3) ++ (⟨#[94]⟩ : ByteArray)) ++ y4)
    else
    none)
    else
    none)
    else
    none)
    else
    (if (decide (x.1.size + y3.size ≤ 9223372036854775807)) = true then
    some (x.1 ++ y3)
    else
    none))
noncomputable def rv_i_separatedName : Lv := [(8, (.v .str))]
theorem ok_i_separatedName (K : Nat) : FnOk Tryd.prog 40 (sp_i_separatedName (i_separatedName K)) :=
  fn_okD tysOk [C_i_choose K, C_strconv_FormatInt K] 0 [] [] rv_i_separatedName K Tryd.func40 (by kernel_rfl) trivial (fun _ => by kernel_rfl)
noncomputable def C_i_separatedName (K : Nat) : CB Tryd.prog := .f _ _ (ok_i_separatedName K)
noncomputable def as_i_cloneName : Ty := (.pair (.sl tq0) .unit)
noncomputable def sp_i_cloneName (F : ((List dq0) × Unit) → Option ByteArray) : FnSpec := ⟨as_i_cloneName, [false], .str, F⟩
noncomputable def i_cloneName_l3 {R : Type} (K : Nat) : Nat → (List dq0) → (List Bool) → Int → ((List dq0) → (List Bool) → Option R) → Option R
  | 0, _, _, _, _ => none
  | k + 1, v0, v3, v10, kx0 =>
    (if (decide (v10 < (5 : Int))) = true then
    (i_allIn K (v0, v10, ())).bind fun y1 =>
    (if (bnds v10 (5 : Int)) = true then
    let a2 := (v3.set v10.toNat y1)
    i_cloneName_l3 K k v0 a2 (IntKind.i64.wrap (v10 + (1 : Int))) kx0
    else
    none)
    else
    kx0 v0 v3)
noncomputable def i_cloneName_j20 {R : Type} (K : Nat) (k : Nat) (v0 : (List dq0)) (v5 : Bool) (v6 : Bool) (v7 : Bool) (v8 : Bool) (v9 : Bool) (kn : Bool → Bool → Option R) (kr : (ByteArray → Option R)) : Option R :=
    gN K ((if v9 = true then
    (i_byConstants K ((⟨#[76]⟩ : ByteArray), v5, v6, ())).bind fun y17 =>
    kr y17
    else
    (if v7 = true then
    (i_choose K (v5, (⟨#[68, 49]⟩ : ByteArray), (⟨#[68]⟩ : ByteArray), ())).bind fun y18 =>
    (i_choose K (v8, (⟨#[68, 50]⟩ : ByteArray), y18, ())).bind fun y19 =>
    kr y19
    else
    (i_least K (v0, (0 : Int), ())).bind fun y20 =>
    (if (decide (y20 ≥ (2 : Int))) = true then
    (i_least K (v0, (0 : Int), ())).bind fun y21 =>
    (i_separatedName K ((⟨#[83, 48]⟩ : ByteArray), v5, v8, y21, ())).bind fun y22 =>
    kr y22
    else
    (i_least K (v0, (1 : Int), ())).bind fun y23 =>
    (if (decide (y23 ≥ (2 : Int))) = true then
    (i_least K (v0, (1 : Int), ())).bind fun y24 =>
    (i_separatedName K ((⟨#[83, 49]⟩ : ByteArray), v6, v8, y24, ())).bind fun y25 =>
    kr y25
    else
    (if v8 = true then
    (i_byConstants K ((⟨#[77]⟩ : ByteArray), v5, v6, ())).bind fun y26 =>
    kr y26
    else
    kn v5 v6))))))
noncomputable def i_cloneName_j18 {R : Type} (K : Nat) (k : Nat) (v0 : (List dq0)) (v5 : Bool) (v6 : Bool) (v7 : Bool) (v8 : Bool) (v9 : Bool) (kn : Bool → Bool → Option R) (kr : (ByteArray → Option R)) : Option R :=
    gN K ((if v9 = true then
    (if v7 = true then
    kr (⟨#[76, 51]⟩ : ByteArray)
    else
    i_cloneName_j20 K k v0 v5 v6 v7 v8 v9 (fun z27 z28 =>
    kn z27 z28) (fun z29 =>
    kr z29))
    else
    i_cloneName_j20 K k v0 v5 v6 v7 v8 v9 (fun z30 z31 =>
    kn z30 z31) (fun z32 =>
    kr z32)))
noncomputable def i_cloneName_j10 {R : Type} (K : Nat) (k : Nat) (v0 : (List dq0)) (v5 : Bool) (v6 : Bool) (v7 : Bool) (v8 : Bool) (v9 : Bool) (kn : Bool → Bool → Option R) (kr : (ByteArray → Option R)) : Option R :=
    gN K ((i_allAre K (v0, (fun y9 => i_Func_isUnary K (y9.1, ())), ())).bind fun y8 =>
    (if y8 = true then
    (i_choose K (v7, (⟨#[78, 50]⟩ : ByteArray), (⟨#[78]⟩ : ByteArray), ())).bind fun y10 =>
    kr y10
    else
    (i_allAre K (v0, (fun y12 => i_Func_isDisjunction K (y12.1, ())), ())).bind fun y11 =>
    (if y11 = true then
    (i_byConstants K ((⟨#[86]⟩ : ByteArray), v5, v6, ())).bind fun y13 =>
    kr y13
    else
    (i_allAre K (v0, (fun y15 => i_Func_isConjunction K (y15.1, ())), ())).bind fun y14 =>
    (if y14 = true then
    (i_byConstants K ((⟨#[69]⟩ : ByteArray), v5, v6, ())).bind fun y16 =>
    kr y16
    else
    (if v9 = true then
    (if v5 = true then
    (if v6 = true then
    kr (⟨#[76, 50]⟩ : ByteArray)
    else
    i_cloneName_j18 K k v0 v5 v6 v7 v8 v9 (fun z33 z34 =>
    kn z33 z34) (fun z35 =>
    kr z35))
    else
    i_cloneName_j18 K k v0 v5 v6 v7 v8 v9 (fun z36 z37 =>
    kn z36 z37) (fun z38 =>
    kr z38))
    else
    i_cloneName_j18 K k v0 v5 v6 v7 v8 v9 (fun z39 z40 =>
    kn z39 z40) (fun z41 =>
    kr z41))))))
noncomputable def i_cloneName_j30 {R : Type} (K : Nat) (k : Nat) (v5 : Bool) (v6 : Bool) (kn : Option R) (kr : (ByteArray → Option R)) : Option R :=
    (if v5 = true then
    (i_byConstants K ((⟨#[82]⟩ : ByteArray), v5, v6, ())).bind fun y44 =>
    (i_choose K (true, y44, (⟨#[66, 70]⟩ : ByteArray), ())).bind fun y45 =>
    kr y45
    else
    (i_byConstants K ((⟨#[82]⟩ : ByteArray), v5, v6, ())).bind fun y46 =>
    (i_choose K (v6, y46, (⟨#[66, 70]⟩ : ByteArray), ())).bind fun y47 =>
    kr y47)
noncomputable def i_cloneName (K : Nat) (x : ((List dq0) × Unit)) : Option ByteArray :=
    i_cloneName_l3 K K x.1 (List.replicate 5 false) (0 : Int) (fun z3 z4 =>
    (if (bnds (0 : Int) (5 : Int)) = true then
    (if (bnds (1 : Int) (5 : Int)) = true then
    (if (bnds (2 : Int) (5 : Int)) = true then
    (if (bnds (3 : Int) (5 : Int)) = true then
    (if (bnds (4 : Int) (5 : Int)) = true then
    (i_allAre K (z3, (fun y6 => i_Func_isUnary K (y6.1, ())), ())).bind fun y5 =>
    (if y5 = true then
    (if (z4.getD (3 : Int).toNat false) = true then
    (i_byConstants K ((⟨#[73]⟩ : ByteArray), (z4.getD (0 : Int).toNat false), (z4.getD (1 : Int).toNat false), ())).bind fun y7 =>
    some y7
    else
    i_cloneName_j10 K K z3 (z4.getD (0 : Int).toNat false) (z4.getD (1 : Int).toNat false) (z4.getD (2 : Int).toNat false) (z4.getD (3 : Int).toNat false) (z4.getD (4 : Int).toNat false) (fun z42 z43 =>
    i_cloneName_j30 K K z42 z43 none (fun z48 =>
    some z48)) (fun z49 =>
    some z49))
    else
    i_cloneName_j10 K K z3 (z4.getD (0 : Int).toNat false) (z4.getD (1 : Int).toNat false) (z4.getD (2 : Int).toNat false) (z4.getD (3 : Int).toNat false) (z4.getD (4 : Int).toNat false) (fun z50 z51 =>
    i_cloneName_j30 K K z50 z51 none (fun z52 =>
    some z52)) (fun z53 =>
    some z53))
    else
    none)
    else
    none)
    else
    none)
    else
    none)
    else
    none))
noncomputable def X0_i_cloneName : Lv := [(0, (.v (.sl tq0))), (3, (.bx (.v (.arr 5 .bool))))]
noncomputable def rv_i_cloneName : Lv := [(2, (.v .str))]
noncomputable def D_i_cloneName (K : Nat) : List (PD (den .str)) := [.L 3 [(0, (.v (.sl tq0))), (3, (.bx (.v (.arr 5 .bool)))), (10, (.v (.int .i64)))] [] (fun k x kx kr => i_cloneName_l3 K k x.1 x.2.1 x.2.2.1 (fun z0 z1 => kx 0 (mkSt X0_i_cloneName (z0, z1, ())))),
  .J 10 [(0, (.v (.sl tq0))), (5, (.v .bool)), (6, (.v .bool)), (7, (.v .bool)), (8, (.v .bool)), (9, (.v .bool))] [(5, (.v .bool)), (6, (.v .bool))] K (fun k x kn kx kr => i_cloneName_j10 K k x.1 x.2.1 x.2.2.1 x.2.2.2.1 x.2.2.2.2.1 x.2.2.2.2.2.1 (fun z0 z1 => kn (z0, z1, ())) (fun z0 => kr (mkSt rv_i_cloneName (z0, ())))),
  .J 18 [(0, (.v (.sl tq0))), (5, (.v .bool)), (6, (.v .bool)), (7, (.v .bool)), (8, (.v .bool)), (9, (.v .bool))] [(5, (.v .bool)), (6, (.v .bool))] K (fun k x kn kx kr => i_cloneName_j18 K k x.1 x.2.1 x.2.2.1 x.2.2.2.1 x.2.2.2.2.1 x.2.2.2.2.2.1 (fun z0 z1 => kn (z0, z1, ())) (fun z0 => kr (mkSt rv_i_cloneName (z0, ())))),
  .J 20 [(0, (.v (.sl tq0))), (5, (.v .bool)), (6, (.v .bool)), (7, (.v .bool)), (8, (.v .bool)), (9, (.v .bool))] [(5, (.v .bool)), (6, (.v .bool))] K (fun k x kn kx kr => i_cloneName_j20 K k x.1 x.2.1 x.2.2.1 x.2.2.2.1 x.2.2.2.2.1 x.2.2.2.2.2.1 (fun z0 z1 => kn (z0, z1, ())) (fun z0 => kr (mkSt rv_i_cloneName (z0, ())))),
  .J 30 [(5, (.v .bool)), (6, (.v .bool))] [] 0 (fun k x kn kx kr => i_cloneName_j30 K k x.1 x.2.1 (kn ()) (fun z0 => kr (mkSt rv_i_cloneName (z0, ()))))]
theorem ok_i_cloneName (K : Nat) : FnOk Tryd.prog 18 (sp_i_cloneName (i_cloneName K)) :=
  fn_okD tysOk [C_i_allIn K, C_i_allAre K, C_i_Func_isUnary K, C_i_byConstants K, C_i_choose K, C_i_Func_isDisjunction K, C_i_Func_isConjunction K, C_i_least K, C_i_separatedName K] 0 (D_i_cloneName K) [(0, X0_i_cloneName)] rv_i_cloneName K Tryd.func18 (by kernel_rfl) ⟨⟨fun _ _ _ _ => by kernel_rfl, fun _ _ _ => rfl⟩, ⟨fun _ _ _ _ _ => by kernel_rfl, ⟨fun _ _ _ _ _ => by kernel_rfl, ⟨fun _ _ _ _ _ => by kernel_rfl, ⟨fun _ _ _ _ _ => by kernel_rfl, trivial⟩⟩⟩⟩⟩ (fun _ => by kernel_rfl)
noncomputable def C_i_cloneName (K : Nat) : CB Tryd.prog := .f _ _ (ok_i_cloneName K)
noncomputable def as_s_l02Classes : Ty := (.pair (.sl tq0) (.pair (.int .i64) .unit))
noncomputable def sp_s_l02Classes (F : ((List dq0) × Int × Unit) → Option Int) : FnSpec := ⟨as_s_l02Classes, [false, false], (.int .i64), F⟩
noncomputable def s_l02Classes_l7 {R : Type} (K : Nat) : Nat → (List dq0) → Int → Int → Int → Bool → Int → ((List dq0) → Int → Int → Int → Bool → Option R) → Option R
  | 0, _, _, _, _, _, _, _ => none
  | k + 1, v0, v1, v5, v6, v7, v8, kx2 =>
    (if (decide (v8 < (v0.length : Int))) = true then
    (if v7 = true then
    (if (decide ((0 : Int) ≤ (IntKind.u64.wrap v8))) = true then
    let x1 := (bitI .and .i64 (shrI .i64 v1 (IntKind.u64.wrap v8)) (1 : Int))
    (if (decide (x1 = (0 : Int))) = true then
    s_l02Classes_l7 K k v0 v1 v5 v6 true (IntKind.i64.wrap (v8 + (1 : Int))) kx2
    else
    (if (bnds v8 (v0.length : Int)) = true then
    (s_l02In K ((v0.getD v8.toNat ((0 : Int), (0 : Int), ())), v6, ())).bind fun y2 =>
    s_l02Classes_l7 K k v0 v1 v5 v6 y2 (IntKind.i64.wrap (v8 + (1 : Int))) kx2
    else
    none))
    else
    none)
    else
    s_l02Classes_l7 K k v0 v1 v5 v6 false (IntKind.i64.wrap (v8 + (1 : Int))) kx2)
    else
    kx2 v0 v1 v5 v6 v7)
noncomputable def s_l02Classes_l3 {R : Type} (K : Nat) : Nat → (List dq0) → Int → Int → Int → (Int → Option R) → Option R
  | 0, _, _, _, _, _ => none
  | k + 1, v0, v1, v5, v6, kx0 =>
    (if (decide (v6 < (5 : Int))) = true then
    s_l02Classes_l7 K k v0 v1 v5 v6 true (0 : Int) (fun z3 z4 z5 z6 z7 =>
    (if z7 = true then
    (if (decide ((0 : Int) ≤ (IntKind.u64.wrap z6))) = true then
    let x8 := (bitI .or .i64 z5 (shlI .i64 (1 : Int) (IntKind.u64.wrap z6)))
    s_l02Classes_l3 K k z3 z4 x8 (IntKind.i64.wrap (z6 + (1 : Int))) kx0
    else
    none)
    else
    s_l02Classes_l3 K k z3 z4 z5 (IntKind.i64.wrap (z6 + (1 : Int))) kx0))
    else
    kx0 v5)
noncomputable def s_l02Classes (K : Nat) (x : ((List dq0) × Int × Unit)) : Option Int :=
    s_l02Classes_l3 K K x.1 x.2.1 (0 : Int) (0 : Int) (fun z9 =>
    some z9)
noncomputable def X0_s_l02Classes : Lv := [(5, (.v (.int .i64)))]
noncomputable def X2_s_l02Classes : Lv := [(0, (.v (.sl tq0))), (1, (.v (.int .i64))), (5, (.v (.int .i64))), (6, (.v (.int .i64))), (7, (.v .bool))]
noncomputable def rv_s_l02Classes : Lv := [(4, (.v (.int .i64)))]
noncomputable def D_s_l02Classes (K : Nat) : List (PD (den (.int .i64))) := [.L 3 [(0, (.v (.sl tq0))), (1, (.v (.int .i64))), (5, (.v (.int .i64))), (6, (.v (.int .i64)))] [] (fun k x kx kr => s_l02Classes_l3 K k x.1 x.2.1 x.2.2.1 x.2.2.2.1 (fun z0 => kx 0 (mkSt X0_s_l02Classes (z0, ())))),
  .L 7 [(0, (.v (.sl tq0))), (1, (.v (.int .i64))), (5, (.v (.int .i64))), (6, (.v (.int .i64))), (7, (.v .bool)), (8, (.v (.int .i64)))] [] (fun k x kx kr => s_l02Classes_l7 K k x.1 x.2.1 x.2.2.1 x.2.2.2.1 x.2.2.2.2.1 x.2.2.2.2.2.1 (fun z0 z1 z2 z3 z4 => kx 2 (mkSt X2_s_l02Classes (z0, z1, z2, z3, z4, ()))))]
theorem ok_s_l02Classes (K : Nat) : FnOk Tryd.prog 23 (sp_s_l02Classes (s_l02Classes K)) :=
  fn_okD tysOk [C_s_l02In K] 0 (D_s_l02Classes K) [(0, X0_s_l02Classes), (2, X2_s_l02Classes)] rv_s_l02Classes K Tryd.func23 (by kernel_rfl) ⟨⟨fun _ _ _ _ => by kernel_rfl, fun _ _ _ => rfl⟩, ⟨⟨fun _ _ _ _ => by kernel_rfl, fun _ _ _ => rfl⟩, trivial⟩⟩ (fun _ => by kernel_rfl)
noncomputable def C_s_l02Classes (K : Nat) : CB Tryd.prog := .f _ _ (ok_s_l02Classes K)
noncomputable def as_s_l02Whole : Ty := (.pair (.sl tq0) .unit)
noncomputable def sp_s_l02Whole (F : ((List dq0) × Unit) → Option Int) : FnSpec := ⟨as_s_l02Whole, [false], (.int .i64), F⟩
noncomputable def s_l02Whole (K : Nat) (x : ((List dq0) × Unit)) : Option Int :=
    (if (decide ((0 : Int) ≤ (IntKind.u64.wrap (x.1.length : Int)))) = true then
    let x1 := (IntKind.i64.wrap ((shlI .i64 (1 : Int) (IntKind.u64.wrap (x.1.length : Int))) - (1 : Int)))
    some x1
    else
    none)
noncomputable def rv_s_l02Whole : Lv := [(2, (.v (.int .i64)))]
theorem ok_s_l02Whole (K : Nat) : FnOk Tryd.prog 24 (sp_s_l02Whole (s_l02Whole K)) :=
  fn_okD tysOk [] 0 [] [] rv_s_l02Whole K Tryd.func24 (by kernel_rfl) trivial (fun _ => by kernel_rfl)
noncomputable def C_s_l02Whole (K : Nat) : CB Tryd.prog := .f _ _ (ok_s_l02Whole K)
noncomputable def as_s_l08Four : Ty := (.pair (.int .i64) (.pair .str (.pair .str (.pair .str (.pair .str .unit)))))
noncomputable def sp_s_l08Four (F : (Int × ByteArray × ByteArray × ByteArray × ByteArray × Unit) → Option ByteArray) : FnSpec := ⟨as_s_l08Four, [false, false, false, false, false], .str, F⟩
noncomputable def s_l08Four (K : Nat) (x : (Int × ByteArray × ByteArray × ByteArray × ByteArray × Unit)) : Option ByteArray :=
    (if (decide ((bitI .and .i64 x.1 (3 : Int)) = (3 : Int))) = true then
    some x.2.1
    else
    (if (decide ((bitI .and .i64 x.1 (3 : Int)) = (1 : Int))) = true then
    some x.2.2.1
    else
    (if (decide ((bitI .and .i64 x.1 (3 : Int)) = (2 : Int))) = true then
    some x.2.2.2.1
    else
    some x.2.2.2.2.1)))
noncomputable def rv_s_l08Four : Lv := [(10, (.v .str))]
theorem ok_s_l08Four (K : Nat) : FnOk Tryd.prog 28 (sp_s_l08Four (s_l08Four K)) :=
  fn_okD tysOk [] 0 [] [] rv_s_l08Four K Tryd.func28 (by kernel_rfl) trivial (fun _ => by kernel_rfl)
noncomputable def C_s_l08Four (K : Nat) : CB Tryd.prog := .f _ _ (ok_s_l08Four K)
noncomputable def s_l01Dec_b (K : Nat) (r : (Int × Unit) → Option ByteArray) (x : (Int × Unit)) : Option ByteArray :=
    (if (decide (x.1 < (0 : Int))) = true then
    (r ((IntKind.i64.wrap (0 - x.1)), ())).bind fun y1 =>
    (if (decide ((⟨#[45]⟩ : ByteArray).size + y1.size ≤ 9223372036854775807)) = true then
    some ((⟨#[45]⟩ : ByteArray) ++ y1)
    else
    none)
    else
    (if (decide (x.1 < (10 : Int))) = true then
    let l2 := [(IntKind.u8.wrap (IntKind.i64.wrap ((48 : Int) + x.1)))]
    some (bytesOf l2)
    else
    (r ((IntKind.i64.wrap (Int.tdiv x.1 (10 : Int))), ())).bind fun y3 =>
    let x4 := (IntKind.u8.wrap (IntKind.i64.wrap ((48 : Int) + (Int.tmod x.1 (10 : Int)))))
    (if (decide (y3.size + (bytesOf ([x4])).size ≤ 9223372036854775807)) = true then
    some (y3 ++ (bytesOf ([x4])))
    else
    none)))
noncomputable def s_l01Dec (K : Nat) : Nat → (Int × Unit) → Option ByteArray
  | 0 => fun _ => none
  | k + 1 => s_l01Dec_b K (s_l01Dec K k)
noncomputable def rv_s_l01Dec : Lv := [(2, (.v .str))]
theorem okb_s_l01Dec (K : Nat) (r : (Int × Unit) → Option ByteArray) (hr : FnOk Tryd.prog 59 (sp_s_l01Dec r)) : FnOk Tryd.prog 59 (sp_s_l01Dec (s_l01Dec_b K r)) :=
  fn_okD tysOk [.f _ (sp_s_l01Dec (r)) (hr)] 0 [] [] rv_s_l01Dec K Tryd.func59 (by kernel_rfl) trivial (fun _ => by kernel_rfl)
theorem ok_s_l01Dec (K : Nat) : ∀ k, FnOk Tryd.prog 59 (sp_s_l01Dec (s_l01Dec K k))
  | 0 => fnOk_none
  | k + 1 => okb_s_l01Dec K (s_l01Dec K k) (ok_s_l01Dec K k)
noncomputable def as_s_l08Degrees : Ty := (.pair .str (.pair (.int .i64) .unit))
noncomputable def sp_s_l08Degrees (F : (ByteArray × Int × Unit) → Option ByteArray) : FnSpec := ⟨as_s_l08Degrees, [false, false], .str, F⟩
noncomputable def s_l08Degrees (K : Nat) (x : (ByteArray × Int × Unit)) : Option ByteArray :=
    (if (decide (x.2.1 = (9 : Int))) = true then
    some x.1
    else
    (if (decide (x.1.size + (⟨#[94]⟩ : ByteArray).size ≤ 9223372036854775807)) = true then
    (s_l01Dec K K (x.2.1, ())).bind fun y1 =>
    (if (decide ((x.1 ++ (⟨#[94]⟩ : ByteArray)).size + y1.size ≤ 9223372036854775807)) = true then
    some ((x.1 ++ (⟨#[94]⟩ : ByteArray)) ++ y1)
    else
    none)
    else
    none))
noncomputable def rv_s_l08Degrees : Lv := [(4, (.v .str))]
theorem ok_s_l08Degrees (K : Nat) : FnOk Tryd.prog 29 (sp_s_l08Degrees (s_l08Degrees K)) :=
  fn_okD tysOk [.f _ (sp_s_l01Dec (s_l01Dec K K)) (ok_s_l01Dec K K)] 0 [] [] rv_s_l08Degrees K Tryd.func29 (by kernel_rfl) trivial (fun _ => by kernel_rfl)
noncomputable def C_s_l08Degrees (K : Nat) : CB Tryd.prog := .f _ _ (ok_s_l08Degrees K)
noncomputable def as_s_l08Kind : Ty := (.pair .bool (.pair .bool (.pair .str (.pair .str (.pair .str (.pair .str .unit))))))
noncomputable def sp_s_l08Kind (F : (Bool × Bool × ByteArray × ByteArray × ByteArray × ByteArray × Unit) → Option ByteArray) : FnSpec := ⟨as_s_l08Kind, [false, false, false, false, false, false], .str, F⟩
noncomputable def s_l08Kind_j3 {R : Type} (K : Nat) (k : Nat) (v0 : Bool) (v1 : Bool) (v3 : ByteArray) (v4 : ByteArray) (v5 : ByteArray) (kn : ByteArray → Option R) (kr : (ByteArray → Option R)) : Option R :=
    gN K ((if v1 = true then
    kr v3
    else
    (if v0 = true then
    kr v4
    else
    kn v5)))
noncomputable def s_l08Kind (K : Nat) (x : (Bool × Bool × ByteArray × ByteArray × ByteArray × ByteArray × Unit)) : Option ByteArray :=
    (if x.1 = true then
    (if x.2.1 = true then
    some x.2.2.1
    else
    s_l08Kind_j3 K K x.1 x.2.1 x.2.2.2.1 x.2.2.2.2.1 x.2.2.2.2.2.1 (fun z1 =>
    some z1) (fun z2 =>
    some z2))
    else
    s_l08Kind_j3 K K x.1 x.2.1 x.2.2.2.1 x.2.2.2.2.1 x.2.2.2.2.2.1 (fun z3 =>
    some z3) (fun z4 =>
    some z4))
noncomputable def rv_s_l08Kind : Lv := [(12, (.v .str))]
noncomputable def D_s_l08Kind (K : Nat) : List (PD (den .str)) := [.J 3 [(0, (.v .bool)), (1, (.v .bool)), (3, (.v .str)), (4, (.v .str)), (5, (.v .str))] [(5, (.v .str))] K (fun k x kn kx kr => s_l08Kind_j3 K k x.1 x.2.1 x.2.2.1 x.2.2.2.1 x.2.2.2.2.1 (fun z0 => kn (z0, ())) (fun z0 => kr (mkSt rv_s_l08Kind (z0, ()))))]
theorem ok_s_l08Kind (K : Nat) : FnOk Tryd.prog 30 (sp_s_l08Kind (s_l08Kind K)) :=
  fn_okD tysOk [] 0 (D_s_l08Kind K) [] rv_s_l08Kind K Tryd.func30 (by kernel_rfl) ⟨fun _ _ _ _ _ => by kernel_rfl, trivial⟩ (fun _ => by kernel_rfl)
noncomputable def C_s_l08Kind (K : Nat) : CB Tryd.prog := .f _ _ (ok_s_l08Kind K)
noncomputable def as_s_l08Name : Ty := (.pair (.sl tq0) .unit)
noncomputable def sp_s_l08Name (F : ((List dq0) × Unit) → Option ByteArray) : FnSpec := ⟨as_s_l08Name, [false], .str, F⟩
noncomputable def s_l08Name_j9 {R : Type} (K : Nat) (k : Nat) (v0 : (List dq0)) (v3 : Int) (v4 : Bool) (v5 : Bool) (v6 : Bool) (v7 : Int) (v8 : Int) (v9 : Int) (kn : (List dq0) → Int → Bool → Bool → Bool → Int → Int → Int → Option R)  : Option R :=
    (if (bnds v9 (v0.length : Int)) = true then
    (s_l08Degree K ((v0.getD v9.toNat ((0 : Int), (0 : Int), ())), (0 : Int), ())).bind fun y6 =>
    (if (bnds v9 (v0.length : Int)) = true then
    (s_l08Degree K ((v0.getD v9.toNat ((0 : Int), (0 : Int), ())), (1 : Int), ())).bind fun y7 =>
    kn v0 v3 v4 v5 v6 (minL v7 [y6]) (minL v8 [y7]) v9
    else
    none)
    else
    none)
noncomputable def s_l08Name_j8 {R : Type} (K : Nat) (k : Nat) (v0 : (List dq0)) (v3 : Int) (v4 : Bool) (v5 : Bool) (v6 : Bool) (v7 : Int) (v8 : Int) (v9 : Int) (kn : (List dq0) → Int → Bool → Bool → Bool → Int → Int → Int → Option R)  : Option R :=
    (if v6 = true then
    (if (bnds v9 (v0.length : Int)) = true then
    (s_l08Joined K ((v0.getD v9.toNat ((0 : Int), (0 : Int), ())), true, ())).bind fun y5 =>
    s_l08Name_j9 K k v0 v3 v4 v5 y5 v7 v8 v9 (fun z8 z9 z10 z11 z12 z13 z14 z15 =>
    kn z8 z9 z10 z11 z12 z13 z14 z15)
    else
    none)
    else
    s_l08Name_j9 K k v0 v3 v4 v5 false v7 v8 v9 (fun z16 z17 z18 z19 z20 z21 z22 z23 =>
    kn z16 z17 z18 z19 z20 z21 z22 z23))
noncomputable def s_l08Name_j7 {R : Type} (K : Nat) (k : Nat) (v0 : (List dq0)) (v3 : Int) (v4 : Bool) (v5 : Bool) (v6 : Bool) (v7 : Int) (v8 : Int) (v9 : Int) (kn : (List dq0) → Int → Bool → Bool → Bool → Int → Int → Int → Option R)  : Option R :=
    (if v5 = true then
    (if (bnds v9 (v0.length : Int)) = true then
    (s_l08Joined K ((v0.getD v9.toNat ((0 : Int), (0 : Int), ())), false, ())).bind fun y4 =>
    s_l08Name_j8 K k v0 v3 v4 y4 v6 v7 v8 v9 (fun z24 z25 z26 z27 z28 z29 z30 z31 =>
    kn z24 z25 z26 z27 z28 z29 z30 z31)
    else
    none)
    else
    s_l08Name_j8 K k v0 v3 v4 false v6 v7 v8 v9 (fun z32 z33 z34 z35 z36 z37 z38 z39 =>
    kn z32 z33 z34 z35 z36 z37 z38 z39))
noncomputable def s_l08Name_j5 {R : Type} (K : Nat) (k : Nat) (v0 : (List dq0)) (v3 : Int) (v4 : Bool) (v5 : Bool) (v6 : Bool) (v7 : Int) (v8 : Int) (v9 : Int) (kn : (List dq0) → Int → Bool → Bool → Bool → Int → Int → Int → Option R)  : Option R :=
    kn v0 v3 v4 v5 v6 v7 v8 (IntKind.i64.wrap (v9 + (1 : Int)))
noncomputable def s_l08Name_l4 {R : Type} (K : Nat) : Nat → (List dq0) → Int → Bool → Bool → Bool → Int → Int → Int → (Int → Bool → Bool → Bool → Int → Int → Option R) → Option R
  | 0, _, _, _, _, _, _, _, _, _ => none
  | k + 1, v0, v3, v4, v5, v6, v7, v8, v9, kx0 =>
    (if (decide (v9 < (v0.length : Int))) = true then
    (if v4 = true then
    (if (bnds v9 (v0.length : Int)) = true then
    (s_l01Essential K ((v0.getD v9.toNat ((0 : Int), (0 : Int), ())), ())).bind fun y3 =>
    s_l08Name_j7 K k v0 v3 (decide ((y3.length : Int) ≤ (1 : Int))) v5 v6 v7 v8 v9 (fun z40 z41 z42 z43 z44 z45 z46 z47 =>
    s_l08Name_j5 K k z40 z41 z42 z43 z44 z45 z46 z47 (fun z48 z49 z50 z51 z52 z53 z54 z55 =>
    s_l08Name_l4 K k z48 z49 z50 z51 z52 z53 z54 z55 kx0))
    else
    none)
    else
    s_l08Name_j7 K k v0 v3 false v5 v6 v7 v8 v9 (fun z56 z57 z58 z59 z60 z61 z62 z63 =>
    s_l08Name_j5 K k z56 z57 z58 z59 z60 z61 z62 z63 (fun z64 z65 z66 z67 z68 z69 z70 z71 =>
    s_l08Name_l4 K k z64 z65 z66 z67 z68 z69 z70 z71 kx0)))
    else
    kx0 v3 v4 v5 v6 v7 v8)
noncomputable def s_l08Name_j32 {R : Type} (K : Nat) (k : Nat) (v3 : Int) (v7 : Int) (v8 : Int) (v10 : Bool) (v11 : Bool) (kn : Int → Option R) (kr : (ByteArray → Option R)) : Option R :=
    gN K ((if v10 = true then
    kr (⟨#[68]⟩ : ByteArray)
    else
    (if (decide (v7 ≥ (2 : Int))) = true then
    (s_l08Kind K ((!decide ((bitI .and .i64 v3 (1 : Int)) = (0 : Int))), v11, (⟨#[83, 48, 48]⟩ : ByteArray), (⟨#[83, 48, 49]⟩ : ByteArray), (⟨#[83, 48, 50]⟩ : ByteArray), (⟨#[83, 48]⟩ : ByteArray), ())).bind fun y82 =>
    (s_l08Degrees K (y82, v7, ())).bind fun y83 =>
    kr y83
    else
    (if (decide (v8 ≥ (2 : Int))) = true then
    (s_l08Kind K ((!decide ((bitI .and .i64 v3 (2 : Int)) = (0 : Int))), v11, (⟨#[83, 49, 48]⟩ : ByteArray), (⟨#[83, 49, 49]⟩ : ByteArray), (⟨#[83, 49, 50]⟩ : ByteArray), (⟨#[83, 49]⟩ : ByteArray), ())).bind fun y84 =>
    (s_l08Degrees K (y84, v8, ())).bind fun y85 =>
    kr y85
    else
    (if v11 = true then
    (s_l08Four K (v3, (⟨#[77, 50]⟩ : ByteArray), (⟨#[77, 48]⟩ : ByteArray), (⟨#[77, 49]⟩ : ByteArray), (⟨#[77]⟩ : ByteArray), ())).bind fun y86 =>
    kr y86
    else
    kn v3)))))
noncomputable def s_l08Name_j30 {R : Type} (K : Nat) (k : Nat) (v3 : Int) (v7 : Int) (v8 : Int) (v10 : Bool) (v11 : Bool) (kn : Int → Option R) (kr : (ByteArray → Option R)) : Option R :=
    gN K ((if v10 = true then
    (if (!decide ((bitI .and .i64 v3 (1 : Int)) = (0 : Int))) = true then
    kr (⟨#[68, 49]⟩ : ByteArray)
    else
    s_l08Name_j32 K k v3 v7 v8 v10 v11 (fun z87 =>
    kn z87) (fun z88 =>
    kr z88))
    else
    s_l08Name_j32 K k v3 v7 v8 v10 v11 (fun z89 =>
    kn z89) (fun z90 =>
    kr z90)))
noncomputable def s_l08Name_j26 {R : Type} (K : Nat) (k : Nat) (v3 : Int) (v7 : Int) (v8 : Int) (v10 : Bool) (v11 : Bool) (v12 : Bool) (kn : Int → Option R) (kr : (ByteArray → Option R)) : Option R :=
    gN K ((if v12 = true then
    (s_l08Four K (v3, (⟨#[76, 50]⟩ : ByteArray), (⟨#[76, 48]⟩ : ByteArray), (⟨#[76, 49]⟩ : ByteArray), (⟨#[76]⟩ : ByteArray), ())).bind fun y81 =>
    kr y81
    else
    (if v10 = true then
    (if v11 = true then
    kr (⟨#[68, 50]⟩ : ByteArray)
    else
    s_l08Name_j30 K k v3 v7 v8 v10 v11 (fun z91 =>
    kn z91) (fun z92 =>
    kr z92))
    else
    s_l08Name_j30 K k v3 v7 v8 v10 v11 (fun z93 =>
    kn z93) (fun z94 =>
    kr z94))))
noncomputable def s_l08Name_j24 {R : Type} (K : Nat) (k : Nat) (v3 : Int) (v7 : Int) (v8 : Int) (v10 : Bool) (v11 : Bool) (v12 : Bool) (kn : Int → Option R) (kr : (ByteArray → Option R)) : Option R :=
    gN K ((if v12 = true then
    (if v10 = true then
    kr (⟨#[76, 51]⟩ : ByteArray)
    else
    s_l08Name_j26 K k v3 v7 v8 v10 v11 v12 (fun z95 =>
    kn z95) (fun z96 =>
    kr z96))
    else
    s_l08Name_j26 K k v3 v7 v8 v10 v11 v12 (fun z97 =>
    kn z97) (fun z98 =>
    kr z98)))
noncomputable def s_l08Name_j16 {R : Type} (K : Nat) (k : Nat) (v3 : Int) (v4 : Bool) (v5 : Bool) (v6 : Bool) (v7 : Int) (v8 : Int) (v10 : Bool) (v11 : Bool) (v12 : Bool) (kn : Int → Option R) (kr : (ByteArray → Option R)) : Option R :=
    gN K ((if v4 = true then
    kr (⟨#[78]⟩ : ByteArray)
    else
    (if v5 = true then
    (s_l08Four K (v3, (⟨#[86, 50]⟩ : ByteArray), (⟨#[86, 48]⟩ : ByteArray), (⟨#[86, 49]⟩ : ByteArray), (⟨#[86]⟩ : ByteArray), ())).bind fun y79 =>
    kr y79
    else
    (if v6 = true then
    (s_l08Four K (v3, (⟨#[69, 50]⟩ : ByteArray), (⟨#[69, 48]⟩ : ByteArray), (⟨#[69, 49]⟩ : ByteArray), (⟨#[69]⟩ : ByteArray), ())).bind fun y80 =>
    kr y80
    else
    (if v12 = true then
    (if (decide ((bitI .and .i64 v3 (3 : Int)) = (3 : Int))) = true then
    kr (⟨#[76, 50]⟩ : ByteArray)
    else
    s_l08Name_j24 K k v3 v7 v8 v10 v11 v12 (fun z99 =>
    kn z99) (fun z100 =>
    kr z100))
    else
    s_l08Name_j24 K k v3 v7 v8 v10 v11 v12 (fun z101 =>
    kn z101) (fun z102 =>
    kr z102))))))
noncomputable def s_l08Name_j14 {R : Type} (K : Nat) (k : Nat) (v3 : Int) (v4 : Bool) (v5 : Bool) (v6 : Bool) (v7 : Int) (v8 : Int) (v10 : Bool) (v11 : Bool) (v12 : Bool) (kn : Int → Option R) (kr : (ByteArray → Option R)) : Option R :=
    gN K ((if v4 = true then
    (if v10 = true then
    kr (⟨#[78, 50]⟩ : ByteArray)
    else
    s_l08Name_j16 K k v3 v4 v5 v6 v7 v8 v10 v11 v12 (fun z103 =>
    kn z103) (fun z104 =>
    kr z104))
    else
    s_l08Name_j16 K k v3 v4 v5 v6 v7 v8 v10 v11 v12 (fun z105 =>
    kn z105) (fun z106 =>
    kr z106)))
noncomputable def s_l08Name_j40 {R : Type} (K : Nat) (k : Nat) (v3 : Int) (kn : Option R) (kr : (ByteArray → Option R)) : Option R :=
    (s_l08Four K (v3, (⟨#[82, 50]⟩ : ByteArray), (⟨#[82, 48]⟩ : ByteArray), (⟨#[82, 49]⟩ : ByteArray), (⟨#[66, 70]⟩ : ByteArray), ())).bind fun y108 =>
    kr y108
noncomputable def s_l08Name (K : Nat) (x : ((List dq0) × Unit)) : Option ByteArray :=
    (s_l02Whole K (x.1, ())).bind fun y1 =>
    (s_l02Classes K (x.1, y1, ())).bind fun y2 =>
    s_l08Name_l4 K K x.1 y2 true true true (9 : Int) (9 : Int) (0 : Int) (fun z72 z73 z74 z75 z76 z77 =>
    (if z73 = true then
    (if (!decide ((bitI .and .i64 z72 (8 : Int)) = (0 : Int))) = true then
    (s_l08Four K (z72, (⟨#[73, 50]⟩ : ByteArray), (⟨#[73, 48]⟩ : ByteArray), (⟨#[73, 49]⟩ : ByteArray), (⟨#[73]⟩ : ByteArray), ())).bind fun y78 =>
    some y78
    else
    s_l08Name_j14 K K z72 z73 z74 z75 z76 z77 (!decide ((bitI .and .i64 z72 (4 : Int)) = (0 : Int))) (!decide ((bitI .and .i64 z72 (8 : Int)) = (0 : Int))) (!decide ((bitI .and .i64 z72 (16 : Int)) = (0 : Int))) (fun z107 =>
    s_l08Name_j40 K K z107 none (fun z109 =>
    some z109)) (fun z110 =>
    some z110))
    else
    s_l08Name_j14 K K z72 z73 z74 z75 z76 z77 (!decide ((bitI .and .i64 z72 (4 : Int)) = (0 : Int))) (!decide ((bitI .and .i64 z72 (8 : Int)) = (0 : Int))) (!decide ((bitI .and .i64 z72 (16 : Int)) = (0 : Int))) (fun z111 =>
    s_l08Name_j40 K K z111 none (fun z112 =>
    some z112)) (fun z113 =>
    some z113)))
noncomputable def X0_s_l08Name : Lv := [(3, (.v (.int .i64))), (4, (.v .bool)), (5, (.v .bool)), (6, (.v .bool)), (7, (.v (.int .i64))), (8, (.v (.int .i64)))]
noncomputable def rv_s_l08Name : Lv := [(2, (.v .str))]
noncomputable def D_s_l08Name (K : Nat) : List (PD (den .str)) := [.L 4 [(0, (.v (.sl tq0))), (3, (.v (.int .i64))), (4, (.v .bool)), (5, (.v .bool)), (6, (.v .bool)), (7, (.v (.int .i64))), (8, (.v (.int .i64))), (9, (.v (.int .i64)))] [] (fun k x kx kr => s_l08Name_l4 K k x.1 x.2.1 x.2.2.1 x.2.2.2.1 x.2.2.2.2.1 x.2.2.2.2.2.1 x.2.2.2.2.2.2.1 x.2.2.2.2.2.2.2.1 (fun z0 z1 z2 z3 z4 z5 => kx 0 (mkSt X0_s_l08Name (z0, z1, z2, z3, z4, z5, ())))),
  .J 7 [(0, (.v (.sl tq0))), (3, (.v (.int .i64))), (4, (.v .bool)), (5, (.v .bool)), (6, (.v .bool)), (7, (.v (.int .i64))), (8, (.v (.int .i64))), (9, (.v (.int .i64)))] [(0, (.v (.sl tq0))), (3, (.v (.int .i64))), (4, (.v .bool)), (5, (.v .bool)), (6, (.v .bool)), (7, (.v (.int .i64))), (8, (.v (.int .i64))), (9, (.v (.int .i64)))] 0 (fun k x kn kx kr => s_l08Name_j7 K k x.1 x.2.1 x.2.2.1 x.2.2.2.1 x.2.2.2.2.1 x.2.2.2.2.2.1 x.2.2.2.2.2.2.1 x.2.2.2.2.2.2.2.1 (fun z0 z1 z2 z3 z4 z5 z6 z7 => kn (z0, z1, z2, z3, z4, z5, z6, z7, ()))),
  .J 8 [(0, (.v (.sl tq0))), (3, (.v (.int .i64))), (4, (.v .bool)), (5, (.v .bool)), (6, (.v .bool)), (7, (.v (.int .i64))), (8, (.v (.int .i64))), (9, (.v (.int .i64)))] [(0, (.v (.sl tq0))), (3, (.v (.int .i64))), (4, (.v .bool)), (5, (.v .bool)), (6, (.v .bool)), (7, (.v (.int .i64))), (8, (.v (.int .i64))), (9, (.v (.int .i64)))] 0 (fun k x kn kx kr => s_l08Name_j8 K k x.1 x.2.1 x.2.2.1 x.2.2.2.1 x.2.2.2.2.1 x.2.2.2.2.2.1 x.2.2.2.2.2.2.1 x.2.2.2.2.2.2.2.1 (fun z0 z1 z2 z3 z4 z5 z6 z7 => kn (z0, z1, z2, z3, z4, z5, z6, z7, ()))),
  .J 9 [(0, (.v (.sl tq0))), (3, (.v (.int .i64))), (4, (.v .bool)), (5, (.v .bool)), (6, (.v .bool)), (7, (.v (.int .i64))), (8, (.v (.int .i64))), (9, (.v (.int .i64)))] [(0, (.v (.sl tq0))), (3, (.v (.int .i64))), (4, (.v .bool)), (5, (.v .bool)), (6, (.v .bool)), (7, (.v (.int .i64))), (8, (.v (.int .i64))), (9, (.v (.int .i64)))] 0 (fun k x kn kx kr => s_l08Name_j9 K k x.1 x.2.1 x.2.2.1 x.2.2.2.1 x.2.2.2.2.1 x.2.2.2.2.2.1 x.2.2.2.2.2.2.1 x.2.2.2.2.2.2.2.1 (fun z0 z1 z2 z3 z4 z5 z6 z7 => kn (z0, z1, z2, z3, z4, z5, z6, z7, ()))),
  .J 5 [(0, (.v (.sl tq0))), (3, (.v (.int .i64))), (4, (.v .bool)), (5, (.v .bool)), (6, (.v .bool)), (7, (.v (.int .i64))), (8, (.v (.int .i64))), (9, (.v (.int .i64)))] [(0, (.v (.sl tq0))), (3, (.v (.int .i64))), (4, (.v .bool)), (5, (.v .bool)), (6, (.v .bool)), (7, (.v (.int .i64))), (8, (.v (.int .i64))), (9, (.v (.int .i64)))] 0 (fun k x kn kx kr => s_l08Name_j5 K k x.1 x.2.1 x.2.2.1 x.2.2.2.1 x.2.2.2.2.1 x.2.2.2.2.2.1 x.2.2.2.2.2.2.1 x.2.2.2.2.2.2.2.1 (fun z0 z1 z2 z3 z4 z5 z6 z7 => kn (z0, z1, z2, z3, z4, z5, z6, z7, ()))),
  .J 14 [(3, (.v (.int .i64))), (4, (.v .bool)), (5, (.v .bool)), (6, (.v .bool)), (7, (.v (.int .i64))), (8, (.v (.int .i64))), (10, (.v .bool)), (11, (.v .bool)), (12, (.v .bool))] [(3, (.v (.int .i64)))] K (fun k x kn kx kr => s_l08Name_j14 K k x.1 x.2.1 x.2.2.1 x.2.2.2.1 x.2.2.2.2.1 x.2.2.2.2.2.1 x.2.2.2.2.2.2.1 x.2.2.2.2.2.2.2.1 x.2.2.2.2.2.2.2.2.1 (fun z0 => kn (z0, ())) (fun z0 => kr (mkSt rv_s_l08Name (z0, ())))),
  .J 16 [(3, (.v (.int .i64))), (4, (.v .bool)), (5, (.v .bool)), (6, (.v .bool)), (7, (.v (.int .i64))), (8, (.v (.int .i64))), (10, (.v .bool)), (11, (.v .bool)), (12, (.v .bool))] [(3, (.v (.int .i64)))] K (fun k x kn kx kr => s_l08Name_j16 K k x.1 x.2.1 x.2.2.1 x.2.2.2.1 x.2.2.2.2.1 x.2.2.2.2.2.1 x.2.2.2.2.2.2.1 x.2.2.2.2.2.2.2.1 x.2.2.2.2.2.2.2.2.1 (fun z0 => kn (z0, ())) (fun z0 => kr (mkSt rv_s_l08Name (z0, ())))),
  .J 24 [(3, (.v (.int .i64))), (7, (.v (.int .i64))), (8, (.v (.int .i64))), (10, (.v .bool)), (11, (.v .bool)), (12, (.v .bool))] [(3, (.v (.int .i64)))] K (fun k x kn kx kr => s_l08Name_j24 K k x.1 x.2.1 x.2.2.1 x.2.2.2.1 x.2.2.2.2.1 x.2.2.2.2.2.1 (fun z0 => kn (z0, ())) (fun z0 => kr (mkSt rv_s_l08Name (z0, ())))),
  .J 26 [(3, (.v (.int .i64))), (7, (.v (.int .i64))), (8, (.v (.int .i64))), (10, (.v .bool)), (11, (.v .bool)), (12, (.v .bool))] [(3, (.v (.int .i64)))] K (fun k x kn kx kr => s_l08Name_j26 K k x.1 x.2.1 x.2.2.1 x.2.2.2.1 x.2.2.2.2.1 x.2.2.2.2.2.1 (fun z0 => kn (z0, ())) (fun z0 => kr (mkSt rv_s_l08Name (z0, ())))),
  .J 30 [(3, (.v (.int .i64))), (7, (.v (.int .i64))), (8, (.v (.int .i64))), (10, (.v .bool)), (11, (.v .bool))] [(3, (.v (.int .i64)))] K (fun k x kn kx kr => s_l08Name_j30 K k x.1 x.2.1 x.2.2.1 x.2.2.2.1 x.2.2.2.2.1 (fun z0 => kn (z0, ())) (fun z0 => kr (mkSt rv_s_l08Name (z0, ())))),
  .J 32 [(3, (.v (.int .i64))), (7, (.v (.int .i64))), (8, (.v (.int .i64))), (10, (.v .bool)), (11, (.v .bool))] [(3, (.v (.int .i64)))] K (fun k x kn kx kr => s_l08Name_j32 K k x.1 x.2.1 x.2.2.1 x.2.2.2.1 x.2.2.2.2.1 (fun z0 => kn (z0, ())) (fun z0 => kr (mkSt rv_s_l08Name (z0, ())))),
  .J 40 [(3, (.v (.int .i64)))] [] 0 (fun k x kn kx kr => s_l08Name_j40 K k x.1 (kn ()) (fun z0 => kr (mkSt rv_s_l08Name (z0, ()))))]
theorem ok_s_l08Name (K : Nat) : FnOk Tryd.prog 15 (sp_s_l08Name (s_l08Name K)) :=
  fn_okD tysOk [C_s_l02Classes K, C_s_l02Whole K, C_s_l01Essential K, C_s_l08Joined K, C_s_l08Degree K, C_s_l08Four K, C_s_l08Degrees K, C_s_l08Kind K] 0 (D_s_l08Name K) [(0, X0_s_l08Name)] rv_s_l08Name K Tryd.func15 (by kernel_rfl) ⟨⟨fun _ _ _ _ => by kernel_rfl, fun _ _ _ => rfl⟩, ⟨fun _ _ _ _ _ => by kernel_rfl, ⟨fun _ _ _ _ _ => by kernel_rfl, ⟨fun _ _ _ _ _ => by kernel_rfl, ⟨fun _ _ _ _ _ => by kernel_rfl, ⟨fun _ _ _ _ _ => by kernel_rfl, ⟨fun _ _ _ _ _ => by kernel_rfl, ⟨fun _ _ _ _ _ => by kernel_rfl, ⟨fun _ _ _ _ _ => by kernel_rfl, ⟨fun _ _ _ _ _ => by kernel_rfl, ⟨fun _ _ _ _ _ => by kernel_rfl, ⟨fun _ _ _ _ _ => by kernel_rfl, trivial⟩⟩⟩⟩⟩⟩⟩⟩⟩⟩⟩⟩ (fun _ => by kernel_rfl)
noncomputable def C_s_l08Name (K : Nat) : CB Tryd.prog := .f _ _ (ok_s_l08Name K)
end Go.Proofs.YtfmenkglnkenpaaDoor.E
namespace Go.Proofs.YtfmenkglnkenpaaDoor.E
open Go Go.Proofs
set_option linter.unusedVariables false
set_option linter.unusedSimpArgs false
variable {K : Nat} {R : Type}
/-! lists of functions: loops over lists; classes and degrees of a list -/
theorem lpLA {α : Type} {L : Nat → Int → Option R} {g : α → Bool} {l : List α} {B : Nat} {kx kf : Option R} (stop : ∀ k, L (k + 1) (l.length : Int) = kx)
    (step : ∀ k p y r, l = p ++ y :: r → B ≤ k → L (k + 1) (p.length : Int) = if g y = true then L k ((p ++ [y]).length : Int) else kf) :
    ∀ (r p : List α) (k : Nat), l = p ++ r → B + r.length < k → L k (p.length : Int) = if r.all g = true then kx else kf
  | _, _, 0, _, h => by omega
  | [], p, k + 1, e, h => by
    rw [List.append_nil] at e; subst e; rw [stop]; rfl
  | y :: r, p, k + 1, e, h => by
    rw [List.length_cons] at h
    rw [step k p y r e (by omega), List.all_cons]
    cases hp : g y
    · rfl
    · rw [ite_t rfl, Bool.true_and]; exact lpLA stop step r (p ++ [y]) k (by rw [e, mid_app]) (by omega)
theorem lpLF {α σ : Type} {L : Nat → σ → Int → Option R} {f : σ → α → σ} {l : List α} {B : Nat} {kx : σ → Option R} (stop : ∀ k s, L (k + 1) s (l.length : Int) = kx s)
    (step : ∀ k p y r s, l = p ++ y :: r → B ≤ k → L (k + 1) s (p.length : Int) = L k (f s y) ((p ++ [y]).length : Int)) :
    ∀ (r p : List α) (k : Nat) (s : σ), l = p ++ r → B + r.length < k → L k s (p.length : Int) = kx (r.foldl f s)
  | _, _, 0, _, _, h => by omega
  | [], p, k + 1, s, e, h => by
    rw [List.append_nil] at e; subst e; rw [stop]; rfl
  | y :: r, p, k + 1, s, e, h => by
    rw [List.length_cons] at h
    rw [step k p y r s e (by omega), List.foldl_cons]
    exact lpLF stop step r (p ++ [y]) k _ (by rw [e, mid_app]) (by omega)
/-- Lists of functions. -/
def okL (l : List DF) : Prop := (∀ f ∈ l, isF 0 f = true) ∧ l.length ≤ 40
theorem okL.nat {l : List DF} (h : okL l) {f : DF} (hf : f ∈ l) : ∃ n b : Nat, f = ((n : Int), (b : Int), ()) ∧ n ≤ 4 ∧ b < 2 ^ 2 ^ n := by
  obtain ⟨n, b, h1, h2, h3, _⟩ := isF_nat (h.1 f hf) (by decide)
  exact ⟨n, b, h1, h2, h3⟩
theorem mem_mid {α : Type} {l p r : List α} {y : α} (h : l = p ++ y :: r) : y ∈ l := by rw [h]; simp
theorem idx_impl_Func_l (f : DF × Unit → Option Bool) (g : DF → Bool) (l : List DF) (hl : l.length < 4611686018427387904) (kx : Option R) (kr : Int → Option R) : ∀ (r p : List DF) (k : Nat), l = p ++ r → r.length < k → (∀ x ∈ r, f (x, ()) = some (g x)) →
    slices_IndexFunc_impl_Func_l2 K k l f (l.length : Int) (p.length : Int) kx kr = match r.findIdx? g with | some j => kr ((p.length + j : Nat) : Int) | none => kx
  | [], p, k + 1, h, _, _ => by subst h; simp only [slices_IndexFunc_impl_Func_l2]; rw [ite_f nlt_len]; rfl
  | y :: r, p, k + 1, h, hk, hf => by
    subst h
    simp only [slices_IndexFunc_impl_Func_l2]
    rw [ite_t lt_len, ite_t bnds_mid, getD_midI, hf y (by simp), some_bind', List.findIdx?_cons]
    cases hg : g y
    · rw [if_neg (by decide), if_neg (by decide), next_i hl, idx_impl_Func_l f g _ hl kx kr r (p ++ [y]) k (mid_app p r y) (by simp at hk; omega) (fun x hx => hf x (by simp [hx]))]
      cases hr : r.findIdx? g
      · rfl
      · simp only [Option.map_some]; congr 1; simp; omega
    · rw [if_pos rfl, if_pos rfl]; rfl
theorem slices_ContainsFunc_impl_Func_eq (f : DF × Unit → Option Bool) (g : DF → Bool) {l : List DF} (hl : l.length < 4611686018427387904) (hK : 4611686018427387904 ≤ K) (hf : ∀ x ∈ l, f (x, ()) = some (g x)) :
    slices_ContainsFunc_impl_Func K (l, f, ()) = some (l.any g) := by
  simp only [slices_ContainsFunc_impl_Func, slices_IndexFunc_impl_Func]
  have := idx_impl_Func_l (K := K) f g l hl (some (-1 : Int)) (fun z => some z) l [] K rfl (by omega) hf
  simp only [List.length_nil, Nat.zero_add] at this
  rw [show ((0 : Nat) : Int) = 0 from rfl] at this
  rw [this, ← List.findIdx?_isSome]; cases l.findIdx? g <;> simp
theorem any_not' {α : Type} (l : List α) (g : α → Bool) : (!(l.any fun a => !g a)) = l.all g := by
  induction l with
  | nil => rfl
  | cons a l ih => simp only [List.any_cons, List.all_cons, Bool.not_or, Bool.not_not, ih]
theorem i_allAre_eq {l : List DF} (hl : l.length < 4611686018427387904) (hK : 4611686018427387904 ≤ K) {f : DF × Unit → Option Bool} {g : DF → Bool} (hf : ∀ x ∈ l, f (x, ()) = some (g x)) : i_allAre K (l, f, ()) = some (l.all g) := by
  simp only [i_allAre]
  rw [slices_ContainsFunc_impl_Func_eq _ (fun x => !g x) hl hK (fun x hx => by simp only [i_allAre_c1]; rw [hf x hx, some_bind']), some_bind', any_not']
/-- What a function is, told by numbers. -/
def pC (k : Nat) (f : DF) : Bool := inC f.1.toNat f.2.1.toNat k
def pU (f : DF) : Bool := decide ((essL f.1.toNat f.2.1.toNat).length ≤ 1)
def pJ (all : Bool) (f : DF) : Bool := joinB all f.1.toNat f.2.1.toNat
def pD (c : Nat) (f : DF) : Nat := degN f.1.toNat f.2.1.toNat c
theorem i_allIn_eq {l : List DF} (h : okL l) (hK : 4611686018427387904 ≤ K) {k : Nat} (hk : k < 5) : i_allIn K (l, (k : Int), ()) = some (l.all (pC k)) := by
  simp only [i_allIn]
  rw [slices_ContainsFunc_impl_Func_eq _ (fun x => !pC k x) (by have := h.2; omega) hK (fun x hx => by
    obtain ⟨n, b, rfl, hn, hb⟩ := h.nat hx
    simp only [i_allIn_c1]; rw [i_isIn_eq hn hb hk hK, some_bind']; rfl), some_bind', any_not']
theorem i_unary_eq {l : List DF} (h : okL l) (hK : 4611686018427387904 ≤ K) : i_allAre K (l, (fun y => i_Func_isUnary K (y.1, ())), ()) = some (l.all pU) :=
  i_allAre_eq (by have := h.2; omega) hK fun x hx => by
    obtain ⟨n, b, rfl, hn, hb⟩ := h.nat hx
    have := b4 hn hb
    exact i_Func_isUnary_eq hn (by omega) (by omega)
theorem i_disj_eq {l : List DF} (h : okL l) (hK : 4611686018427387904 ≤ K) : i_allAre K (l, (fun y => i_Func_isDisjunction K (y.1, ())), ()) = some (l.all (pJ false)) :=
  i_allAre_eq (by have := h.2; omega) hK fun x hx => by
    obtain ⟨n, b, rfl, hn, hb⟩ := h.nat hx
    have := b4 hn hb
    exact i_Func_isDisjunction_eq hn (by omega) hK
theorem i_conj_eq {l : List DF} (h : okL l) (hK : 4611686018427387904 ≤ K) : i_allAre K (l, (fun y => i_Func_isConjunction K (y.1, ())), ()) = some (l.all (pJ true)) :=
  i_allAre_eq (by have := h.2; omega) hK fun x hx => by
    obtain ⟨n, b, rfl, hn, hb⟩ := h.nat hx
    have := b4 hn hb
    exact i_Func_isConjunction_eq hn (by omega) hK
theorem degF_nat {n b c : Nat} (hn : n ≤ 4) (hb : b < 65536) (hc : c ≤ 1) : i_Func_degree K (((n : Int), (b : Int), ()), (c : Int), ()) = some ((degN n b c : Nat) : Int) := by
  simp only [i_Func_degree, degF]
  rw [if_pos ⟨by omega, by omega, by omega, by omega, by omega, by omega⟩]; simp
/-- The degree of a list. -/
def leastN (c : Nat) (l : List DF) : Nat := l.foldl (fun a f => min a (pD c f)) 9
theorem minL_nat (a b : Nat) : minL (a : Int) [(b : Int)] = ((min a b : Nat) : Int) := by
  simp only [minL]; split <;> omega
theorem i_least_eq {l : List DF} (h : okL l) (hK : 100 ≤ K) {c : Nat} (hc : c ≤ 1) : i_least K (l, (c : Int), ()) = some ((leastN c l : Nat) : Int) := by
  have h2 := h.2
  simp only [i_least]
  refine lpLF (l := l) (L := fun k (s : Nat) i => i_least_l3 K k (c : Int) (s : Int) l (l.length : Int) i (fun z2 => some z2)) (f := fun a f => min a (pD c f)) (B := 0) (kx := fun s => some (s : Int)) (fun k s => ?_) (fun k p y r s e _ => ?_) l [] K 9 rfl (by omega)
  · simp only [i_least_l3]; rw [ite_f (decide_eq_false (by omega))]
  · obtain ⟨n, b, rfl, hn, hb⟩ := h.nat (mem_mid e)
    subst e
    simp only [i_least_l3]
    rw [ite_t lt_len, ite_t bnds_mid, getD_midI, degF_nat hn (b4 hn hb) hc, some_bind', minL_nat, next_i (p := p) (r := r) (y := ((n : Int), (b : Int), ())) (by omega)]; rfl
/-- The classes of a list as digits. -/
def mask (c0 c1 c2 c3 c4 : Bool) : Int := ((c0.toNat + 2 * c1.toNat + 4 * c2.toNat + 8 * c3.toNat + 16 * c4.toNat : Nat) : Int)
theorem whole_eq {l : List DF} (h : okL l) : s_l02Whole K (l, ()) = some ((2 ^ l.length - 1 : Nat) : Int) := by
  have h2 := h.2
  have h3 : 2 ^ l.length ≤ 2 ^ 40 := Nat.pow_le_pow_right (by decide) h2
  have h4 : 1 ≤ 2 ^ l.length := Nat.one_le_two_pow
  simp only [s_l02Whole]
  rw [ite_t (u64_dec _), u64n (by omega), shl1 (by omega), w64 (by omega) (by omega)]
  congr 1; omega
theorem ones_bit {m i : Nat} (h : i < m) : (2 ^ m - 1).testBit i = true := by rw [Nat.testBit_two_pow_sub_one]; exact decide_eq_true h
theorem classes_l7 {l : List DF} (h : okL l) {c : Nat} (hc : c < 5) (v5 : Int) (kx : List DF → Int → Int → Int → Bool → Option R) (k : Nat) (hk : 100 ≤ k) (hK : 100 ≤ K) :
    s_l02Classes_l7 K k l ((2 ^ l.length - 1 : Nat) : Int) v5 (c : Int) true 0 kx = kx l ((2 ^ l.length - 1 : Nat) : Int) v5 (c : Int) (l.all (pC c)) := by
  have h2 := h.2
  have h3 : 2 ^ l.length ≤ 2 ^ 40 := Nat.pow_le_pow_right (by decide) h2
  refine (lpLF (l := l) (L := fun k (s : Bool) i => s_l02Classes_l7 K k l ((2 ^ l.length - 1 : Nat) : Int) v5 (c : Int) s i kx) (f := fun a f => a && pC c f) (B := 0) (kx := fun s => kx l ((2 ^ l.length - 1 : Nat) : Int) v5 (c : Int) s) (fun k s => ?_) (fun k p y r s e _ => ?_) l [] k true rfl (by omega)).trans ?_
  · simp only [s_l02Classes_l7]; rw [ite_f (decide_eq_false (by omega))]
  · obtain ⟨n, b, rfl, hn, hb⟩ := h.nat (mem_mid e)
    have hp : p.length < l.length := by rw [e]; simp
    have hw : IntKind.i64.wrap ((p.length : Int) + 1) = (((p ++ [((n : Int), (b : Int), ())]).length : Nat) : Int) := by rw [snoc_len]; exact w64s (by omega)
    simp only [s_l02Classes_l7]
    rw [ite_t (decide_eq_true (by omega))]
    cases s
    · rw [ite_f rfl, hw]; rfl
    · rw [ite_t rfl, ite_t (u64_dec _), u64n (by omega), bitI_bt _ (by omega), bt, if_pos (ones_bit hp), ite_f (by rfl), ite_t (bnds_n hp), hw]
      have hg : l.getD ((p.length : Nat) : Int).toNat ((0 : Int), (0 : Int), ()) = ((n : Int), (b : Int), ()) := by rw [e]; exact getD_midI p r _ _
      rw [hg, s_l02In_eq hn hb hc hK, some_bind']; rfl
  · congr 1
    have : ∀ (l : List DF) (a : Bool), l.foldl (fun a f => a && pC c f) a = (a && l.all (pC c)) := by
      intro l
      induction l with
      | nil => intro a; simp
      | cons y r ih => intro a; rw [List.foldl_cons, ih, List.all_cons, Bool.and_assoc]
    rw [this]; rfl
theorem classes_eq {l : List DF} (h : okL l) (hK : 200 ≤ K) : s_l02Classes K (l, ((2 ^ l.length - 1 : Nat) : Int), ()) = some (mask (l.all (pC 0)) (l.all (pC 1)) (l.all (pC 2)) (l.all (pC 3)) (l.all (pC 4))) := by
  obtain ⟨k, e⟩ : ∃ k, K = k + 100 + 6 := ⟨K - 106, by omega⟩
  have step : ∀ (k c : Nat) (x : Nat), c < 5 → x < 32 → 100 ≤ k → s_l02Classes_l3 K (k + 1) l ((2 ^ l.length - 1 : Nat) : Int) (x : Int) (c : Int) (fun z9 => some z9) = s_l02Classes_l3 K k l ((2 ^ l.length - 1 : Nat) : Int) (((x ||| (if l.all (pC c) = true then 2 ^ c else 0)) : Nat) : Int) ((c + 1 : Nat) : Int) (fun z9 => some z9) := by
    intro k c x hc hx hk
    simp only [s_l02Classes_l3]
    rw [ite_t (decide_eq_true (by omega)), classes_l7 h hc _ _ k hk (by omega), w64s (by omega)]
    cases l.all (pC c)
    · rw [ite_f rfl]; simp
    · have : 2 ^ c ≤ 2 ^ 4 := Nat.pow_le_pow_right (by decide) (by omega)
      rw [ite_t rfl, ite_t (u64_dec _), u64n (by omega), shl1 (by omega), bitI_or (by omega) (by omega)]; rfl
  have stop : ∀ (k x : Nat), s_l02Classes_l3 K (k + 1) l ((2 ^ l.length - 1 : Nat) : Int) (x : Int) ((5 : Nat) : Int) (fun z9 => some z9) = some (x : Int) := by
    intro k x; simp only [s_l02Classes_l3]; rw [ite_f (decide_eq_false (by omega))]
  simp only [s_l02Classes]
  have hlt : ∀ (x c : Nat) (q : Bool), x < 32 → c < 5 → (x ||| (if q = true then 2 ^ c else 0)) < 32 := by
    intro x c q hx hc
    refine Nat.or_lt_two_pow (n := 5) hx ?_
    cases q
    · show 0 < 2 ^ 5; decide
    · exact Nat.pow_lt_pow_right (by decide) hc
  suffices key : s_l02Classes_l3 K (k + 100 + 6) l ((2 ^ l.length - 1 : Nat) : Int) ((0 : Nat) : Int) ((0 : Nat) : Int) (fun z9 => some z9) = some (mask (l.all (pC 0)) (l.all (pC 1)) (l.all (pC 2)) (l.all (pC 3)) (l.all (pC 4))) by
    rw [← e] at key; exact key
  rw [step _ 0 0 (by omega) (by omega) (by omega), step _ 1 _ (by omega) (hlt _ 0 _ (by omega) (by omega)) (by omega), step _ 2 _ (by omega) (hlt _ 1 _ (hlt _ 0 _ (by omega) (by omega)) (by omega)) (by omega),
    step _ 3 _ (by omega) (hlt _ 2 _ (hlt _ 1 _ (hlt _ 0 _ (by omega) (by omega)) (by omega)) (by omega)) (by omega),
    step _ 4 _ (by omega) (hlt _ 3 _ (hlt _ 2 _ (hlt _ 1 _ (hlt _ 0 _ (by omega) (by omega)) (by omega)) (by omega)) (by omega)) (by omega), stop]
  generalize l.all (pC 0) = c0; generalize l.all (pC 1) = c1; generalize l.all (pC 2) = c2; generalize l.all (pC 3) = c3; generalize l.all (pC 4) = c4
  revert c0 c1 c2 c3 c4; decide
end Go.Proofs.YtfmenkglnkenpaaDoor.E
namespace Go.Proofs.YtfmenkglnkenpaaDoor.E
open Go Go.Proofs Go.Proofs.YtfmenkglnkenpaaDoor
set_option maxRecDepth 100000
set_option linter.unusedVariables false
noncomputable def as_w_szFuncS : Ty := (.pair (.sl tq0) (.pair (.int .i64) .unit))
noncomputable def sp_w_szFuncS (F : ((List dq0) × Int × Unit) → Option Int) : FnSpec := ⟨as_w_szFuncS, [false, false], (.int .i64), F⟩
noncomputable def w_szFuncS (K : Nat) (x : ((List dq0) × Int × Unit)) : Option Int :=
    let x1 := (decide ((IntKind.i64.wrap (x.2.1 - (x.1.length : Int))) < (0 : Int)))
    (if x1 = true then
    some (-1 : Int)
    else
    some (IntKind.i64.wrap (x.2.1 - (x.1.length : Int))))
noncomputable def rv_w_szFuncS : Lv := [(4, (.v (.int .i64)))]
theorem ok_w_szFuncS (K : Nat) : FnOk Tryd.prog 5 (sp_w_szFuncS (w_szFuncS K)) :=
  fn_okD tysOk [] 0 [] [] rv_w_szFuncS K Tryd.func5 (by kernel_rfl) trivial (fun _ => by kernel_rfl)
noncomputable def C_w_szFuncS (K : Nat) : CB Tryd.prog := .f _ _ (ok_w_szFuncS K)
end Go.Proofs.YtfmenkglnkenpaaDoor.E
