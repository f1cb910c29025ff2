/-
  Contracts of slices.Clone over any element that leads to no memory, and of the library's search for a byte. Conditions: those of each theorem.
-/
import Derived.Test.YtmlgfaojfmkdnaaCFnExactFindOfKind4
namespace Go.Proofs.Ytmlgfaojfmkdnaa.E
open Go Go.RowKit Go.Shelf
set_option linter.unusedVariables false
set_option linter.unusedSimpArgs false
theorem cellAt {w : World} {b o : Nat} {arr : Array Value} {t : TypeId} {fz : Nat × Nat} (h : w.heap[b]? = some (.cells arr t fz)) (j : Nat) : w.cell? ⟨b, o + j, none⟩ = arr[o + j]? := by
  simp [World.cell?, h]
set_option maxHeartbeats 2000000 in
set_option maxRecDepth 100000 in
/-- slices.Clone of a slice that is not nil, whatever its address. -/
theorem clone_calls {P : Program} {ρ : Ren} (L : SlLaysE0.n41 P ρ) (i0 : TypeInfo) (z : Value) (size bytes : Nat) (hi : P.info? (ρ.t 23) = some i0) (hz0 : i0.zero = some z) (hz1 : i0.size = size) (hz2 : i0.bytes = bytes) (hzs : z.cells.size = size) (hsz : 0 < size)
    (z23 : ∀ w, (Go.sizeOf (ρ.t 23)).run P w = .ok size w) (a : Addr) (n c : Nat) (news : List Value) (w : World) (hl : news.length = n * size) (hn : n ≤ maxLen) (hbig : n * bytes ≤ 140737488355328)
    (hc : ∀ j u, news[j]? = some u → w.cell? (a.add j) = some u) (h1 : ∀ u ∈ news, u.oneCell' = true) :
    Calls P (ρ.f 41) #[.slice (some a) n c] w fun e w' => ∃ v', e = .returned v' ∧ w'.ownsRow w.heap.size (ρ.t 23) size v' n news ∧ Below w.heap.size w w' := by
  have mixed := L.mixed; have t4 := L.t4; have a4 := L.a4; have z4 := L.z4; have v4 := L.v4; have t22 := L.t22; have a22 := L.a22; have z22 := L.z22; have v22 := L.v22
  have q22 : ∀ (w : World) (a : Option Addr) (n c n' c' : Nat), (binOp .eql (ρ.t 22) (.slice a n c) (.slice none n' c')).run P w = .ok (.bool a.isNone) w := fun w a n c n' c' => Lib.run_eql_slice_nil w _ _ a n c n' c' L.t22
  have u22 : ∀ w, Sem.run P (underlying (ρ.t 22)) w = .ok (TypeDesc.slice (ρ.t 23)) w := run_underlying t22
  have A : Aside (∀ j u, news[j]? = some u → w.cell? (a.add j) = some u) := hc
  clear hc
  obtain ⟨_, _, FG⟩ := L.f41
  go_enter FG, SlBodyN.n41_ntmps ρ
  go_wp2_with (at_builtin; refine wpList_append_own _ rfl _ _ (ρ.t 22) rfl w.heap.size (ρ.t 23) i0 z size bytes t22 hi hz0 hz1 hz2 hzs hsz _ _ _ rfl (World.ownsRow_made w #[] 0 (Nat.le_refl _) (Nat.zero_le _) (by simp)) a n c news rfl ?qc1 ?qc2 ?qc3 ?qc4 ?qc5 ?qc6 ?_)
  case qc1 => exact hl
  case qc2 =>
    intro j u hj
    exact Lib.cell?_alloc_some _ (A.out j u hj)
  case qc3 => exact h1
  case qc4 => rw [Nat.zero_add]; exact hn
  case qc5 => rw [Nat.zero_add]; exact hbig
  case qc6 => simp
  intro v' w1 hown hgrow hnil
  go_wp2
  go_ret
  refine ⟨v', rfl, by simpa using hown, ?_⟩
  exact ((Below.refl _ w).alloc (Nat.le_refl _) _).grown hgrow (by simp) (by intro k hk; simp [Value.ownBlock] at hk; omega)
theorem clone_ok {P : Program} {ρ : Ren} (L : SlLaysE0.n41 P ρ) {ty : Nat → Option Ty} {e : Ty} (ht : TyOk P ty (ρ.t 23) e) (hm : e.mem = false) {z : SV} (hz : zeroSV e = some z) (hw : e.ownable = true) (hs : 0 < e.sz) :
    FnOk P (ρ.f 41) ⟨.pair (.sl e) .unit, [false], .sl e, fun x => if (x.1 : List (den e)).length ≤ lim then some x.1 else none⟩ := by
  refine ⟨fun _ => ?_, fun h => by cases h⟩
  intro w vs x y hx hy
  obtain ⟨c, r, rfl, hc, hr⟩ := hx
  have hr : r = [] := hr
  subst hr
  obtain ⟨a, n, cp, rfl, hn, hcp, hl⟩ := hc
  have hy : (if (x.1 : List (den e)).length ≤ lim then some x.1 else none) = some y := hy
  split at hy
  case isFalse => cases hy
  rename_i hlim
  cases hy
  obtain ⟨nm, hnm, hf⟩ := L.f41
  obtain ⟨i, hi, hsz, hb1, hb2, hzz⟩ := zero_val ht hz hw
  refine cf_of_calls hf hnm rfl ?_
  have nil_case : x.1 = [] → Calls P (ρ.f 41) #[.slice none n cp] w fun e' w' => ∃ v, e' = .returned v ∧ Ret (.sl e) x.1 w v w' := fun h0 => by
    refine (AnyE.slices_Clone_nil L n cp w).mono ?_
    rintro e' w' ⟨rfl, rfl⟩
    exact ⟨_, rfl, [], ⟨_, rfl, .inl ⟨rfl, h0, rfl⟩⟩, List.nodup_nil, fun b hb => (by cases hb), Below.refl _ _⟩
  cases a with
  | none =>
    rcases hl with h0 | ⟨b, o, arr, t, fz, h1, _⟩
    · exact nil_case h0
    · cases h1
  | some a =>
    have hcl : ∃ news : List Value, news.length = n * e.sz ∧ (∀ j u, news[j]? = some u → w.cell? (a.add j) = some u) ∧ (∀ u ∈ news, u.oneCell' = true) ∧
        ∀ (i : Nat) y, (x.1 : List (den e))[i]? = some y → TC e w (seg news (i * e.sz) e.sz) y [] := by
      rcases hl with h0 | ⟨b, o, arr, t, fz, h1, hb, hh, ho, hel⟩
      · have h0 : (x.1 : List (den e)) = [] := h0
        have hn0 : n = 0 := by rw [hn, h0]; rfl
        exact ⟨[], by rw [hn0]; simp, fun j u h => (by simp at h), fun u h => (by cases h), fun i y h => by rw [h0] at h; simp at h⟩
      · cases h1
        have hal : arr.toList.length = arr.size := Array.length_toList
        have hlen : (seg arr.toList o (n * e.sz)).length = n * e.sz := seg_len (by rw [hal]; exact ho)
        have hel' : ∀ (i : Nat) y, (x.1 : List (den e))[i]? = some y → TC e w (seg (seg arr.toList o (n * e.sz)) (i * e.sz) e.sz) y [] := fun i y hy => by
          have hi : i < n := by rw [hn]; exact (List.getElem?_eq_some_iff.1 hy).1
          have hm1 : (i + 1) * e.sz ≤ n * e.sz := Nat.mul_le_mul_right _ hi
          rw [Nat.succ_mul] at hm1
          rw [seg_seg _ hm1]
          exact TC_of_RX P e hm (hel i y hy)
        refine ⟨seg arr.toList o (n * e.sz), hlen, fun j u hj => ?_, fun u hu => ?_, hel'⟩
        · rw [seg_get] at hj
          split at hj
          case isFalse => cases hj
          rw [show (⟨b, o, none⟩ : Addr).add j = ⟨b, o + j, none⟩ from Addr.add_lit .., cellAt hh, ← Array.getElem?_toList]
          exact hj
        · obtain ⟨k, hk⟩ := List.getElem?_of_mem hu
          have hk2 := (List.getElem?_eq_some_iff.1 hk).1
          rw [hlen] at hk2
          have hi : k / e.sz < n := Nat.div_lt_of_lt_mul (by rw [Nat.mul_comm]; exact hk2)
          have hmod := Nat.mod_lt k hs
          have hi2 : k / e.sz < (x.1 : List (den e)).length := by rw [← hn]; exact hi
          have := TC_one (hel' (k / e.sz) _ (List.getElem?_eq_getElem hi2)) u (by
            refine List.mem_of_getElem? (i := k % e.sz) ?_
            rw [seg_get, if_pos hmod, Nat.mul_comm (k / e.sz), Nat.div_add_mod]; exact hk)
          exact this
    obtain ⟨news, hl1, hl2, hl3, hl4⟩ := hcl
    have hn40 : n ≤ 1099511627776 := by rw [hn]; exact hlim
    refine (clone_calls L i _ e.sz i.bytes hi hzz.1 hsz rfl (by rw [hzz.2]; simp; exact TC_len _ _ _ _ _ (TC_zero e (w := w) hz hw)) hs (fun w => ht.sizeOf w) a n cp news w hl1 (by unfold maxLen; omega) ?_ hl2 hl3).mono ?_
    · have := Nat.mul_le_mul hn40 hb1; omega
    rintro e' w' ⟨v', rfl, hown, hbel⟩
    refine ⟨v', rfl, ?_⟩
    obtain ⟨ho1, ho2⟩ := hown
    rcases ho2 with ⟨rfl, h0⟩ | ⟨g, cap, cur, rfl, hg, hcur, hle, hmx, hcs, htk⟩
    · have h0' : (x.1 : List (den e)) = [] := List.length_eq_zero_iff.1 (by rw [← hn]; exact h0)
      exact ⟨[], ⟨_, rfl, .inl ⟨rfl, h0', rfl⟩⟩, List.nodup_nil, fun b hb => (by cases hb), hbel⟩
    · refine ⟨[g], ⟨_, rfl, .inr ⟨g, 0, n, cap, cur, _, List.replicate n [], rfl, ?_, hn, hcur, hle, by rw [hcs]; omega, by simp, fun j y bi hy hbi => ?_⟩⟩, by simp, fun b hb => ?_, hbel⟩
      · congr 1; simp
      · have hbi' : bi = [] := List.eq_of_mem_replicate (List.mem_of_getElem? hbi)
        subst hbi'
        have hj : j < n := by rw [hn]; exact (List.getElem?_eq_some_iff.1 hy).1
        have hm1 : (j + 1) * e.sz ≤ n * e.sz := Nat.mul_le_mul_right _ hj
        rw [Nat.succ_mul] at hm1
        have e1 : seg cur.toList (0 + j * e.sz) e.sz = seg news (j * e.sz) e.sz := by
          rw [Nat.zero_add, ← htk]
          apply List.ext_getElem?
          intro k
          rw [seg_get, seg_get]
          by_cases hk : k < e.sz
          · rw [if_pos hk, if_pos hk, List.getElem?_take, if_pos (by omega)]
          · rw [if_neg hk, if_neg hk]
        rw [e1]
        exact TC_congr e (fun b hb => by cases hb) (hl4 j y hy)
      · simp only [List.mem_singleton] at hb; subst hb
        exact ⟨hg, (Array.getElem?_eq_some_iff.1 hcur).1⟩
/-- The library's search for a byte in a string. -/
theorem indexByte_ok {P : Program} {f : FuncId} {fn : Func} (hf : P.funcs[f]? = some fn) (hname : (fn.name == "runtime.NumGoroutine") = false) (hb : fn.body.isNone = true) (hn : Extern.findNext fn = none) (he : Extern.find fn = some Extern.BytealgIndexByte.indexByte) :
    FnOk P f ⟨.pair .str (.pair (.int .u8) .unit), [false, false], .int .i64, fun x => some (Lib.indexByte (x.1 : ByteArray).data.toList (x.2.1 : Int).toNat.toUInt8)⟩ := by
  refine ⟨fun _ => ?_, fun h => by cases h⟩
  intro w vs x y hx hy
  obtain ⟨c, r, rfl, hc, c2, r2, rfl, hc2, hr⟩ := hx
  have hr : r2 = [] := hr
  subst hr
  have hc : c = [.string x.1] := hc
  have hc2 : c2 = [.int .u8 x.2.1] := hc2
  subst hc; subst hc2
  cases hy
  refine cf_of_value (by
    rw [run_callFunc_extern hf hname hb hn he]
    show ((Extern.BytealgIndexByte.indexByte #[.string x.1, .int .u8 x.2.1]).run P w).andThen _ = _
    rw [Lib.run_indexByteString]; rfl) ?_
  exact ⟨[], ⟨_, rfl, rfl, rfl⟩, List.nodup_nil, fun b hb => (by cases hb), Below.refl _ _⟩
/-- The library's count of a byte in a string. -/
theorem countByte_ok {P : Program} {f : FuncId} {fn : Func} (hf : P.funcs[f]? = some fn) (hname : (fn.name == "runtime.NumGoroutine") = false) (hb : fn.body.isNone = true) (hn : Extern.findNext fn = none) (he : Extern.find fn = some Extern.BytealgCount.count) :
    FnOk P f ⟨.pair .str (.pair (.int .u8) .unit), [false, false], .int .i64, fun x => some ((Lib.countByte (x.1 : ByteArray).data.toList (x.2.1 : Int).toNat.toUInt8 : Nat) : Int)⟩ := by
  refine ⟨fun _ => ?_, fun h => by cases h⟩
  intro w vs x y hx hy
  obtain ⟨c, r, rfl, hc, c2, r2, rfl, hc2, hr⟩ := hx
  have hr : r2 = [] := hr
  subst hr
  have hc : c = [.string x.1] := hc
  have hc2 : c2 = [.int .u8 x.2.1] := hc2
  subst hc; subst hc2
  cases hy
  refine cf_of_value (by
    rw [run_callFunc_extern hf hname hb hn he]
    show ((Extern.BytealgCount.count #[.string x.1, .int .u8 x.2.1]).run P w).andThen _ = _
    rw [Lib.run_countString]; rfl) ?_
  exact ⟨[], ⟨_, rfl, rfl, rfl⟩, List.nodup_nil, fun b hb => (by cases hb), Below.refl _ _⟩
end Go.Proofs.Ytmlgfaojfmkdnaa.E
namespace Go.Proofs.Ytmlgfaojfmkdnaa.E
open Go Go.RowKit Go.ChangeShapes Go.WideShapes Go.ChangeAt
set_option linter.unusedVariables false
set_option linter.unusedSimpArgs false
theorem ok_valOf {P : Program} {ty : Nat → Option Ty} {w : World} {base t : Nat} {T : Ty} (h : TyOk P ty t T) (hd : dataB T = true) {v : Value} (hv : Value.okWide P w .any base t v) : v = valOf T v.cells.toList := by
  obtain ⟨d, hu, hok⟩ := h.und
  cases T with
  | st f =>
    cases d <;> simp only [UnOk] at hok
    simp only [Value.okWide, hu] at hv
    obtain ⟨cs, rfl, _⟩ := hv
    simp [Value.cells, valOf]
  | int k =>
    cases d <;> simp only [UnOk] at hok
    simp only [Value.okWide, Cell.okWide, hu] at hv
    cases v <;> simp_all [Cell.ok, Value.cells, valOf]
  | bool =>
    cases d <;> simp only [UnOk] at hok
    simp only [Value.okWide, Cell.okWide, hu] at hv
    cases v <;> simp_all [Cell.ok, Value.cells, valOf]
  | str =>
    cases d <;> simp only [UnOk] at hok
    simp only [Value.okWide, Cell.okWide, hu] at hv
    cases v <;> simp_all [Cell.ok, Value.cells, valOf]
  | sl e =>
    cases d <;> simp only [UnOk] at hok
    simp only [Value.okWide, Cell.okWide, hu] at hv
    cases v <;> simp_all [Cell.ok, Value.cells, valOf]
  | unit => exact (no_unit h).elim
  | pair a b => exact (no_pair h).elim
  | tup _ => cases hd
  | arr _ _ => cases hd
  | ptr _ => cases hd
  | fn _ _ => cases hd
/-- One argument: what it reads as, its cells, what is known of it. -/
theorem arg_open {P : Program} {ty : Nat → Option Ty} {w : World} {base t : Nat} {T : Ty} (O : ∀ t T, ty t = some T → TyOk P ty t T) (ht : ty t = some T) (hd : dataB T = true) {v : Value} (hv : Value.okWide P w .any base t v)
    {H : Type} {enc : TypeId × Value → H} {spare : Nat → Bool} {held : Bool} {d : DataW H} {ps : List MemPlace} (h : DataW.Trod enc P w 0 spare held t v d ps) :
    ∃ y : den T, v = valOf T v.cells.toList ∧ RX P T false w (fun b => b < w.heap.size) v.cells.toList y ∧ okD T y := by
  obtain ⟨m, hm⟩ := h
  obtain ⟨y, y1, y2⟩ := (opensAll (w := w) O T).1 t ht hd H enc spare held m _ _ hm
  exact ⟨y, ok_valOf (O t T ht) hd hv, y1, y2⟩
theorem ret_bool {w w' : World} {v : Value} {b : Bool} (h : Ret .bool b w v w') : v = .bool b ∧ Below w.heap.size w w' := by
  obtain ⟨bs, ⟨cs, e, h1, h2⟩, _, _, h3⟩ := h
  refine ⟨?_, h3⟩
  have h1 : cs = [.bool b] := h1
  subst h1
  simpa [valOf] using e
end Go.Proofs.Ytmlgfaojfmkdnaa.E
namespace Go.Proofs.Ytmlgfaojfmkdnaa.E
open Go Go.RowKit
set_option linter.unusedVariables false
set_option linter.unusedSimpArgs false
section
variable {C : Cx} {cf : Cfg} {st st' : St} {a : Act} {w w' : World} {G G' : Gh} {us : U}
theorem kcan_fit : ∀ (sh : Shp) (d : Nat), sh.okI = true → KFit sh (kcan sh d).1 ∧ ∀ p ∈ (kcan sh d).1.ids, p.2 = 1
  | .v T, d, _ => ⟨trivial, fun p hp => (by cases hp)⟩
  | .r e, d, _ => ⟨trivial, fun p hp => by simp only [kcan, KS.ids, List.mem_singleton] at hp; rw [hp]⟩
  | .bx c, d, h => by cases h
  | .cl _ c, d, h => by cases h
  | .unit, d, _ => ⟨trivial, fun p hp => (by cases hp)⟩
  | .pair a b, d, h => by
    simp only [Shp.okI, Bool.and_eq_true] at h
    obtain ⟨h1, h2⟩ := kcan_fit a d h.1
    obtain ⟨h3, h4⟩ := kcan_fit b (kcan a d).2 h.2
    exact ⟨⟨h1, h3⟩, fun p hp => (List.mem_append.1 hp).elim (h2 p) (h4 p)⟩
  | .st a, d, h => kcan_fit a d h
theorem kzL_fit : ∀ (l : Lv) {vs : List Value}, (l.all fun z => z.2.okO) = true → vs.length = l.length → FitL st0 G l (kzL l) vs
  | [], vs, _, hv => by rw [List.length_eq_zero_iff.1 hv]; trivial
  | (i, sh) :: l, [], _, hv => by simp at hv
  | (i, sh) :: l, v :: vs, h, hv => by
    simp only [List.all_cons, Bool.and_eq_true] at h
    have ih := kzL_fit l (vs := vs) h.2 (by simpa using hv)
    have g0 : ∀ k, (st0 k).gen = 0 := fun k => rfl
    cases sh with
    | bx c =>
      obtain ⟨h1, h2⟩ := kcan_fit c (8 * i + 1) h.1
      exact ⟨h1, fun p hp => by rw [h2 p hp]; exact Nat.zero_lt_one, .inl Nat.zero_lt_one, ih⟩
    | cl f c =>
      obtain ⟨h1, h2⟩ := kcan_fit c (8 * i + 1) h.1
      exact ⟨h1, fun p hp => by rw [h2 p hp]; exact Nat.zero_lt_one, .inl Nat.zero_lt_one, ih⟩
    | _ =>
      have hI := h.1
      simp only [Shp.okO, Bool.and_eq_true] at hI
      obtain ⟨h1, h2⟩ := kcan_fit _ (8 * i) hI.1
      exact ⟨h1, fun p hp => by rw [h2 p hp]; exact Nat.zero_lt_one, ih⟩
theorem putS_keys : ∀ (sh : Shp) (k : KS) (x : den sh.ty), KFit sh k → (putS sh k x).2.map (·.1) = k.keys
  | .v T, k, x, h => by cases k <;> first | rfl | exact h.elim
  | .r e, k, x, h => by cases k <;> first | rfl | exact h.elim
  | .bx c, k, x, h => by cases k <;> exact h.elim
  | .cl _ c, k, x, h => by cases k <;> exact h.elim
  | .unit, k, x, h => by cases k <;> first | rfl | exact h.elim
  | .pair a b, k, x, h => by
    cases k <;> try exact h.elim
    rename_i k1 k2
    show ((putS a k1 x.1).2 ++ (putS b k2 x.2).2).map (·.1) = _
    rw [List.map_append, putS_keys a k1 x.1 h.1, putS_keys b k2 x.2 h.2]; rfl
  | .st a, k, x, h => by
    cases k <;> try exact h.elim
    rename_i k1
    exact putS_keys a k1 x h
theorem putL_keys : ∀ (l : Lv) (ks : List (Nat × Nat × KS)) (x : den l.ty) {vs : List Value}, FitL st G l ks vs → (putL l ks x).2.map (·.1) = keysL l ks
  | [], [], x, vs, h => rfl
  | [], _ :: _, x, vs, h => rfl
  | (i, sh) :: l, [], x, vs, h => by cases sh <;> cases vs <;> exact h.elim
  | (i, sh) :: l, k :: ks, x, [], h => by cases sh <;> exact h.elim
  | (i, sh) :: l, (b, g, k) :: ks, x, v :: vs, h => by
    cases sh with
    | bx c =>
      show ((bk b, _) :: (putS c k x.1).2 ++ (putL l ks x.2).2).map (·.1) = _
      rw [List.map_append, List.map_cons, putS_keys c k x.1 h.1, putL_keys l ks x.2 h.2.2.2]; rfl
    | cl f c =>
      show ((bk b, _) :: (putS c k x.1).2 ++ (putL l ks x.2).2).map (·.1) = _
      rw [List.map_append, List.map_cons, putS_keys c k x.1 h.1, putL_keys l ks x.2 h.2.2.2]; rfl
    | v T =>
      show ((putS _ k x.1).2 ++ (putL l ks x.2).2).map (·.1) = _
      rw [List.map_append, putS_keys _ k x.1 h.1, putL_keys l ks x.2 h.2.2]; rfl
    | r T =>
      show ((putS _ k x.1).2 ++ (putL l ks x.2).2).map (·.1) = _
      rw [List.map_append, putS_keys _ k x.1 h.1, putL_keys l ks x.2 h.2.2]; rfl
    | unit =>
      show ((putS _ k x.1).2 ++ (putL l ks x.2).2).map (·.1) = _
      rw [List.map_append, putS_keys _ k x.1 h.1, putL_keys l ks x.2 h.2.2]; rfl
    | pair A B =>
      show ((putS _ k x.1).2 ++ (putL l ks x.2).2).map (·.1) = _
      rw [List.map_append, putS_keys _ k x.1 h.1, putL_keys l ks x.2 h.2.2]; rfl
    | st A =>
      show ((putS _ k x.1).2 ++ (putL l ks x.2).2).map (·.1) = _
      rw [List.map_append, putS_keys _ k x.1 h.1, putL_keys l ks x.2 h.2.2]; rfl
/-- The slots of the parameters. -/
theorem slots_sw {P : Program} {S : Nat → Prop} : ∀ (l : Lv) (v : SV) {vs : List Value} (i0 : Nat), idxs i0 l = true → SX P st G w S v true vs → ∀ z ∈ slotsU l v, ∃ j v', z = (sk (i0 + j), .sv v') ∧ j < vs.length ∧ SW P st G w S v' (vs.getD j undef)
  | [], v, vs, i0, _, _, z, hz => by cases v <;> cases hz
  | (i, sh) :: l, v, vs, i0, hi, h, z, hz => by
    cases v with
    | pair a b =>
      obtain ⟨c, r, rfl, h1, h2⟩ := h
      simp only [idxs, Bool.and_eq_true] at hi
      have hi0 := Nat.eq_of_beq_eq_true hi.1
      subst hi0
      rcases List.mem_cons.1 hz with hz | hz
      · refine ⟨0, a, hz, by simp, ?_⟩
        show SW P st G w S a (valS a c)
        cases a <;> first | exact ⟨c, rfl, h1⟩ | exact h1.elim
      · obtain ⟨j, v', k1, k2, k3⟩ := slots_sw l b (i + 1) hi.2 h2 z hz
        refine ⟨j + 1, v', by rw [k1]; congr 2; omega, by simpa using k2, by simpa using k3⟩
    | _ => cases hz
theorem slots_keys : ∀ (l : Lv) (v : SV) (i0 : Nat), idxs i0 l = true → ((slotsU l v).map (·.1)).Nodup ∧ ∀ z ∈ slotsU l v, ∃ j v', z = (sk j, .sv v') ∧ i0 ≤ j
  | [], v, i0, _ => by cases v <;> exact ⟨List.nodup_nil, fun z hz => (by cases hz)⟩
  | (i, sh) :: l, v, i0, hi => by
    cases v with
    | pair a b =>
      simp only [idxs, Bool.and_eq_true] at hi
      have hi0 := Nat.eq_of_beq_eq_true hi.1
      subst hi0
      obtain ⟨h1, h2⟩ := slots_keys l b (i + 1) hi.2
      refine ⟨?_, fun z hz => ?_⟩
      · show (sk i :: (slotsU l b).map (·.1)).Nodup
        rw [List.nodup_cons]
        refine ⟨fun hm => ?_, h1⟩
        obtain ⟨z, hz, e⟩ := List.mem_map.1 hm
        obtain ⟨j, v', e2, hj⟩ := h2 z hz
        rw [e2] at e
        have := sk_inj e
        omega
      · rcases List.mem_cons.1 hz with hz | hz
        · exact ⟨i, a, hz, Nat.le_refl _⟩
        · obtain ⟨j, v', k1, k2⟩ := h2 z hz
          exact ⟨j, v', k1, by omega⟩
    | _ => exact ⟨List.nodup_nil, fun z hz => (by cases hz)⟩
theorem entry_invS {P : Program} {ps : Lv} {vals : List Value} {x : den ps.ty} {bs : List Nat} {S : Nat → Prop} {pr nt : Nat} (h : XL P ps w S vals x bs) (hn : bs.Nodup) (hS : ∀ b, S b → b < w.heap.size ∧ b ∉ bs) (hbs : ∀ b ∈ bs, b < w.heap.size) (hok : entSB ps = true) (hlen : ps.length ≤ nt) (hpr : pr ≤ ps.length) :
    ∃ G, Inv ⟨P, w, bs, vals, pr, nt, fun b => S b ∨ w.heap.size ≤ b ∨ b ∈ bs⟩ (entSt ps x) { tmps := vals.toArray ++ Array.replicate (nt - vals.toArray.size) undef, defers := [] } w G := by
  simp only [entSB, Bool.and_eq_true, nodupB_iff] at hok
  obtain ⟨⟨hi, hO⟩, hkn⟩ := hok
  have hvl := XL_len _ h
  let G0 : Gh := ⟨fun _ => undef, fun _ => [], fun _ => 0, fun b => S b ∨ w.heap.size ≤ b ∨ b ∈ bs⟩
  have hfit := kzL_fit (G := G0) ps (vs := vals) hO hvl
  obtain ⟨ge, K⟩ := putL_ok (st := st0) (G := G0) (fun b hb => (hS b hb).1) ps (kzL ps) x hfit h
  have hke := putL_keys ps (kzL ps) x hfit
  have hkn : ((putL ps (kzL ps) x).2.map (·.1)).Nodup := by rw [hke]; exact hkn
  have hkg : (ge.map (·.1)).Nodup := K.keys ▸ hkn
  obtain ⟨hsn, hsk⟩ := slots_keys ps (putL ps (kzL ps) x).1 0 hi
  have bn : (ge.flatMap (·.2.2)).Nodup := K.bls ▸ hn
  let G : Gh := ⟨fun k => match ge.lookup k with | some q => q.1 | none => undef, fun k => match ge.lookup k with | some q => q.2 | none => [], fun k => match ge.lookup k with | some q => q.2.headD 0 | none => 0, fun b => S b ∨ w.heap.size ≤ b ∨ b ∈ bs⟩
  have hga : GA G ge := fun q hq => by
    have := lkp_mem ge hkg (show (q.1, q.2) ∈ ge from hq)
    refine ⟨?_, ?_, ?_⟩
    · show (match ge.lookup q.1 with | some q => q.1 | none => undef) = _; rw [this]
    · show (match ge.lookup q.1 with | some q => q.2 | none => []) = _; rw [this]
    · show (match ge.lookup q.1 with | some q => q.2.headD 0 | none => 0) = _; rw [this]
  have hin : ∀ z ∈ (putL ps (kzL ps) x).2, entSt ps x z.1 = z.2 := fun z hz => upds_in _ _ hkn (by simpa using hz)
  have hcell : ∀ z ∈ (putL ps (kzL ps) x).2, ∀ i, z.1 ≠ sk i := fun z hz i e => by
    obtain ⟨q, _, _, ⟨t, _, _, _, h1, _⟩ | ⟨b, _, _, _, _, _, _, h1, _⟩⟩ := K.cell z hz
    · rw [h1] at e; exact sk_ne_rk _ _ e.symm
    · rw [h1] at e; exact sk_ne_bk _ _ e.symm
  have hslot : ∀ i, entSt ps x (sk i) = upds st0 (slotsU ps (putL ps (kzL ps) x).1) (sk i) := fun i => upds_out _ _ _ fun p hp e => hcell p hp i e
  have hout : ∀ k, (∀ i, k ≠ sk i) → k ∉ (putL ps (kzL ps) x).2.map (·.1) → entSt ps x k = .none := fun k h1 h2 => by
    have e1 : entSt ps x k = upds st0 (slotsU ps (putL ps (kzL ps) x).1) k := upds_out _ _ _ fun p hp e => h2 (List.mem_map.2 ⟨p, hp, e⟩)
    rw [e1, upds_out _ _ _ fun p hp e => ?_]; rfl
    obtain ⟨j, v', e2, _⟩ := hsk p hp
    rw [e2] at e; exact h1 j e.symm
  have hsl : ∀ i, entSt ps x (sk i) = .none ∨ ∃ v, entSt ps x (sk i) = .sv v ∧ (sk i, Cell.sv v) ∈ slotsU ps (putL ps (kzL ps) x).1 := fun i => by
    rw [hslot i]
    by_cases hk : ∃ p ∈ slotsU ps (putL ps (kzL ps) x).1, p.1 = sk i
    · obtain ⟨p, hp, e⟩ := hk
      obtain ⟨j, v', e2, _⟩ := hsk p hp
      rw [e2] at e
      have := sk_inj e
      subst this
      right
      rw [e2] at hp
      exact ⟨v', upds_in _ _ hsn hp, hp⟩
    · left
      rw [upds_out _ _ _ fun p hp e => hk ⟨p, hp, e⟩]; rfl
  have hmem : ∀ k, entSt ps x k ≠ .none → (∀ i, k ≠ sk i) → ∃ z ∈ (putL ps (kzL ps) x).2, z.1 = k := fun k h1 h2 => by
    by_cases hk : k ∈ (putL ps (kzL ps) x).2.map (·.1)
    · obtain ⟨z, hz, e⟩ := List.mem_map.1 hk; exact ⟨z, hz, e⟩
    · exact absurd (hout k h2 hk) h1
  have hns : ∀ k c, entSt ps x k = c → (∀ v, c ≠ .sv v) → c ≠ .none → ∃ z ∈ (putL ps (kzL ps) x).2, z.1 = k := fun k c h1 h2 h3 => by
    refine hmem k (by rw [h1]; exact h3) fun i e => ?_
    subst e
    rcases hsl i with h | ⟨v, h, _⟩
    · rw [h] at h1; exact h3 h1.symm
    · rw [h] at h1; exact h2 v h1.symm
  have hown : ∀ k b, b ∈ ownB (entSt ps x) G k → ∃ z ∈ (putL ps (kzL ps) x).2, z.1 = k := fun k b hb => by
    unfold ownB at hb
    split at hb
    · rename_i g h e l hr; exact hns k _ hr (fun v e => by cases e) (by simp)
    · rename_i g T v hr; exact hns k _ hr (fun v e => by cases e) (by simp)
    · rename_i g hr; exact hns k _ hr (fun v e => by cases e) (by simp)
    · cases hb
  have hz : ∀ z ∈ (putL ps (kzL ps) x).2, ∃ q ∈ ge, q.1 = z.1 ∧ ownB (entSt ps x) G z.1 = q.2.2 := fun z hz => by
    obtain ⟨q, hq, e, h⟩ := K.cell z hz
    refine ⟨q, hq, e, ?_⟩
    have hz2 := hin z hz
    have g := hga q hq
    rw [e] at g
    unfold ownB
    rw [hz2]
    rcases h with ⟨t, g', e', l, h1, _⟩ | ⟨b, g', T, v, blk, arr, ty, h1, h2, _⟩
    · rw [h1]; rw [h1] at g; exact g.2.1
    · rw [h1]; rw [h1] at g
      show [G.bx (bk b)] = _
      rw [g.2.2, h2]; rfl
  have hfz : ∀ b, S b → Fz (entSt ps x) G w b := fun b hb => by
    refine ⟨(hS b hb).1, fun k hk => ?_, .inl hb⟩
    obtain ⟨z, hz1, rfl⟩ := hown k b hk
    obtain ⟨q, hq, _, ho⟩ := hz z hz1
    rw [ho] at hk
    exact (hS b hb).2 (by rw [K.bls]; exact List.mem_flatMap.2 ⟨q, hq, hk⟩)
  have hinst : Inst (putL ps (kzL ps) x).2 ge S w (entSt ps x) G (Fz (entSt ps x) G w) := ⟨hin, hga, hfz, fun b hb => hb.1⟩
  have hsx := K.sx _ _ _ hinst
  have hsize : vals.toArray.size = vals.length := by simp
  have htm : ∀ i, i < vals.length → ({ tmps := vals.toArray ++ Array.replicate (nt - vals.toArray.size) undef, defers := [] } : Act).tmps.getD i undef = vals.getD i undef := fun i hi => by
    show (vals.toArray ++ Array.replicate (nt - vals.toArray.size) undef).getD i undef = _
    simp only [Array.getD_eq_getD_getElem?, List.getD]
    rw [Array.getElem?_append_left (by simpa using hi)]
    simp
  refine ⟨G, { rt := fun k g hh e l hr => ?_, sc := fun i => ?_, bx := fun k g T v hr => ?_, nd := fun k => ?_, dj := fun k k' b h1 h2 => ?_, lt := fun k b hb => ?_, os := rfl, tape := rfl, output := rfl, size := Nat.le_refl _, block := fun _ _ _ => rfl, s0 := rfl, m0 := fun b hb => hb.elim (fun h => .inr (.inl h)) (fun h => .inr (.inr h)), sl := fun i v hv => ?_, df := rfl, sz := ?_, pa := fun i hi => ?_ }⟩
  · obtain ⟨z, hz1, rfl⟩ := hns k _ hr (fun v e => by cases e) (by simp)
    obtain ⟨q, hq, e', hc⟩ := K.cell z hz1
    have hz2 := hin z hz1
    have gg := hga q hq
    rw [e'] at gg
    rw [hz2] at hr
    rcases hc with ⟨t, g', e2, l2, h1, h2, _⟩ | ⟨b, g', T, v, blk, arr, ty, h1, _⟩
    · rw [h1] at hr; cases hr
      rw [gg.1, gg.2.1]; exact h2
    · rw [h1] at hr; cases hr
  · rcases hsl i with h | ⟨v, h, _⟩
    · exact .inr h
    · exact .inl ⟨v, h⟩
  · obtain ⟨z, hz1, rfl⟩ := hns k _ hr (fun v e => by cases e) (by simp)
    obtain ⟨q, hq, e', hc⟩ := K.cell z hz1
    have hz2 := hin z hz1
    have gg := hga q hq
    rw [e'] at gg
    rw [hz2] at hr
    rcases hc with ⟨t, g', e2, l2, h1, _⟩ | ⟨b, g', T', v', blk, arr, ty, h1, h2, h3, h4, h5, h6⟩
    · rw [h1] at hr; cases hr
    · rw [h1] at hr; cases hr
      refine ⟨h3, arr, ty, ?_, h6 _ _ _ hinst⟩
      rw [gg.2.2, h2]; exact h4
  · by_cases hk : ∃ z ∈ (putL ps (kzL ps) x).2, z.1 = k
    · obtain ⟨z, hz1, rfl⟩ := hk
      obtain ⟨q, hq, e, ho⟩ := hz z hz1
      rw [ho]; exact flat_nd bn q hq
    · have : ownB (entSt ps x) G k = [] := List.eq_nil_iff_forall_not_mem.2 fun b hb => hk (hown k b hb)
      rw [this]; exact List.nodup_nil
  · obtain ⟨z, hz1, rfl⟩ := hown k b h1
    obtain ⟨z', hz1', rfl⟩ := hown k' b h2
    obtain ⟨q, hq, e, ho⟩ := hz z hz1
    obtain ⟨q', hq', e', ho'⟩ := hz z' hz1'
    rw [ho] at h1; rw [ho'] at h2
    rw [← e, ← e', flat_dj bn q hq q' hq' b h1 h2]
  · obtain ⟨z, hz1, rfl⟩ := hown k b hb
    obtain ⟨q, hq, e, ho⟩ := hz z hz1
    rw [ho] at hb
    have : b ∈ bs := by rw [K.bls]; exact List.mem_flatMap.2 ⟨q, hq, hb⟩
    exact ⟨hbs b this, .inr this⟩
  · rcases hsl i with h | ⟨v', h, hm⟩
    · rw [h] at hv; cases hv
    · rw [h] at hv; cases hv
      obtain ⟨j, v2, e2, hj, hw⟩ := slots_sw ps _ 0 hi hsx _ hm
      simp only [Prod.mk.injEq, Cell.sv.injEq, Nat.zero_add] at e2
      have := sk_inj e2.1
      subst this
      rw [e2.2, htm i hj]; exact hw
  · show (vals.toArray ++ Array.replicate (nt - vals.toArray.size) undef).size = nt
    rw [Array.size_append, Array.size_replicate, hsize]; omega
  · show (vals.toArray ++ Array.replicate (nt - vals.toArray.size) undef).getD i undef = vals.getD i undef
    exact htm i (by rw [hvl]; exact Nat.lt_of_lt_of_le hi hpr)
theorem outsV_run {α : Type} {u : α} (I : Inv C st a w G) : ∀ (l : Lv) {f : SV → M α}, Rn (outsV l f) st u → ∃ v, SX C.P st G w (Fz st G w) v true (l.map fun p => a.tmps.getD p.1 undef) ∧ Rn (f v) st u
  | [], f, h => ⟨.unit, rfl, h⟩
  | (i, sh) :: l, f, h => by
    unfold outsV at h
    obtain ⟨v, _, hv, h⟩ := slot_run I h
    split at h
    · exact (Rn_fail.1 h).elim
    · rename_i hnt
      obtain ⟨v', k1, k2⟩ := outsV_run I l h
      obtain ⟨c, hc1, hc2⟩ := SW_cells hv (fun b e => hnt b e)
      exact ⟨.pair v v', ⟨c, _, by rw [List.map_cons, hc1], hc2, k1⟩, k2⟩
theorem outV_map (f : Nat → Value) : ∀ (l : Lv) (vs : List Value) (i0 : Nat), idxs i0 l = true → vs.length = l.length → (∀ p ∈ outL l, p.1 < i0 + vs.length → f p.1 = vs.getD (p.1 - i0) undef) → (outL l).map (fun p => f p.1) = outV l vs
  | [], vs, i0, _, hv, _ => by rw [List.length_eq_zero_iff.1 hv]; rfl
  | (i, sh) :: l, [], i0, _, hv, _ => by simp at hv
  | (i, sh) :: l, v :: vs, i0, hi, hv, h => by
    simp only [idxs, Bool.and_eq_true] at hi
    have hi0 := Nat.eq_of_beq_eq_true hi.1
    subst hi0
    have hge : ∀ (l : Lv) (i0 : Nat), idxs i0 l = true → ∀ p ∈ outL l, i0 ≤ p.1 := by
      intro l
      induction l with
      | nil => intro i0 _ p hp; cases hp
      | cons q l ih =>
        intro i0 hi p hp
        obtain ⟨q1, q2⟩ := q
        simp only [idxs, Bool.and_eq_true] at hi
        have e := Nat.eq_of_beq_eq_true hi.1
        have := fun hp => ih (i0 + 1) hi.2 p hp
        cases q2 with
        | bx c =>
          rcases List.mem_cons.1 hp with hp | hp
          · rw [hp]; exact Nat.le_of_eq e.symm
          · have := this hp; omega
        | cl f c =>
          rcases List.mem_cons.1 hp with hp | hp
          · rw [hp]; exact Nat.le_of_eq e.symm
          · have := this hp; omega
        | _ => have := this hp; omega
    have rest := outV_map f l vs (i + 1) hi.2 (by simpa using hv) (fun p hp hlt => by
      have h1 := hge l (i + 1) hi.2 p hp
      have hp' : p ∈ outL ((i, sh) :: l) := by cases sh <;> first | exact hp | exact List.mem_cons_of_mem _ hp
      rw [h p hp' (by simp; omega), show p.1 - i = (p.1 - (i + 1)) + 1 from by omega]; simp)
    cases sh with
    | bx c =>
      show f i :: (outL l).map (fun p => f p.1) = v :: outV l vs
      rw [rest, h (i, .bx c) List.mem_cons_self (by simp)]; simp
    | cl f0 c =>
      show f i :: (outL l).map (fun p => f p.1) = v :: outV l vs
      rw [rest, h (i, .cl f0 c) List.mem_cons_self (by simp)]; simp
    | _ => exact rest
/-- The boxes among the parameters stand in slots that stay as they are. -/
def protB (ps : Lv) (pr : Nat) : Bool := (outL ps).all fun p => Nat.blt p.1 pr
theorem fin_shape {P : Program} {ps rl : Lv} {vals : List Value} {bs : List Nat} {S : Nat → Prop} {w0 : World} {fn : Func} {y : den rl.ty × den (outL ps).ty} {pr nt : Nat} (O : CfgOk ⟨P, w0, bs, vals, pr, nt, fun b => S b ∨ w0.heap.size ≤ b ∨ b ∈ bs⟩ cf) (I : Inv ⟨P, w0, bs, vals, pr, nt, fun b => S b ∨ w0.heap.size ≤ b ∨ b ∈ bs⟩ st a w G)
    {F : den ps.ty → Option (den rl.ty × den (outL ps).ty)} (hi : idxs 0 ps = true) (hp : protB ps pr = true) (hvl : vals.length = ps.length) (h : Rn (finS cf fn.results.toList ps rl) st y) : ∃ v, (results fn a.tmps).run P w = .ok v w ∧ ShRet P ⟨ps, rl, F⟩ vals y.1 y.2 bs S w0 v w := by
  unfold finS at h
  obtain ⟨v, vs, h1, h2, h⟩ := resSV_run O I _ h
  obtain ⟨x, ks, gs, od, d1, h, A⟩ := rdL_run I.toInvM rl v _ h h2
  obtain ⟨u, h3, h⟩ := outsV_run I (outL ps) h
  obtain ⟨z, ks', gs', od', d2, h, B⟩ := rdL_run I.toInvM (outL ps) u _ h h3
  rw [Rn_bif] at h
  rcases h with ⟨hb, h⟩ | ⟨_, h⟩
  case inr => exact (Rn_fail.1 h).elim
  rw [Rn_ret] at h
  subst h
  rw [nodupB_iff] at hb
  obtain ⟨hodn, _, hodg⟩ := List.nodup_append.1 hb
  have hov : (outL ps).map (fun p => a.tmps.getD p.1 undef) = outV ps vals := outV_map (fun i => a.tmps.getD i undef) ps vals 0 hi hvl fun p hp' _ => by
    have := List.all_eq_true.1 hp p hp'
    rw [Nat.sub_zero]
    exact I.pa p.1 (Nat.le_of_ble_eq_true this)
  have hown : ∀ b, b ∈ od.flatMap (ownB st G) ++ od'.flatMap (ownB st G) → ∃ k ∈ od ++ od', b ∈ ownB st G k := fun b hb => by
    rcases List.mem_append.1 hb with hb | hb
    · obtain ⟨k, hk, hb⟩ := List.mem_flatMap.1 hb; exact ⟨k, List.mem_append_left _ hk, hb⟩
    · obtain ⟨k, hk, hb⟩ := List.mem_flatMap.1 hb; exact ⟨k, List.mem_append_right _ hk, hb⟩
  have s0 : ∀ b, G.s0 b → S b ∨ w0.heap.size ≤ b ∨ b ∈ bs := fun b hb => by rw [I.s0] at hb; exact hb
  have hS1 : ∀ b, Fz st G w b → b < w.heap.size ∧ (S b ∨ w0.heap.size ≤ b ∨ b ∈ bs) ∧ b ∉ od.flatMap (ownB st G) ++ od'.flatMap (ownB st G) := fun b hb => ⟨hb.1, s0 b hb.2.2, fun hm => by
    obtain ⟨k, _, hk⟩ := hown b hm
    exact hb.2.1 k hk⟩
  have hS2 : ∀ (gs2 : List (Nat × Nat)), (∀ p ∈ gs2, p ∈ gs ++ gs') → (∀ p ∈ gs2, RT st p) → ∀ p ∈ gs2, ∀ b ∈ G.bl (rk p.1), b < w.heap.size ∧ (S b ∨ w0.heap.size ≤ b ∨ b ∈ bs) ∧ b ∉ od.flatMap (ownB st G) ++ od'.flatMap (ownB st G) := fun gs2 hsub hrt p hp b hb => by
    have ho : b ∈ ownB st G (rk p.1) := by rw [own_of_RT (hrt p hp)]; exact hb
    refine ⟨(I.lt _ _ ho).1, s0 b (I.m0 _ (I.lt _ _ ho).2), fun hm => ?_⟩
    obtain ⟨k, hk, hbk⟩ := hown b hm
    have := I.dj _ _ _ hbk ho
    subst this
    exact hodg _ hk _ (List.mem_map.2 ⟨p, hsub p hp, rfl⟩) rfl
  refine ⟨retV vs, ?_, ⟨vs, _, _, rfl, A.xs _ hS1 (fun b hb => hb.1) (hS2 gs (fun p hp => List.mem_append_left _ hp) A.gone), ?_, ?_, fun b hb => ?_⟩, I.os, I.tape, I.output, I.size, I.block⟩
  · rw [results_run h1]; rfl
  · have := B.xs _ hS1 (fun b hb => hb.1) (hS2 gs' (fun p hp => List.mem_append_right _ hp) B.gone)
    rw [hov] at this
    exact this
  · rw [← List.flatMap_append]; exact own_nd I.toInvM _ hodn
  · obtain ⟨k, _, hk⟩ := hown b hb
    exact ⟨(I.lt _ _ hk).2.symm, (I.lt _ _ hk).1⟩
/-- A function's contract by shapes: out of its code, and the evaluator's run of it. -/
theorem sh_ok {P : Program} {cf : Cfg} {f : FuncId} {fn : Func} {c : Code} {ps rl : Lv} {en : Env (den rl.ty × den (outL ps).ty)} {F : den ps.ty → Option (den rl.ty × den (outL ps).ty)} (hf : P.funcs[f]? = some fn) (hname : (fn.name == "runtime.NumGoroutine") = false) (hb : fn.body = some c)
    (hT : ∀ t T, cf.ty t = some T → TyOk P cf.ty t T) (hfn : ∀ g sp, cf.fn g = some sp → FnOk P g sp) (hfs : ∀ g sp, cf.fs g = some sp → ShOk P g sp) (hmp : ∀ g p, cf.mp g = some p → MpOk P g p.1 p.2) (hmix : P.follows .mixedOrders = true) (hnt : cf.nt = fn.ntmps) (hpr : cf.prot ≤ ps.length) (hprm : protB ps cf.prot = true) (hlen : ps.length ≤ cf.nt) (hent : entSB ps = true)
    (hl : ∀ C, C.P = P → CfgOk C cf → LpOk C en c) (hF : ∀ x y, F x = some y → evFnS cf ps rl en fn.results.toList c x = some y) : ShOk P f ⟨ps, rl, F⟩ := by
  intro w vals x y z bs S hX hnd hS hbs hy
  have O : CfgOk ⟨P, w, bs, vals, cf.prot, cf.nt, fun b => S b ∨ w.heap.size ≤ b ∨ b ∈ bs⟩ cf := ⟨rfl, rfl, hT, hfn, hfs, hmp⟩
  have hX : XL P ps w S vals x bs := hX
  have hvl : vals.length = ps.length := XL_len _ hX
  have hi : idxs 0 ps = true := by simp only [entSB, Bool.and_eq_true] at hent; exact hent.1.1
  obtain ⟨G, I⟩ := entry_invS (nt := cf.nt) (pr := cf.prot) hX hnd hS hbs hent hlen hpr
  intro o a next Q hn
  rw [run_enter hf hname hb, Oper.upon_enter]
  refine calls_of_wp hf hb ?_
  have hev := hF x (y, z) hy
  unfold evFnS at hev
  rw [← hnt]
  have last : ∀ st' a' w' G', (finS cf fn.results.toList ps rl).go st' [] (fun _ y => some y) = some (y, z) → Inv ⟨P, w, bs, vals, cf.prot, cf.nt, fun b => S b ∨ w.heap.size ≤ b ∨ b ∈ bs⟩ st' a' w' G' → ∃ v, (results fn a'.tmps).run P w' = .ok v w' ∧ ShRet P ⟨ps, rl, F⟩ vals y z bs S w v w' := fun st' a' w' G' h I' => by
    obtain ⟨rd, u, h1, h2⟩ := go_run _ _ h
    simp only [Option.some.injEq] at h2
    subst h2
    exact fin_shape O I' hi hprm hvl ⟨rd, h1⟩
  refine evC_sound O hmix c (hl _ rfl O) hev I (fun st' a' w' G' h I' => ?_) (fun i st' a' w' G' h I' => by cases h) (fun st' a' w' G' h I' => ?_)
  · obtain ⟨v, k1, k2⟩ := last st' a' w' G' h I'
    exact ⟨I'.df, v, k1, hn v w' k2⟩
  · obtain ⟨v, k1, k2⟩ := last st' a' w' G' h I'
    exact ⟨I'.df, v, k1, hn v w' k2⟩
theorem shOk_none {P : Program} {f : Nat} {ps rl : Lv} : ShOk P f ⟨ps, rl, fun _ => none⟩ := by
  intro w vs x y z bs S _ _ _ _ hy; cases hy
end
end Go.Proofs.Ytmlgfaojfmkdnaa.E
namespace Go.Proofs.Ytmlgfaojfmkdnaa.E
open Go Go.RowKit
set_option linter.unusedVariables false
set_option linter.unusedSimpArgs false
/-- An open number stops the computation here (so that the kernel does not open a segment that it need not). -/
def gN {α : Type} (n : Nat) (x : α) : α := match n with
  | 0 => x
  | _ + 1 => x
theorem gN_eq {α : Type} (n : Nat) (x : α) : gN n x = x := by cases n <;> rfl
/-- A loop (its first region, the live slots at its head, the slots that share roots, its plain function) or a segment (the live slots ahead of it and behind it; q: 0, or an open number that locks it). -/
inductive PD (R : Type) where
  | L (id : Nat) (l : Lv) (al : Al) (g : Nat → den l.ty → (Nat → St → Option R) → (St → Option R) → Option R)
  | J (id : Nat) (l ln : Lv) (q : Nat) (g : Nat → den l.ty → (den ln.ty → Option R) → (Nat → St → Option R) → (St → Option R) → Option R)
def lkL {R : Type} (k : Nat) : List (PD R) → Nat → Option (LoopS R)
  | [], _ => none
  | .L i l al g :: D, t => bif Nat.beq i t then some (mkLoopA l al (g k)) else lkL k D t
  | .J _ _ _ _ _ :: D, t => lkL k D t
def lkS {R : Type} (k : Nat) : List (PD R) → Nat → Option (SegS R)
  | [], _ => none
  | .L _ _ _ _ :: D, t => lkS k D t
  | .J i l ln q g :: D, t => bif Nat.beq i t then some (mkSeg l ln (g k)) else lkS k D t
def hasL {R : Type} : List (PD R) → Nat → Bool
  | [], _ => false
  | .L i _ _ _ :: D, t => Nat.beq i t || hasL D t
  | .J _ _ _ _ _ :: D, t => hasL D t
def hasS {R : Type} : List (PD R) → Nat → Bool
  | [], _ => false
  | .L _ _ _ _ :: D, t => hasS D t
  | .J i _ _ _ _ :: D, t => Nat.beq i t || hasS D t
def mkEn {R : Type} (D : List (PD R)) (X : List (Nat × Lv)) (rv : Lv) (k : Nat) : Env R := { L := lkL k D, X := lk X, S := lkS k D, rv := rv }
/-- The loops' bodies (true) and segments (false) of a code, in its order. -/
def partsA {R : Type} (D : List (PD R)) : Code → List (Bool × Code)
  | .seq a b => partsA D a ++ ((bif hasS D (rid b) then [(false, b)] else []) ++ partsA D b)
  | .cond _ a b => ((bif hasS D (rid a) then [(false, a)] else []) ++ partsA D a) ++ ((bif hasS D (rid b) then [(false, b)] else []) ++ partsA D b)
  | .block _ c => partsA D c
  | .loop c => (bif hasL D (rid c) then [(true, c)] else []) ++ partsA D c
  | _ => []
def nthC : List (Bool × Code) → Nat → Code
  | [], _ => .skip
  | c :: _, 0 => c.2
  | _ :: l, n + 1 => nthC l n
/-- The table has just these parts, each name once. -/
def idsB {R : Type} : List (PD R) → List (Bool × Code) → Bool
  | [], [] => true
  | .L i _ _ _ :: D, (b, c) :: ps => b && Nat.beq i (rid c) && !hasL D i && idsB D ps
  | .J i _ _ _ _ :: D, (b, c) :: ps => !b && Nat.beq i (rid c) && !hasS D i && idsB D ps
  | _, _ => false
/-- A part's plain function is one run of the evaluator over its code. -/
def EqOf {R : Type} (cf : Cfg) (en : Nat → Env R) : PD R → Code → Prop
  | .L _ l al g, c => (∀ k x kx kr, g (k + 1) x kx kr = evC cf (en k) c (mkStA l al x) (fun s => mkLoopA l al (g k) s kx kr) kx kr) ∧ ∀ x kx kr, g 0 x kx kr = none
  | .J _ l ln q g, c => ∀ k x kn kx kr, g k x kn kx kr = gN q (evC cf (en k) c (mkSt l x) (cutK ln kn) kx kr)
def HD {R : Type} (cf : Cfg) (en : Nat → Env R) (ps : List (Bool × Code)) : List (PD R) → Nat → Prop
  | [], _ => True
  | .L _ l al g :: D, i => ((∀ k x kx kr, g (k + 1) x kx kr = evC cf (en k) (nthC ps i) (mkStA l al x) (fun s => mkLoopA l al (g k) s kx kr) kx kr) ∧ ∀ x kx kr, g 0 x kx kr = none) ∧ HD cf en ps D (i + 1)
  | .J _ l ln q g :: D, i => (∀ k x kn kx kr, g k x kn kx kr = gN q (evC cf (en k) (nthC ps i) (mkSt l x) (cutK ln kn) kx kr)) ∧ HD cf en ps D (i + 1)
theorem hasL_lk {R : Type} {k t : Nat} : ∀ (D : List (PD R)), hasL D t = false → lkL k D t = none
  | [], _ => rfl
  | .L i l al g :: D, h => by
    simp only [hasL, Bool.or_eq_false_iff] at h
    simp only [lkL, h.1, cond_false]
    exact hasL_lk D h.2
  | .J _ _ _ _ _ :: D, h => hasL_lk D h
theorem hasS_lk {R : Type} {k t : Nat} : ∀ (D : List (PD R)), hasS D t = false → lkS k D t = none
  | [], _ => rfl
  | .J i l al q g :: D, h => by
    simp only [hasS, Bool.or_eq_false_iff] at h
    simp only [lkS, h.1, cond_false]
    exact hasS_lk D h.2
  | .L _ _ _ _ :: D, h => hasS_lk D h
theorem nthC_app : ∀ (p : List (Bool × Code)) (q : Bool × Code) (r : List (Bool × Code)), nthC (p ++ q :: r) p.length = q.2
  | [], q, r => rfl
  | a :: p, q, r => nthC_app p q r
theorem hd_all {R : Type} {cf : Cfg} {en : Nat → Env R} (ps0 : List (Bool × Code)) : ∀ (D : List (PD R)) (pre ps : List (Bool × Code)), ps0 = pre ++ ps → HD cf en ps0 D pre.length → idsB D ps = true →
    ∀ p ∈ ps, (p.1 = true ∧ ∃ l al g, (∀ k, lkL k D (rid p.2) = some (mkLoopA l al (g k))) ∧ EqOf cf en (.L 0 l al g) p.2) ∨ (p.1 = false ∧ ∃ l ln q g, (∀ k, lkS k D (rid p.2) = some (mkSeg l ln (g k))) ∧ EqOf cf en (.J 0 l ln q g) p.2)
  | [], pre, ps, e, h, hi, p, hp => by
    cases ps with
    | nil => cases hp
    | cons _ _ => cases hi
  | .L i l al g :: D, pre, [], e, h, hi, p, hp => by cases hp
  | .J i l ln q g :: D, pre, [], e, h, hi, p, hp => by cases hp
  | .L i l al g :: D, pre, (b, c) :: ps, e, h, hi, p, hp => by
    simp only [idsB, Bool.and_eq_true, Bool.not_eq_true'] at hi
    obtain ⟨⟨⟨rfl, hid⟩, hno⟩, hi⟩ := hi
    obtain ⟨h1, h2⟩ := h
    have hid := Nat.eq_of_beq_eq_true hid
    rcases List.mem_cons.1 hp with rfl | hp
    · refine .inl ⟨rfl, l, al, g, fun k => ?_, ?_⟩
      · simp only [lkL, hid, Nat.beq_refl, cond_true]
      · rw [e, nthC_app] at h1; exact h1
    · rcases hd_all ps0 D (pre ++ [(true, c)]) ps (by rw [e]; simp) (by simpa using h2) hi p hp with ⟨q, l', al', g', h3, h4⟩ | ⟨q, l', ln', q', g', h3, h4⟩
      · refine .inl ⟨q, l', al', g', fun k => ?_, h4⟩
        cases hb : Nat.beq i (rid p.2)
        · simp only [lkL, hb, cond_false]; exact h3 k
        · have hb := Nat.eq_of_beq_eq_true hb
          rw [← hb] at h3
          have := h3 0
          rw [hasL_lk D hno] at this; cases this
      · exact .inr ⟨q, l', ln', q', g', fun k => h3 k, h4⟩
  | .J i l ln q g :: D, pre, (b, c) :: ps, e, h, hi, p, hp => by
    simp only [idsB, Bool.and_eq_true, Bool.not_eq_true'] at hi
    obtain ⟨⟨⟨rfl, hid⟩, hno⟩, hi⟩ := hi
    obtain ⟨h1, h2⟩ := h
    have hid := Nat.eq_of_beq_eq_true hid
    rcases List.mem_cons.1 hp with rfl | hp
    · refine .inr ⟨rfl, l, ln, q, g, fun k => ?_, ?_⟩
      · simp only [lkS, hid, Nat.beq_refl, cond_true]
      · rw [e, nthC_app] at h1; exact h1
    · rcases hd_all ps0 D (pre ++ [(false, c)]) ps (by rw [e]; simp) (by simpa using h2) hi p hp with ⟨q, l', al', g', h3, h4⟩ | ⟨q, l', ln', q', g', h3, h4⟩
      · exact .inl ⟨q, l', al', g', fun k => h3 k, h4⟩
      · refine .inr ⟨q, l', ln', q', g', fun k => ?_, h4⟩
        cases hb : Nat.beq i (rid p.2)
        · simp only [lkS, hb, cond_false]; exact h3 k
        · have hb := Nat.eq_of_beq_eq_true hb
          rw [← hb] at h3
          have := h3 0
          rw [hasS_lk D hno] at this; cases this
theorem lp_all {C : Cx} {cf : Cfg} {R : Type} {D : List (PD R)} {X : List (Nat × Lv)} {rv : Lv} (O : CfgOk C cf) (hmix : C.P.follows .mixedOrders = true) : ∀ (c : Code),
    (∀ p ∈ partsA D c, (p.1 = true ∧ ∃ l al g, (∀ k, lkL k D (rid p.2) = some (mkLoopA l al (g k))) ∧ EqOf cf (mkEn D X rv) (.L 0 l al g) p.2) ∨ (p.1 = false ∧ ∃ l ln q g, (∀ k, lkS k D (rid p.2) = some (mkSeg l ln (g k))) ∧ EqOf cf (mkEn D X rv) (.J 0 l ln q g) p.2)) → ∀ k, LpOk C (mkEn D X rv k) c := by
  have sg : ∀ (b : Code) (l : List (Bool × Code)), (∀ k, LpOk C (mkEn D X rv k) b) → (∀ p ∈ (bif hasS D (rid b) then [(false, b)] else []) ++ l, (p.1 = true ∧ ∃ l al g, (∀ k, lkL k D (rid p.2) = some (mkLoopA l al (g k))) ∧ EqOf cf (mkEn D X rv) (.L 0 l al g) p.2) ∨ (p.1 = false ∧ ∃ l ln q g, (∀ k, lkS k D (rid p.2) = some (mkSeg l ln (g k))) ∧ EqOf cf (mkEn D X rv) (.J 0 l ln q g) p.2)) →
      ∀ k, ∀ J, (mkEn D X rv k).S (rid b) = some J → SgS C J b := fun b l hb hp k J hJ => by
    have hJ : lkS k D (rid b) = some J := hJ
    cases hh : hasS D (rid b)
    · rw [hasS_lk D hh] at hJ; cases hJ
    · rw [hh] at hp
      rcases hp (false, b) (by simp) with ⟨q, _⟩ | ⟨_, l, ln, q, g, h1, h2⟩
      · cases q
      · have h1 : lkS k D (rid b) = _ := h1 k
        rw [h1] at hJ; cases hJ
        exact seg_sound O hmix (fun x kn kx kr => (h2 k x kn kx kr).trans (gN_eq _ _)) (hb k)
  intro c
  induction c with
  | seq a b iha ihb =>
    intro hp k
    have hb := ihb fun p hm => hp p (by simp only [partsA]; exact List.mem_append_right _ (List.mem_append_right _ hm))
    exact ⟨iha (fun p hm => hp p (by simp only [partsA]; exact List.mem_append_left _ hm)) k, sg b (partsA D b) hb (fun p hm => hp p (by simp only [partsA]; exact List.mem_append_right _ hm)) k, fun _ => hb k⟩
  | cond t a b iha ihb =>
    intro hp k
    have ha := iha fun p hm => hp p (by simp only [partsA]; exact List.mem_append_left _ (List.mem_append_right _ hm))
    have hb := ihb fun p hm => hp p (by simp only [partsA]; exact List.mem_append_right _ (List.mem_append_right _ hm))
    exact ⟨⟨sg a (partsA D a) ha (fun p hm => hp p (by simp only [partsA]; exact List.mem_append_left _ hm)) k, fun _ => ha k⟩, sg b (partsA D b) hb (fun p hm => hp p (by simp only [partsA]; exact List.mem_append_right _ hm)) k, fun _ => hb k⟩
  | block i c ih => exact fun hp k => ih hp k
  | loop c ih =>
    intro hp k f hf
    have hf : lkL k D (rid c) = some f := hf
    have hc := ih fun p hm => hp p (by simp only [partsA]; exact List.mem_append_right _ hm)
    cases hh : hasL D (rid c)
    · rw [hasL_lk D hh] at hf; cases hf
    · rcases hp (true, c) (by simp [partsA, hh]) with ⟨_, l, al, g, h1, h2⟩ | ⟨q, _⟩
      · have h1 : lkL k D (rid c) = _ := h1 k
        rw [h1] at hf; cases hf
        exact loopA_sound O hmix h2.2 h2.1 hc k
      · cases q
  | _ => exact fun _ _ => trivial
/-- A callee with its contract. -/
inductive CB (P : Program) where
  | f (n : Nat) (sp : FnSpec) (h : FnOk P n sp)
  | s (n : Nat) (sp : ShSpec) (h : ShOk P n sp)
  | m (n t : Nat) (g : ByteArray → ByteArray) (h : MpOk P n t g)
def cbF {P : Program} : List (CB P) → Nat → Option FnSpec
  | [], _ => none
  | .f n sp _ :: l, t => bif Nat.beq n t then some sp else cbF l t
  | .s _ _ _ :: l, t => cbF l t
  | .m _ _ _ _ :: l, t => cbF l t
def cbS {P : Program} : List (CB P) → Nat → Option ShSpec
  | [], _ => none
  | .f _ _ _ :: l, t => cbS l t
  | .s n sp _ :: l, t => bif Nat.beq n t then some sp else cbS l t
  | .m _ _ _ _ :: l, t => cbS l t
def cbM {P : Program} : List (CB P) → Nat → Option (Nat × (ByteArray → ByteArray))
  | [], _ => none
  | .f _ _ _ :: l, t => cbM l t
  | .s _ _ _ :: l, t => cbM l t
  | .m n u g _ :: l, t => bif Nat.beq n t then some (u, g) else cbM l t
theorem cbF_ok {P : Program} : ∀ (l : List (CB P)) (g : Nat) (sp : FnSpec), cbF l g = some sp → FnOk P g sp
  | [], _, _, h => by cases h
  | .f n s h' :: l, g, sp, h => by
    unfold cbF at h
    cases hb : Nat.beq n g
    · rw [hb] at h; exact cbF_ok l g sp h
    · rw [hb] at h
      simp only [cond_true, Option.some.injEq] at h
      have := Nat.eq_of_beq_eq_true hb
      subst h; subst this; exact h'
  | .s _ _ _ :: l, g, sp, h => cbF_ok l g sp h
  | .m _ _ _ _ :: l, g, sp, h => cbF_ok l g sp h
theorem cbS_ok {P : Program} : ∀ (l : List (CB P)) (g : Nat) (sp : ShSpec), cbS l g = some sp → ShOk P g sp
  | [], _, _, h => by cases h
  | .s n s h' :: l, g, sp, h => by
    unfold cbS at h
    cases hb : Nat.beq n g
    · rw [hb] at h; exact cbS_ok l g sp h
    · rw [hb] at h
      simp only [cond_true, Option.some.injEq] at h
      have := Nat.eq_of_beq_eq_true hb
      subst h; subst this; exact h'
  | .f _ _ _ :: l, g, sp, h => cbS_ok l g sp h
  | .m _ _ _ _ :: l, g, sp, h => cbS_ok l g sp h
theorem cbM_ok {P : Program} : ∀ (l : List (CB P)) (g : Nat) (p : Nat × (ByteArray → ByteArray)), cbM l g = some p → MpOk P g p.1 p.2
  | [], _, _, h => by cases h
  | .m n u f h' :: l, g, sp, h => by
    unfold cbM at h
    cases hb : Nat.beq n g
    · rw [hb] at h; exact cbM_ok l g sp h
    · rw [hb] at h
      simp only [cond_true, Option.some.injEq] at h
      have := Nat.eq_of_beq_eq_true hb
      subst h; subst this; exact h'
  | .f _ _ _ :: l, g, sp, h => cbM_ok l g sp h
  | .s _ _ _ :: l, g, sp, h => cbM_ok l g sp h
def cfOf {P : Program} (tys : List (Nat × Ty)) (l : List (CB P)) (prot nt : Nat) : Cfg := { ty := lk tys, fn := cbF l, fs := cbS l, mp := cbM l, prot := prot, nt := nt }
def okB {R : Type} (P : Program) (fn : Func) (D : List (PD R)) : Bool := P.follows .mixedOrders && !(fn.name == "runtime.NumGoroutine") && fn.body.isSome && idsB D (partsA D (bodyOf fn))
theorem body_some {fn : Func} (h : fn.body.isSome = true) : fn.body = some (bodyOf fn) := by
  unfold bodyOf
  cases hb : fn.body
  · rw [hb] at h; cases h
  · rfl
theorem fn_okD {P : Program} {tys : List (Nat × Ty)} (hT : ∀ t T, lk tys t = some T → TyOk P (lk tys) t T) {f : FuncId} {fn : Func} {pas ret : Ty} {mu : List Bool} {F : den pas → Option (den ret)} (l : List (CB P)) (prot : Nat) (D : List (PD (den ret))) (X : List (Nat × Lv)) (rv : Lv) (K : Nat) (hf : P.funcs[f]? = some fn)
    (hB : (okB P fn D && Nat.ble prot pas.len && !((mu.drop prot).any id) && Nat.ble pas.len fn.ntmps && entB pas mu) = true)
    (hH : HD (cfOf tys l prot fn.ntmps) (mkEn D X rv) (partsA D (bodyOf fn)) D 0)
    (hF : ∀ x, F x = evFn (cfOf tys l prot fn.ntmps) pas mu ret (mkEn D X rv K) fn.results.toList (bodyOf fn) x) : FnOk P f ⟨pas, mu, ret, F⟩ := by
  simp only [okB, Bool.and_eq_true, Bool.not_eq_true'] at hB
  obtain ⟨⟨⟨⟨⟨⟨⟨h1, h2⟩, h3⟩, h4⟩, h5⟩, h6⟩, h7⟩, h8⟩ := hB
  refine fn_ok (cf := cfOf tys l prot fn.ntmps) (en := mkEn D X rv K) (c := bodyOf fn) hf h2 (body_some h3) hT (cbF_ok l) (cbS_ok l) (cbM_ok l) h1 rfl (Nat.le_of_ble_eq_true h5) h6 (Nat.le_of_ble_eq_true h7) h8 (fun C hP O => ?_) (fun x y h => by rw [← hF]; exact h)
  exact lp_all O (by rw [hP]; exact h1) _ (hd_all _ D [] _ rfl hH h4) K
theorem sh_okD {P : Program} {tys : List (Nat × Ty)} (hT : ∀ t T, lk tys t = some T → TyOk P (lk tys) t T) {f : FuncId} {fn : Func} {ps rl : Lv} {F : den ps.ty → Option (den rl.ty × den (outL ps).ty)} (l : List (CB P)) (prot : Nat) (D : List (PD (den rl.ty × den (outL ps).ty))) (X : List (Nat × Lv)) (rv : Lv) (K : Nat) (hf : P.funcs[f]? = some fn)
    (hB : (okB P fn D && Nat.ble prot ps.length && protB ps prot && Nat.ble ps.length fn.ntmps && entSB ps) = true)
    (hH : HD (cfOf tys l prot fn.ntmps) (mkEn D X rv) (partsA D (bodyOf fn)) D 0)
    (hF : ∀ x, F x = evFnS (cfOf tys l prot fn.ntmps) ps rl (mkEn D X rv K) fn.results.toList (bodyOf fn) x) : ShOk P f ⟨ps, rl, F⟩ := by
  simp only [okB, Bool.and_eq_true, Bool.not_eq_true'] at hB
  obtain ⟨⟨⟨⟨⟨⟨⟨h1, h2⟩, h3⟩, h4⟩, h5⟩, h6⟩, h7⟩, h8⟩ := hB
  refine sh_ok (cf := cfOf tys l prot fn.ntmps) (en := mkEn D X rv K) (c := bodyOf fn) hf h2 (body_some h3) hT (cbF_ok l) (cbS_ok l) (cbM_ok l) h1 rfl (Nat.le_of_ble_eq_true h5) h6 (Nat.le_of_ble_eq_true h7) h8 (fun C hP O => ?_) (fun x y h => by rw [← hF]; exact h)
  exact lp_all O (by rw [hP]; exact h1) _ (hd_all _ D [] _ rfl hH h4) K
end Go.Proofs.Ytmlgfaojfmkdnaa.E
namespace Go.Proofs.Ytmlgfaojfmkdnaa.E
open Go Go.Proofs Go.Proofs.Ytmlgfaojfmkdnaa
set_option maxRecDepth 100000
noncomputable abbrev tq0 : Ty := (.st (.pair (.int .i64) (.pair (.int .i64) .unit)))
abbrev dq0 : Type := (Int × Int × Unit)
noncomputable abbrev tq1 : Ty := (.st (.pair (.sl tq0) (.pair (.int .i64) (.pair (.sl (.int .i64)) .unit))))
abbrev dq1 : Type := ((List dq0) × Int × (List Int) × Unit)
noncomputable abbrev tq2 : Ty := (.st (.pair (.sl (.int .u8)) (.pair (.int .i64) (.pair (.int .u64) .unit))))
abbrev dq2 : Type := ((List Int) × Int × Int × Unit)
noncomputable abbrev tq3 : Ty := (.st (.pair (.int .i64) (.pair (.sl (.int .i64)) (.pair (.sl (.sl (.int .i64))) .unit))))
abbrev dq3 : Type := (Int × (List Int) × (List (List Int)) × Unit)
noncomputable abbrev tq4 : Ty := (.st (.pair .str (.pair .str .unit)))
abbrev dq4 : Type := (ByteArray × ByteArray × Unit)
noncomputable def tys : List (Nat × Ty) := [(2, (.int .i64)), (3, (.int .i64)), (5, (.int .u8)), (9, .str), (23, tq0), (28, (.sl tq0)), (31, (.sl tq0)), (35, (.sl (.int .u8))), (45, (.sl (.int .i64))), (50, (.int .u64)), (71, tq0), (83, (.sl (.sl (.int .i64)))), (85, tq3), (95, (.sl .str)), (109, (.ptr tq1)), (117, tq2), (125, (.int .u64)), (145, (.sl (.sl tq0))), (149, tq1), (161, (.sl tq4)), (164, tq4), (166, (.int .u32))]
theorem tysOk : ∀ t T, lk tys t = some T → TyOk Try.prog (lk tys) t T := tys_ok (by kernel_rfl)
noncomputable def ps_s_l05DrawOf : Lv := [(0, (.bx (.v tq2))), (1, (.v (.int .i64))), (2, (.v (.int .i64)))]
noncomputable def rl_s_l05DrawOf : Lv := [(0, (.v .str))]
noncomputable def sp_s_l05DrawOf (F : (dq2 × Int × Int × Unit) → Option ((ByteArray × Unit) × (dq2 × Unit))) : ShSpec := ⟨ps_s_l05DrawOf, rl_s_l05DrawOf, F⟩
noncomputable def as_s_l05End : Ty := (.pair .str (.pair (.int .i64) .unit))
noncomputable def sp_s_l05End (F : (ByteArray × Int × Unit) → Option Int) : FnSpec := ⟨as_s_l05End, [false, false], (.int .i64), F⟩
noncomputable def as_s_l04Round : Ty := (.pair tq0 (.pair (.sl (.int .i64)) (.pair (.sl (.int .i64)) (.pair (.sl (.int .i64)) (.pair (.int .i64) (.pair (.int .i64) .unit))))))
noncomputable def sp_s_l04Round (F : (dq0 × (List Int) × (List Int) × (List Int) × Int × Int × Unit) → Option (Bool × ((List Int) × (List Int) × (List Int) × Unit))) : FnSpec := ⟨as_s_l04Round, [false, true, true, true, false, false], (.pair .bool (.pair (.sl (.int .i64)) (.pair (.sl (.int .i64)) (.pair (.sl (.int .i64)) .unit)))), F⟩
noncomputable def as_s_l05Func : Ty := (.pair (.int .i64) (.pair .str .unit))
noncomputable def sp_s_l05Func (F : (Int × ByteArray × Unit) → Option dq0) : FnSpec := ⟨as_s_l05Func, [false, false], tq0, F⟩
end Go.Proofs.Ytmlgfaojfmkdnaa.E
namespace Go.Proofs.Ytmlgfaojfmkdnaa.E
open Go Go.Proofs Go.Proofs.Ytmlgfaojfmkdnaa
set_option maxRecDepth 100000
set_option linter.unusedVariables false
noncomputable def as_slices_IndexFunc_impl_Func : Ty := (.pair (.sl tq0) (.pair (.fn (.pair tq0 .unit) .bool) .unit))
noncomputable def sp_slices_IndexFunc_impl_Func (F : ((List dq0) × ((dq0 × Unit) → Option Bool) × Unit) → Option Int) : FnSpec := ⟨as_slices_IndexFunc_impl_Func, [false, false], (.int .i64), F⟩
noncomputable def slices_IndexFunc_impl_Func_l2 {R : Type} (K : Nat) : Nat → (List dq0) → ((dq0 × Unit) → Option Bool) → Int → Int → (Option R) → (Int → Option R) → Option R
  | 0, _, _, _, _, _, _ => none
  | k + 1, v0, v1, v7, v8, kx0, kr =>
    (if (decide (v8 < v7)) = true then
    (if (bnds v8 (v0.length : Int)) = true then
    (v1 ((v0.getD v8.toNat ((0 : Int), (0 : Int), ())), ())).bind fun y1 =>
    (if y1 = true then
    kr v8
    else
    slices_IndexFunc_impl_Func_l2 K k v0 v1 v7 (IntKind.i64.wrap (v8 + (1 : Int))) kx0 kr)
    else
    none)
    else
    kx0)
noncomputable def slices_IndexFunc_impl_Func (K : Nat) (x : ((List dq0) × ((dq0 × Unit) → Option Bool) × Unit)) : Option Int :=
    slices_IndexFunc_impl_Func_l2 K K x.1 x.2.1 (x.1.length : Int) (0 : Int) (some (-1 : Int)) (fun z2 =>
    some z2)
noncomputable def X0_slices_IndexFunc_impl_Func : Lv := []
noncomputable def rv_slices_IndexFunc_impl_Func : Lv := [(4, (.v (.int .i64)))]
noncomputable def D_slices_IndexFunc_impl_Func (K : Nat) : List (PD (den (.int .i64))) := [.L 2 [(0, (.v (.sl tq0))), (1, (.v (.fn (.pair tq0 .unit) .bool))), (7, (.v (.int .i64))), (8, (.v (.int .i64)))] [] (fun k x kx kr => slices_IndexFunc_impl_Func_l2 K k x.1 x.2.1 x.2.2.1 x.2.2.2.1 (kx 0 (mkSt X0_slices_IndexFunc_impl_Func ())) (fun z0 => kr (mkSt rv_slices_IndexFunc_impl_Func (z0, ()))))]
theorem ok_slices_IndexFunc_impl_Func (K : Nat) : FnOk Try.prog 44 (sp_slices_IndexFunc_impl_Func (slices_IndexFunc_impl_Func K)) :=
  fn_okD tysOk [] 0 (D_slices_IndexFunc_impl_Func K) [(0, X0_slices_IndexFunc_impl_Func)] rv_slices_IndexFunc_impl_Func K Try.func44 (by kernel_rfl) ⟨⟨fun _ _ _ _ => by kernel_rfl, fun _ _ _ => rfl⟩, trivial⟩ (fun _ => by kernel_rfl)
noncomputable def C_slices_IndexFunc_impl_Func (K : Nat) : CB Try.prog := .f _ _ (ok_slices_IndexFunc_impl_Func K)
noncomputable def as_slices_ContainsFunc_impl_Func : Ty := (.pair (.sl tq0) (.pair (.fn (.pair tq0 .unit) .bool) .unit))
noncomputable def sp_slices_ContainsFunc_impl_Func (F : ((List dq0) × ((dq0 × Unit) → Option Bool) × Unit) → Option Bool) : FnSpec := ⟨as_slices_ContainsFunc_impl_Func, [false, false], .bool, F⟩
noncomputable def slices_ContainsFunc_impl_Func (K : Nat) (x : ((List dq0) × ((dq0 × Unit) → Option Bool) × Unit)) : Option Bool :=
    (slices_IndexFunc_impl_Func K (x.1, x.2.1, ())).bind fun y1 =>
    some (decide (y1 ≥ (0 : Int)))
noncomputable def rv_slices_ContainsFunc_impl_Func : Lv := [(4, (.v .bool))]
theorem ok_slices_ContainsFunc_impl_Func (K : Nat) : FnOk Try.prog 84 (sp_slices_ContainsFunc_impl_Func (slices_ContainsFunc_impl_Func K)) :=
  fn_okD tysOk [C_slices_IndexFunc_impl_Func K] 0 [] [] rv_slices_ContainsFunc_impl_Func K Try.func84 (by kernel_rfl) trivial (fun _ => by kernel_rfl)
noncomputable def C_slices_ContainsFunc_impl_Func (K : Nat) : CB Try.prog := .f _ _ (ok_slices_ContainsFunc_impl_Func K)
noncomputable def as_i_within : Ty := (.pair (.int .i64) (.pair (.int .i64) (.pair (.int .i64) .unit)))
noncomputable def sp_i_within (F : (Int × Int × Int × Unit) → Option Bool) : FnSpec := ⟨as_i_within, [false, false, false], .bool, F⟩
noncomputable def i_within (K : Nat) (x : (Int × Int × Int × Unit)) : Option Bool :=
    (if (decide (x.1 ≥ x.2.1)) = true then
    some (decide (x.1 ≤ x.2.2.1))
    else
    some false)
noncomputable def rv_i_within : Lv := [(6, (.v .bool))]
theorem ok_i_within (K : Nat) : FnOk Try.prog 58 (sp_i_within (i_within K)) :=
  fn_okD tysOk [] 0 [] [] rv_i_within K Try.func58 (by kernel_rfl) trivial (fun _ => by kernel_rfl)
noncomputable def C_i_within (K : Nat) : CB Try.prog := .f _ _ (ok_i_within K)
noncomputable def as_i_isArity : Ty := (.pair (.int .i64) .unit)
noncomputable def sp_i_isArity (F : (Int × Unit) → Option Bool) : FnSpec := ⟨as_i_isArity, [false], .bool, F⟩
noncomputable def i_isArity (K : Nat) (x : (Int × Unit)) : Option Bool :=
    (i_within K (x.1, (0 : Int), (4 : Int), ())).bind fun y1 =>
    some y1
noncomputable def rv_i_isArity : Lv := [(2, (.v .bool))]
theorem ok_i_isArity (K : Nat) : FnOk Try.prog 32 (sp_i_isArity (i_isArity K)) :=
  fn_okD tysOk [C_i_within K] 0 [] [] rv_i_isArity K Try.func32 (by kernel_rfl) trivial (fun _ => by kernel_rfl)
noncomputable def C_i_isArity (K : Nat) : CB Try.prog := .f _ _ (ok_i_isArity K)
noncomputable def as_i_rowsOf : Ty := (.pair (.int .i64) .unit)
noncomputable def sp_i_rowsOf (F : (Int × Unit) → Option Int) : FnSpec := ⟨as_i_rowsOf, [false], (.int .i64), F⟩
noncomputable def i_rowsOf (K : Nat) (x : (Int × Unit)) : Option Int :=
    (if (decide ((0 : Int) ≤ x.1)) = true then
    some (shlI .i64 (1 : Int) x.1)
    else
    none)
noncomputable def rv_i_rowsOf : Lv := [(2, (.v (.int .i64)))]
theorem ok_i_rowsOf (K : Nat) : FnOk Try.prog 114 (sp_i_rowsOf (i_rowsOf K)) :=
  fn_okD tysOk [] 0 [] [] rv_i_rowsOf K Try.func114 (by kernel_rfl) trivial (fun _ => by kernel_rfl)
noncomputable def C_i_rowsOf (K : Nat) : CB Try.prog := .f _ _ (ok_i_rowsOf K)
noncomputable def as_i_funcsOf : Ty := (.pair (.int .i64) .unit)
noncomputable def sp_i_funcsOf (F : (Int × Unit) → Option Int) : FnSpec := ⟨as_i_funcsOf, [false], (.int .i64), F⟩
noncomputable def i_funcsOf (K : Nat) (x : (Int × Unit)) : Option Int :=
    (i_rowsOf K (x.1, ())).bind fun y1 =>
    (if (decide ((0 : Int) ≤ y1)) = true then
    some (shlI .i64 (1 : Int) y1)
    else
    none)
noncomputable def rv_i_funcsOf : Lv := [(2, (.v (.int .i64)))]
theorem ok_i_funcsOf (K : Nat) : FnOk Try.prog 59 (sp_i_funcsOf (i_funcsOf K)) :=
  fn_okD tysOk [C_i_rowsOf K] 0 [] [] rv_i_funcsOf K Try.func59 (by kernel_rfl) trivial (fun _ => by kernel_rfl)
noncomputable def C_i_funcsOf (K : Nat) : CB Try.prog := .f _ _ (ok_i_funcsOf K)
noncomputable def as_i_IsFunc : Ty := (.pair tq0 .unit)
noncomputable def sp_i_IsFunc (F : (dq0 × Unit) → Option Bool) : FnSpec := ⟨as_i_IsFunc, [false], .bool, F⟩
noncomputable def i_IsFunc (K : Nat) (x : (dq0 × Unit)) : Option Bool :=
    (i_isArity K (x.1.1, ())).bind fun y1 =>
    (if y1 = true then
    (i_funcsOf K (x.1.1, ())).bind fun y2 =>
    (i_within K (x.1.2.1, (0 : Int), (IntKind.i64.wrap (y2 - (1 : Int))), ())).bind fun y3 =>
    some y3
    else
    some false)
noncomputable def rv_i_IsFunc : Lv := [(2, (.v .bool))]
theorem ok_i_IsFunc (K : Nat) : FnOk Try.prog 18 (sp_i_IsFunc (i_IsFunc K)) :=
  fn_okD tysOk [C_i_isArity K, C_i_within K, C_i_funcsOf K] 0 [] [] rv_i_IsFunc K Try.func18 (by kernel_rfl) trivial (fun _ => by kernel_rfl)
noncomputable def C_i_IsFunc (K : Nat) : CB Try.prog := .f _ _ (ok_i_IsFunc K)
noncomputable def as_i_areFuncs_c1 : Ty := (.pair tq0 .unit)
noncomputable def sp_i_areFuncs_c1 (F : (dq0 × Unit) → Option Bool) : FnSpec := ⟨as_i_areFuncs_c1, [false], .bool, F⟩
noncomputable def i_areFuncs_c1 (K : Nat) (x : (dq0 × Unit)) : Option Bool :=
    (i_IsFunc K (x.1, ())).bind fun y1 =>
    some (!y1)
noncomputable def rv_i_areFuncs_c1 : Lv := [(2, (.v .bool))]
theorem ok_i_areFuncs_c1 (K : Nat) : FnOk Try.prog 85 (sp_i_areFuncs_c1 (i_areFuncs_c1 K)) :=
  fn_okD tysOk [C_i_IsFunc K] 0 [] [] rv_i_areFuncs_c1 K Try.func85 (by kernel_rfl) trivial (fun _ => by kernel_rfl)
noncomputable def C_i_areFuncs_c1 (K : Nat) : CB Try.prog := .f _ _ (ok_i_areFuncs_c1 K)
noncomputable def as_i_areFuncs : Ty := (.pair (.sl tq0) .unit)
noncomputable def sp_i_areFuncs (F : ((List dq0) × Unit) → Option Bool) : FnSpec := ⟨as_i_areFuncs, [false], .bool, F⟩
noncomputable def i_areFuncs (K : Nat) (x : ((List dq0) × Unit)) : Option Bool :=
    (slices_ContainsFunc_impl_Func K (x.1, (fun y2 => i_areFuncs_c1 K (y2.1, ())), ())).bind fun y1 =>
    some (!y1)
noncomputable def rv_i_areFuncs : Lv := [(2, (.v .bool))]
theorem ok_i_areFuncs (K : Nat) : FnOk Try.prog 41 (sp_i_areFuncs (i_areFuncs K)) :=
  fn_okD tysOk [C_slices_ContainsFunc_impl_Func K, C_i_areFuncs_c1 K] 0 [] [] rv_i_areFuncs K Try.func41 (by kernel_rfl) trivial (fun _ => by kernel_rfl)
noncomputable def C_i_areFuncs (K : Nat) : CB Try.prog := .f _ _ (ok_i_areFuncs K)
noncomputable def as_i_isKind : Ty := (.pair (.int .i64) .unit)
noncomputable def sp_i_isKind (F : (Int × Unit) → Option Bool) : FnSpec := ⟨as_i_isKind, [false], .bool, F⟩
noncomputable def i_isKind (K : Nat) (x : (Int × Unit)) : Option Bool :=
    (i_within K (x.1, (0 : Int), (3 : Int), ())).bind fun y1 =>
    some y1
noncomputable def rv_i_isKind : Lv := [(2, (.v .bool))]
theorem ok_i_isKind (K : Nat) : FnOk Try.prog 42 (sp_i_isKind (i_isKind K)) :=
  fn_okD tysOk [C_i_within K] 0 [] [] rv_i_isKind K Try.func42 (by kernel_rfl) trivial (fun _ => by kernel_rfl)
noncomputable def C_i_isKind (K : Nat) : CB Try.prog := .f _ _ (ok_i_isKind K)
noncomputable def as_i_funcBy : Ty := (.pair (.int .i64) (.pair (.fn (.pair (.int .i64) .unit) (.int .i64)) .unit))
noncomputable def sp_i_funcBy (F : (Int × ((Int × Unit) → Option Int) × Unit) → Option dq0) : FnSpec := ⟨as_i_funcBy, [false, false], tq0, F⟩
noncomputable def i_funcBy_l3 {R : Type} (K : Nat) : Nat → ((Int × Unit) → Option Int) → dq0 → dq0 → Int → Int → (dq0 → dq0 → Option R) → Option R
  | 0, _, _, _, _, _, _ => none
  | k + 1, v1, v4, v5, v10, v11, kx0 =>
    (if (decide (v11 < v10)) = true then
    (v1 (v11, ())).bind fun y2 =>
    (if (decide ((0 : Int) ≤ v11)) = true then
    i_funcBy_l3 K k v1 v4 (v5.1, (bitI .or .i64 v5.2.1 (shlI .i64 y2 v11)), ()) v10 (IntKind.i64.wrap (v11 + (1 : Int))) kx0
    else
    none)
    else
    kx0 v4 v5)
noncomputable def i_funcBy (K : Nat) (x : (Int × ((Int × Unit) → Option Int) × Unit)) : Option dq0 :=
    (i_rowsOf K (x.1, ())).bind fun y1 =>
    i_funcBy_l3 K K x.2.1 ((0 : Int), (0 : Int), ()) (x.1, ((0 : Int), (0 : Int), ()).2.1, ()) y1 (0 : Int) (fun z3 z4 =>
    some z4)
noncomputable def X0_i_funcBy : Lv := [(4, (.bx (.v tq0))), (5, (.bx (.v tq0)))]
noncomputable def rv_i_funcBy : Lv := [(4, (.bx (.v tq0)))]
noncomputable def D_i_funcBy (K : Nat) : List (PD (den tq0)) := [.L 3 [(1, (.v (.fn (.pair (.int .i64) .unit) (.int .i64)))), (4, (.bx (.v tq0))), (5, (.bx (.v tq0))), (10, (.v (.int .i64))), (11, (.v (.int .i64)))] [] (fun k x kx kr => i_funcBy_l3 K k x.1 x.2.1 x.2.2.1 x.2.2.2.1 x.2.2.2.2.1 (fun z0 z1 => kx 0 (mkSt X0_i_funcBy (z0, z1, ()))))]
theorem ok_i_funcBy (K : Nat) : FnOk Try.prog 119 (sp_i_funcBy (i_funcBy K)) :=
  fn_okD tysOk [C_i_rowsOf K] 0 (D_i_funcBy K) [(0, X0_i_funcBy)] rv_i_funcBy K Try.func119 (by kernel_rfl) ⟨⟨fun _ _ _ _ => by kernel_rfl, fun _ _ _ => rfl⟩, trivial⟩ (fun _ => by kernel_rfl)
noncomputable def C_i_funcBy (K : Nat) : CB Try.prog := .f _ _ (ok_i_funcBy K)
noncomputable def as_i_bit : Ty := (.pair (.int .i64) (.pair (.int .i64) .unit))
noncomputable def sp_i_bit (F : (Int × Int × Unit) → Option Int) : FnSpec := ⟨as_i_bit, [false, false], (.int .i64), F⟩
noncomputable def i_bit (K : Nat) (x : (Int × Int × Unit)) : Option Int :=
    (if (decide ((0 : Int) ≤ x.2.1)) = true then
    some (bitI .and .i64 (shrI .i64 x.1 x.2.1) (1 : Int))
    else
    none)
noncomputable def rv_i_bit : Lv := [(4, (.v (.int .i64)))]
theorem ok_i_bit (K : Nat) : FnOk Try.prog 121 (sp_i_bit (i_bit K)) :=
  fn_okD tysOk [] 0 [] [] rv_i_bit K Try.func121 (by kernel_rfl) trivial (fun _ => by kernel_rfl)
noncomputable def C_i_bit (K : Nat) : CB Try.prog := .f _ _ (ok_i_bit K)
noncomputable def as_i_projection_c1 : Ty := (.pair (.int .i64) (.pair (.ptr (.int .i64)) .unit))
noncomputable def sp_i_projection_c1 (F : (Int × Int × Unit) → Option Int) : FnSpec := ⟨as_i_projection_c1, [false, false], (.int .i64), F⟩
noncomputable def i_projection_c1 (K : Nat) (x : (Int × Int × Unit)) : Option Int :=
    (i_bit K (x.1, x.2.1, ())).bind fun y1 =>
    some y1
noncomputable def rv_i_projection_c1 : Lv := [(3, (.v (.int .i64)))]
theorem ok_i_projection_c1 (K : Nat) : FnOk Try.prog 120 (sp_i_projection_c1 (i_projection_c1 K)) :=
  fn_okD tysOk [C_i_bit K] 0 [] [] rv_i_projection_c1 K Try.func120 (by kernel_rfl) trivial (fun _ => by kernel_rfl)
noncomputable def C_i_projection_c1 (K : Nat) : CB Try.prog := .f _ _ (ok_i_projection_c1 K)
noncomputable def as_i_projection : Ty := (.pair (.int .i64) (.pair (.int .i64) .unit))
noncomputable def sp_i_projection (F : (Int × Int × Unit) → Option dq0) : FnSpec := ⟨as_i_projection, [false, false], tq0, F⟩
noncomputable def i_projection (K : Nat) (x : (Int × Int × Unit)) : Option dq0 :=
    (i_funcBy K (x.1, (fun y2 => i_projection_c1 K (y2.1, x.2.1, ())), ())).bind fun y1 =>
    some y1
noncomputable def rv_i_projection : Lv := [(4, (.bx (.v tq0)))]
theorem ok_i_projection (K : Nat) : FnOk Try.prog 75 (sp_i_projection (i_projection K)) :=
  fn_okD tysOk [C_i_funcBy K, C_i_projection_c1 K] 0 [] [] rv_i_projection K Try.func75 (by kernel_rfl) trivial (fun _ => by kernel_rfl)
noncomputable def C_i_projection (K : Nat) : CB Try.prog := .f _ _ (ok_i_projection K)
noncomputable def as_i_Func_at : Ty := (.pair tq0 (.pair (.int .i64) .unit))
noncomputable def sp_i_Func_at (F : (dq0 × Int × Unit) → Option Int) : FnSpec := ⟨as_i_Func_at, [false, false], (.int .i64), F⟩
noncomputable def i_Func_at (K : Nat) (x : (dq0 × Int × Unit)) : Option Int :=
    (i_bit K (x.1.2.1, x.2.1, ())).bind fun y1 =>
    some y1
noncomputable def rv_i_Func_at : Lv := [(4, (.v (.int .i64)))]
theorem ok_i_Func_at (K : Nat) : FnOk Try.prog 124 (sp_i_Func_at (i_Func_at K)) :=
  fn_okD tysOk [C_i_bit K] 0 [] [] rv_i_Func_at K Try.func124 (by kernel_rfl) trivial (fun _ => by kernel_rfl)
noncomputable def C_i_Func_at (K : Nat) : CB Try.prog := .f _ _ (ok_i_Func_at K)
noncomputable def as_i_Func_put_c1 : Ty := (.pair (.int .i64) (.pair (.ptr (.sl tq0)) (.pair (.ptr tq0) .unit)))
noncomputable def sp_i_Func_put_c1 (F : (Int × (List dq0) × dq0 × Unit) → Option Int) : FnSpec := ⟨as_i_Func_put_c1, [false, false, false], (.int .i64), F⟩
noncomputable def i_Func_put_c1_l3 {R : Type} (K : Nat) : Nat → Int → dq0 → Int → (List dq0) → Int → Int → (dq0 → Int → Option R) → Option R
  | 0, _, _, _, _, _, _, _ => none
  | k + 1, v0, v2, v5, v8, v9, v10, kx0 =>
    (if (decide (v10 < v9)) = true then
    (if (bnds v10 (v8.length : Int)) = true then
    (i_Func_at K ((v8.getD v10.toNat ((0 : Int), (0 : Int), ())), v0, ())).bind fun y1 =>
    (if (decide ((0 : Int) ≤ v10)) = true then
    i_Func_put_c1_l3 K k v0 v2 (bitI .or .i64 v5 (shlI .i64 y1 v10)) v8 v9 (IntKind.i64.wrap (v10 + (1 : Int))) kx0
    else
    none)
    else
    none)
    else
    kx0 v2 v5)
noncomputable def i_Func_put_c1 (K : Nat) (x : (Int × (List dq0) × dq0 × Unit)) : Option Int :=
    i_Func_put_c1_l3 K K x.1 x.2.2.1 (0 : Int) x.2.1 (x.2.1.length : Int) (0 : Int) (fun z2 z3 =>
    (i_Func_at K (z2, z3, ())).bind fun y4 =>
    some y4)
noncomputable def X0_i_Func_put_c1 : Lv := [(2, (.v (.ptr tq0))), (5, (.v (.int .i64)))]
noncomputable def rv_i_Func_put_c1 : Lv := [(4, (.v (.int .i64)))]
noncomputable def D_i_Func_put_c1 (K : Nat) : List (PD (den (.int .i64))) := [.L 3 [(0, (.v (.int .i64))), (2, (.v (.ptr tq0))), (5, (.v (.int .i64))), (8, (.v (.sl tq0))), (9, (.v (.int .i64))), (10, (.v (.int .i64)))] [] (fun k x kx kr => i_Func_put_c1_l3 K k x.1 x.2.1 x.2.2.1 x.2.2.2.1 x.2.2.2.2.1 x.2.2.2.2.2.1 (fun z0 z1 => kx 0 (mkSt X0_i_Func_put_c1 (z0, z1, ()))))]
theorem ok_i_Func_put_c1 (K : Nat) : FnOk Try.prog 123 (sp_i_Func_put_c1 (i_Func_put_c1 K)) :=
  fn_okD tysOk [C_i_Func_at K] 0 (D_i_Func_put_c1 K) [(0, X0_i_Func_put_c1)] rv_i_Func_put_c1 K Try.func123 (by kernel_rfl) ⟨⟨fun _ _ _ _ => by kernel_rfl, fun _ _ _ => rfl⟩, trivial⟩ (fun _ => by kernel_rfl)
noncomputable def C_i_Func_put_c1 (K : Nat) : CB Try.prog := .f _ _ (ok_i_Func_put_c1 K)
noncomputable def as_i_Func_put : Ty := (.pair tq0 (.pair (.int .i64) (.pair (.sl tq0) .unit)))
noncomputable def sp_i_Func_put (F : (dq0 × Int × (List dq0) × Unit) → Option dq0) : FnSpec := ⟨as_i_Func_put, [false, false, false], tq0, F⟩
noncomputable def i_Func_put (K : Nat) (x : (dq0 × Int × (List dq0) × Unit)) : Option dq0 :=
    (i_funcBy K (x.2.1, (fun y2 => i_Func_put_c1 K (y2.1, x.2.2.1, x.1, ())), ())).bind fun y1 =>
    some y1
noncomputable def rv_i_Func_put : Lv := [(6, (.bx (.v tq0)))]
theorem ok_i_Func_put (K : Nat) : FnOk Try.prog 78 (sp_i_Func_put (i_Func_put K)) :=
  fn_okD tysOk [C_i_funcBy K, C_i_Func_put_c1 K] 0 [] [] rv_i_Func_put K Try.func78 (by kernel_rfl) trivial (fun _ => by kernel_rfl)
noncomputable def C_i_Func_put (K : Nat) : CB Try.prog := .f _ _ (ok_i_Func_put K)
noncomputable def as_slices_IndexFunc_impl_Func_ : Ty := (.pair (.sl (.sl tq0)) (.pair (.fn (.pair (.sl tq0) .unit) .bool) .unit))
noncomputable def sp_slices_IndexFunc_impl_Func_ (F : ((List (List dq0)) × (((List dq0) × Unit) → Option Bool) × Unit) → Option Int) : FnSpec := ⟨as_slices_IndexFunc_impl_Func_, [false, false], (.int .i64), F⟩
noncomputable def slices_IndexFunc_impl_Func__l2 {R : Type} (K : Nat) : Nat → (List (List dq0)) → (((List dq0) × Unit) → Option Bool) → Int → Int → (Option R) → (Int → Option R) → Option R
  | 0, _, _, _, _, _, _ => none
  | k + 1, v0, v1, v7, v8, kx0, kr =>
    (if (decide (v8 < v7)) = true then
    (if (bnds v8 (v0.length : Int)) = true then
    (v1 ((v0.getD v8.toNat ([] : List dq0)), ())).bind fun y1 =>
    (if y1 = true then
    kr v8
    else
    slices_IndexFunc_impl_Func__l2 K k v0 v1 v7 (IntKind.i64.wrap (v8 + (1 : Int))) kx0 kr)
    else
    none)
    else
    kx0)
noncomputable def slices_IndexFunc_impl_Func_ (K : Nat) (x : ((List (List dq0)) × (((List dq0) × Unit) → Option Bool) × Unit)) : Option Int :=
    slices_IndexFunc_impl_Func__l2 K K x.1 x.2.1 (x.1.length : Int) (0 : Int) (some (-1 : Int)) (fun z2 =>
    some z2)
noncomputable def X0_slices_IndexFunc_impl_Func_ : Lv := []
noncomputable def rv_slices_IndexFunc_impl_Func_ : Lv := [(4, (.v (.int .i64)))]
noncomputable def D_slices_IndexFunc_impl_Func_ (K : Nat) : List (PD (den (.int .i64))) := [.L 2 [(0, (.v (.sl (.sl tq0)))), (1, (.v (.fn (.pair (.sl tq0) .unit) .bool))), (7, (.v (.int .i64))), (8, (.v (.int .i64)))] [] (fun k x kx kr => slices_IndexFunc_impl_Func__l2 K k x.1 x.2.1 x.2.2.1 x.2.2.2.1 (kx 0 (mkSt X0_slices_IndexFunc_impl_Func_ ())) (fun z0 => kr (mkSt rv_slices_IndexFunc_impl_Func_ (z0, ()))))]
theorem ok_slices_IndexFunc_impl_Func_ (K : Nat) : FnOk Try.prog 146 (sp_slices_IndexFunc_impl_Func_ (slices_IndexFunc_impl_Func_ K)) :=
  fn_okD tysOk [] 0 (D_slices_IndexFunc_impl_Func_ K) [(0, X0_slices_IndexFunc_impl_Func_)] rv_slices_IndexFunc_impl_Func_ K Try.func146 (by kernel_rfl) ⟨⟨fun _ _ _ _ => by kernel_rfl, fun _ _ _ => rfl⟩, trivial⟩ (fun _ => by kernel_rfl)
noncomputable def C_slices_IndexFunc_impl_Func_ (K : Nat) : CB Try.prog := .f _ _ (ok_slices_IndexFunc_impl_Func_ K)
noncomputable def as_slices_ContainsFunc_impl_Func_ : Ty := (.pair (.sl (.sl tq0)) (.pair (.fn (.pair (.sl tq0) .unit) .bool) .unit))
noncomputable def sp_slices_ContainsFunc_impl_Func_ (F : ((List (List dq0)) × (((List dq0) × Unit) → Option Bool) × Unit) → Option Bool) : FnSpec := ⟨as_slices_ContainsFunc_impl_Func_, [false, false], .bool, F⟩
noncomputable def slices_ContainsFunc_impl_Func_ (K : Nat) (x : ((List (List dq0)) × (((List dq0) × Unit) → Option Bool) × Unit)) : Option Bool :=
    (slices_IndexFunc_impl_Func_ K (x.1, x.2.1, ())).bind fun y1 =>
    some (decide (y1 ≥ (0 : Int)))
noncomputable def rv_slices_ContainsFunc_impl_Func_ : Lv := [(4, (.v .bool))]
theorem ok_slices_ContainsFunc_impl_Func_ (K : Nat) : FnOk Try.prog 128 (sp_slices_ContainsFunc_impl_Func_ (slices_ContainsFunc_impl_Func_ K)) :=
  fn_okD tysOk [C_slices_IndexFunc_impl_Func_ K] 0 [] [] rv_slices_ContainsFunc_impl_Func_ K Try.func128 (by kernel_rfl) trivial (fun _ => by kernel_rfl)
noncomputable def C_slices_ContainsFunc_impl_Func_ (K : Nat) : CB Try.prog := .f _ _ (ok_slices_ContainsFunc_impl_Func_ K)
noncomputable def as_i_generationCode_c1 : Ty := (.pair (.sl tq0) .unit)
noncomputable def sp_i_generationCode_c1 (F : ((List dq0) × Unit) → Option Bool) : FnSpec := ⟨as_i_generationCode_c1, [false], .bool, F⟩
noncomputable def i_generationCode_c1 (K : Nat) (x : ((List dq0) × Unit)) : Option Bool :=
    (i_areFuncs K (x.1, ())).bind fun y1 =>
    some (!y1)
noncomputable def rv_i_generationCode_c1 : Lv := [(2, (.v .bool))]
theorem ok_i_generationCode_c1 (K : Nat) : FnOk Try.prog 129 (sp_i_generationCode_c1 (i_generationCode_c1 K)) :=
  fn_okD tysOk [C_i_areFuncs K] 0 [] [] rv_i_generationCode_c1 K Try.func129 (by kernel_rfl) trivial (fun _ => by kernel_rfl)
noncomputable def C_i_generationCode_c1 (K : Nat) : CB Try.prog := .f _ _ (ok_i_generationCode_c1 K)
noncomputable def as_i_generationCode_c2 : Ty := (.pair tq0 .unit)
noncomputable def sp_i_generationCode_c2 (F : (dq0 × Unit) → Option Bool) : FnSpec := ⟨as_i_generationCode_c2, [false], .bool, F⟩
noncomputable def i_generationCode_c2 (K : Nat) (x : (dq0 × Unit)) : Option Bool :=
    some (decide (x.1.1 > (2 : Int)))
noncomputable def rv_i_generationCode_c2 : Lv := [(2, (.v .bool))]
theorem ok_i_generationCode_c2 (K : Nat) : FnOk Try.prog 130 (sp_i_generationCode_c2 (i_generationCode_c2 K)) :=
  fn_okD tysOk [] 0 [] [] rv_i_generationCode_c2 K Try.func130 (by kernel_rfl) trivial (fun _ => by kernel_rfl)
noncomputable def C_i_generationCode_c2 (K : Nat) : CB Try.prog := .f _ _ (ok_i_generationCode_c2 K)
noncomputable def as_i_generationCode : Ty := (.pair (.int .i64) (.pair (.sl (.sl tq0)) .unit))
noncomputable def sp_i_generationCode (F : (Int × (List (List dq0)) × Unit) → Option Int) : FnSpec := ⟨as_i_generationCode, [false, false], (.int .i64), F⟩
noncomputable def i_generationCode_l6 {R : Type} (K : Nat) : Nat → Int → (List (List dq0)) → Int → Int → (Option R) → (Int → Option R) → Option R
  | 0, _, _, _, _, _, _ => none
  | k + 1, v0, v12, v13, v14, kx0, kr =>
    (if (decide (v14 < v13)) = true then
    (if (bnds v14 (v12.length : Int)) = true then
    let x4 := (decide (((v12.getD v14.toNat ([] : List dq0)).length : Int) > (8 : Int)))
    (if x4 = true then
    kr (2 : Int)
    else
    (if (decide (v0 = (3 : Int))) = true then
    (slices_ContainsFunc_impl_Func K ((v12.getD v14.toNat ([] : List dq0)), (fun y6 => i_generationCode_c2 K (y6.1, ())), ())).bind fun y5 =>
    (if y5 = true then
    kr (2 : Int)
    else
    i_generationCode_l6 K k v0 v12 v13 (IntKind.i64.wrap (v14 + (1 : Int))) kx0 kr)
    else
    i_generationCode_l6 K k v0 v12 v13 (IntKind.i64.wrap (v14 + (1 : Int))) kx0 kr))
    else
    none)
    else
    kx0)
noncomputable def i_generationCode (K : Nat) (x : (Int × (List (List dq0)) × Unit)) : Option Int :=
    (slices_ContainsFunc_impl_Func_ K (x.2.1, (fun y2 => i_generationCode_c1 K (y2.1, ())), ())).bind fun y1 =>
    (if y1 = true then
    some (1 : Int)
    else
    (i_within K (x.1, (2 : Int), (3 : Int), ())).bind fun y3 =>
    (if (!y3) = true then
    some (2 : Int)
    else
    i_generationCode_l6 K K x.1 x.2.1 (x.2.1.length : Int) (0 : Int) (some (0 : Int)) (fun z7 =>
    some z7)))
noncomputable def X0_i_generationCode : Lv := []
noncomputable def rv_i_generationCode : Lv := [(4, (.v (.int .i64)))]
noncomputable def D_i_generationCode (K : Nat) : List (PD (den (.int .i64))) := [.L 6 [(0, (.v (.int .i64))), (12, (.v (.sl (.sl tq0)))), (13, (.v (.int .i64))), (14, (.v (.int .i64)))] [] (fun k x kx kr => i_generationCode_l6 K k x.1 x.2.1 x.2.2.1 x.2.2.2.1 (kx 0 (mkSt X0_i_generationCode ())) (fun z0 => kr (mkSt rv_i_generationCode (z0, ()))))]
theorem ok_i_generationCode (K : Nat) : FnOk Try.prog 86 (sp_i_generationCode (i_generationCode K)) :=
  fn_okD tysOk [C_i_within K, C_slices_ContainsFunc_impl_Func K, C_slices_ContainsFunc_impl_Func_ K, C_i_generationCode_c1 K, C_i_generationCode_c2 K] 0 (D_i_generationCode K) [(0, X0_i_generationCode)] rv_i_generationCode K Try.func86 (by kernel_rfl) ⟨⟨fun _ _ _ _ => by kernel_rfl, fun _ _ _ => rfl⟩, trivial⟩ (fun _ => by kernel_rfl)
noncomputable def C_i_generationCode (K : Nat) : CB Try.prog := .f _ _ (ok_i_generationCode K)
noncomputable def as_i_funcsThat : Ty := (.pair (.int .i64) (.pair (.fn (.pair tq0 .unit) .bool) .unit))
noncomputable def sp_i_funcsThat (F : (Int × ((dq0 × Unit) → Option Bool) × Unit) → Option (List dq0)) : FnSpec := ⟨as_i_funcsThat, [false, false], (.sl tq0), F⟩
noncomputable def i_funcsThat_l3 {R : Type} (K : Nat) : Nat → Int → ((dq0 × Unit) → Option Bool) → (List dq0) → Int → Int → ((List dq0) → Option R) → Option R
  | 0, _, _, _, _, _, _ => none
  | k + 1, v0, v1, v5, v9, v10, kx0 =>
    (if (decide (v10 < v9)) = true then
    (v1 (((v0, ((0 : Int), (0 : Int), ()).2.1, ()).1, v10, ()), ())).bind fun y2 =>
    (if y2 = true then
    let l3 := [((v0, ((0 : Int), (0 : Int), ()).2.1, ()).1, v10, ())]
    (if (decide (v5.length + l3.length ≤ lim)) = true then
    let l4 := (v5 ++ l3)
    i_funcsThat_l3 K k v0 v1 l4 v9 (IntKind.i64.wrap (v10 + (1 : Int))) kx0
    else
    none)
    else
    i_funcsThat_l3 K k v0 v1 v5 v9 (IntKind.i64.wrap (v10 + (1 : Int))) kx0)
    else
    kx0 v5)
noncomputable def i_funcsThat (K : Nat) (x : (Int × ((dq0 × Unit) → Option Bool) × Unit)) : Option (List dq0) :=
    (i_funcsOf K (x.1, ())).bind fun y1 =>
    i_funcsThat_l3 K K x.1 x.2.1 ([] : List dq0) y1 (0 : Int) (fun z5 =>
    some z5)
noncomputable def X0_i_funcsThat : Lv := [(5, (.r tq0))]
noncomputable def rv_i_funcsThat : Lv := [(4, (.r tq0))]
noncomputable def D_i_funcsThat (K : Nat) : List (PD (den (.sl tq0))) := [.L 3 [(0, (.v (.int .i64))), (1, (.v (.fn (.pair tq0 .unit) .bool))), (5, (.r tq0)), (9, (.v (.int .i64))), (10, (.v (.int .i64)))] [] (fun k x kx kr => i_funcsThat_l3 K k x.1 x.2.1 x.2.2.1 x.2.2.2.1 x.2.2.2.2.1 (fun z0 => kx 0 (mkSt X0_i_funcsThat (z0, ()))))]
theorem ok_i_funcsThat (K : Nat) : FnOk Try.prog 134 (sp_i_funcsThat (i_funcsThat K)) :=
  fn_okD tysOk [C_i_funcsOf K] 0 (D_i_funcsThat K) [(0, X0_i_funcsThat)] rv_i_funcsThat K Try.func134 (by kernel_rfl) ⟨⟨fun _ _ _ _ => by kernel_rfl, fun _ _ _ => rfl⟩, trivial⟩ (fun _ => by kernel_rfl)
noncomputable def C_i_funcsThat (K : Nat) : CB Try.prog := .f _ _ (ok_i_funcsThat K)
noncomputable def as_i_generated_all_c1 : Ty := (.pair tq0 (.pair (.ptr (.ptr tq1)) .unit))
noncomputable def sp_i_generated_all_c1 (F : (dq0 × dq1 × Unit) → Option Bool) : FnSpec := ⟨as_i_generated_all_c1, [false, false], .bool, F⟩
noncomputable def i_generated_all_c1 (K : Nat) (x : (dq0 × dq1 × Unit)) : Option Bool :=
    (if (bnds x.1.2.1 (x.2.1.2.2.1.length : Int)) = true then
    let x1 := (decide ((x.2.1.2.2.1.getD x.1.2.1.toNat (0 : Int)) ≥ (0 : Int)))
    some x1
    else
    none)
noncomputable def rv_i_generated_all_c1 : Lv := [(3, (.v .bool))]
theorem ok_i_generated_all_c1 (K : Nat) : FnOk Try.prog 135 (sp_i_generated_all_c1 (i_generated_all_c1 K)) :=
  fn_okD tysOk [] 0 [] [] rv_i_generated_all_c1 K Try.func135 (by kernel_rfl) trivial (fun _ => by kernel_rfl)
noncomputable def C_i_generated_all_c1 (K : Nat) : CB Try.prog := .f _ _ (ok_i_generated_all_c1 K)
noncomputable def as_i_generated_all : Ty := (.pair (.ptr tq1) .unit)
noncomputable def sp_i_generated_all (F : (dq1 × Unit) → Option (List dq0)) : FnSpec := ⟨as_i_generated_all, [false], (.sl tq0), F⟩
noncomputable def i_generated_all (K : Nat) (x : (dq1 × Unit)) : Option (List dq0) :=
    (i_funcsThat K (x.1.2.1, (fun y2 => i_generated_all_c1 K (y2.1, x.1, ())), ())).bind fun y1 =>
    some y1
noncomputable def rv_i_generated_all : Lv := [(2, (.r tq0))]
theorem ok_i_generated_all (K : Nat) : FnOk Try.prog 88 (sp_i_generated_all (i_generated_all K)) :=
  fn_okD tysOk [C_i_funcsThat K, C_i_generated_all_c1 K] 0 [] [] rv_i_generated_all K Try.func88 (by kernel_rfl) trivial (fun _ => by kernel_rfl)
noncomputable def C_i_generated_all (K : Nat) : CB Try.prog := .f _ _ (ok_i_generated_all K)
noncomputable def as_math_bits_Mul64 : Ty := (.pair (.int .u64) (.pair (.int .u64) .unit))
noncomputable def sp_math_bits_Mul64 (F : (Int × Int × Unit) → Option (Int × Int × Unit)) : FnSpec := ⟨as_math_bits_Mul64, [false, false], (.tup (.pair (.int .u64) (.pair (.int .u64) .unit))), F⟩
noncomputable def math_bits_Mul64 (K : Nat) (x : (Int × Int × Unit)) : Option (Int × Int × Unit) :=
    let x1 := (IntKind.u64.wrap ((bitI .and .u64 x.1 (4294967295 : Int)) * (bitI .and .u64 x.2.1 (4294967295 : Int))))
    let x2 := (IntKind.u64.wrap ((shrI .u64 x.1 (32 : Int)) * (bitI .and .u64 x.2.1 (4294967295 : Int))))
    let x3 := (bitI .and .u64 (IntKind.u64.wrap (x2 + (shrI .u64 x1 (32 : Int)))) (4294967295 : Int))
    let x4 := (shrI .u64 (IntKind.u64.wrap (x2 + (shrI .u64 x1 (32 : Int)))) (32 : Int))
    let x5 := (IntKind.u64.wrap ((bitI .and .u64 x.1 (4294967295 : Int)) * (shrI .u64 x.2.1 (32 : Int))))
    let x6 := (IntKind.u64.wrap ((shrI .u64 x.1 (32 : Int)) * (shrI .u64 x.2.1 (32 : Int))))
    let x7 := (IntKind.u64.wrap ((IntKind.u64.wrap (x6 + x4)) + (shrI .u64 (IntKind.u64.wrap (x3 + x5)) (32 : Int))))
    some (x7, (IntKind.u64.wrap (x.1 * x.2.1)), ())
noncomputable def rv_math_bits_Mul64 : Lv := [(4, (.v (.int .u64))), (5, (.v (.int .u64)))]
theorem ok_math_bits_Mul64 (K : Nat) : FnOk Try.prog 152 (sp_math_bits_Mul64 (math_bits_Mul64 K)) :=
  fn_okD tysOk [] 0 [] [] rv_math_bits_Mul64 K Try.func152 (by kernel_rfl) trivial (fun _ => by kernel_rfl)
noncomputable def C_math_bits_Mul64 (K : Nat) : CB Try.prog := .f _ _ (ok_math_bits_Mul64 K)
noncomputable def as_math_bits_Mul : Ty := (.pair (.int .u64) (.pair (.int .u64) .unit))
noncomputable def sp_math_bits_Mul (F : (Int × Int × Unit) → Option (Int × Int × Unit)) : FnSpec := ⟨as_math_bits_Mul, [false, false], (.tup (.pair (.int .u64) (.pair (.int .u64) .unit))), F⟩
noncomputable def math_bits_Mul (K : Nat) (x : (Int × Int × Unit)) : Option (Int × Int × Unit) :=
    (math_bits_Mul64 K (x.1, x.2.1, ())).bind fun y1 =>
    some (y1.1, y1.2.1, ())
noncomputable def rv_math_bits_Mul : Lv := [(4, (.v (.int .u64))), (5, (.v (.int .u64)))]
theorem ok_math_bits_Mul (K : Nat) : FnOk Try.prog 141 (sp_math_bits_Mul (math_bits_Mul K)) :=
  fn_okD tysOk [C_math_bits_Mul64 K] 0 [] [] rv_math_bits_Mul K Try.func141 (by kernel_rfl) trivial (fun _ => by kernel_rfl)
noncomputable def C_math_bits_Mul (K : Nat) : CB Try.prog := .f _ _ (ok_math_bits_Mul K)
noncomputable def as_slices_Repeat_int64 : Ty := (.pair (.sl (.int .i64)) (.pair (.int .i64) .unit))
noncomputable def sp_slices_Repeat_int64 (F : ((List Int) × Int × Unit) → Option (List Int)) : FnSpec := ⟨as_slices_Repeat_int64, [false, false], (.sl (.int .i64)), F⟩
noncomputable def slices_Repeat_int64_l8 {R : Type} (K : Nat) : Nat → (List Int) → Int → ((List Int) → Option R) → Option R
  | 0, _, _, _ => none
  | k + 1, v7, v8, kx0 =>
    (if (decide (v8 < (v7.length : Int))) = true then
    (if (decide (0 ≤ v8) && decide (v8 ≤ (v7.length : Int)) && decide ((v7.length : Int) ≤ (v7.length : Int))) = true then
    (if (decide (0 ≤ (0 : Int)) && decide ((0 : Int) ≤ v8) && decide (v8 ≤ (v7.length : Int))) = true then
    let l4 := (sliceL v7 (0 : Int) ((0 : Int) + (v8 - (0 : Int))))
    let l5 := (copyL v7 l4 v8.toNat ((v7.length : Int) - v8).toNat)
    let x6 := (IntKind.i64.wrap (v8 + ((min l4.length ((v7.length : Int) - v8).toNat : Nat) : Int)))
    slices_Repeat_int64_l8 K k l5 x6 kx0
    else
    none)
    else
    none)
    else
    kx0 v7)
noncomputable def slices_Repeat_int64_j6 {R : Type} (K : Nat) (k : Nat) (v0 : (List Int)) (v6 : Int) (kn : Option R) (kr : ((List Int) → Option R)) : Option R :=
    (if (decide (0 ≤ (IntKind.i64.wrap v6)) && decide ((IntKind.i64.wrap v6) ≤ (lim : Int)) && decide ((IntKind.i64.wrap v6) = (IntKind.i64.wrap v6))) = true then
    let l2 := (List.replicate (IntKind.i64.wrap v6).toNat (0 : Int))
    let l3 := (copyL l2 v0 0 l2.length)
    slices_Repeat_int64_l8 K k l3 ((min v0.length l2.length : Nat) : Int) (fun z7 =>
    kr z7)
    else
    none)
noncomputable def slices_Repeat_int64_j3 {R : Type} (K : Nat) (k : Nat) (v0 : (List Int)) (v1 : Int) (kn : Option R) (kr : ((List Int) → Option R)) : Option R :=
    (math_bits_Mul K ((IntKind.u64.wrap (v0.length : Int)), (IntKind.u64.wrap v1), ())).bind fun y1 =>
    (if (decide (y1.1 > (0 : Int))) = true then
    none
    else
    (if (decide (y1.2.1 > (9223372036854775807 : Int))) = true then
    none
    else
    slices_Repeat_int64_j6 K k v0 y1.2.1 none (fun z8 =>
    kr z8)))
noncomputable def slices_Repeat_int64 (K : Nat) (x : ((List Int) × Int × Unit)) : Option (List Int) :=
    (if (decide (x.2.1 < (0 : Int))) = true then
    none
    else
    slices_Repeat_int64_j3 K K x.1 x.2.1 none (fun z9 =>
    some z9))
noncomputable def X0_slices_Repeat_int64 : Lv := [(7, (.r (.int .i64)))]
noncomputable def rv_slices_Repeat_int64 : Lv := [(4, (.r (.int .i64)))]
noncomputable def D_slices_Repeat_int64 (K : Nat) : List (PD (den (.sl (.int .i64)))) := [.J 3 [(0, (.v (.sl (.int .i64)))), (1, (.v (.int .i64)))] [] 0 (fun k x kn kx kr => slices_Repeat_int64_j3 K k x.1 x.2.1 (kn ()) (fun z0 => kr (mkSt rv_slices_Repeat_int64 (z0, ())))),
  .J 6 [(0, (.v (.sl (.int .i64)))), (6, (.v (.int .u64)))] [] 0 (fun k x kn kx kr => slices_Repeat_int64_j6 K k x.1 x.2.1 (kn ()) (fun z0 => kr (mkSt rv_slices_Repeat_int64 (z0, ())))),
  .L 8 [(7, (.r (.int .i64))), (8, (.v (.int .i64)))] [] (fun k x kx kr => slices_Repeat_int64_l8 K k x.1 x.2.1 (fun z0 => kx 0 (mkSt X0_slices_Repeat_int64 (z0, ()))))]
theorem ok_slices_Repeat_int64 (K : Nat) : FnOk Try.prog 106 (sp_slices_Repeat_int64 (slices_Repeat_int64 K)) :=
  fn_okD tysOk [C_math_bits_Mul K] 0 (D_slices_Repeat_int64 K) [(0, X0_slices_Repeat_int64)] rv_slices_Repeat_int64 K Try.func106 (by kernel_rfl) ⟨fun _ _ _ _ _ => by kernel_rfl, ⟨fun _ _ _ _ _ => by kernel_rfl, ⟨⟨fun _ _ _ _ => by kernel_rfl, fun _ _ _ => rfl⟩, trivial⟩⟩⟩ (fun _ => by kernel_rfl)
noncomputable def C_slices_Repeat_int64 (K : Nat) : CB Try.prog := .f _ _ (ok_slices_Repeat_int64 K)
noncomputable def as_i_generated_known_c1 : Ty := (.pair tq0 (.pair (.ptr (.ptr tq1)) (.pair (.ptr (.int .i64)) .unit)))
noncomputable def sp_i_generated_known_c1 (F : (dq0 × dq1 × Int × Unit) → Option Bool) : FnSpec := ⟨as_i_generated_known_c1, [false, false, false], .bool, F⟩
noncomputable def i_generated_known_c1 (K : Nat) (x : (dq0 × dq1 × Int × Unit)) : Option Bool :=
    (if (bnds x.1.2.1 (x.2.1.2.2.1.length : Int)) = true then
    (i_within K ((x.2.1.2.2.1.getD x.1.2.1.toNat (0 : Int)), (0 : Int), (IntKind.i64.wrap (x.2.2.1 - (1 : Int))), ())).bind fun y1 =>
    some y1
    else
    none)
noncomputable def rv_i_generated_known_c1 : Lv := [(4, (.v .bool))]
theorem ok_i_generated_known_c1 (K : Nat) : FnOk Try.prog 147 (sp_i_generated_known_c1 (i_generated_known_c1 K)) :=
  fn_okD tysOk [C_i_within K] 0 [] [] rv_i_generated_known_c1 K Try.func147 (by kernel_rfl) trivial (fun _ => by kernel_rfl)
noncomputable def C_i_generated_known_c1 (K : Nat) : CB Try.prog := .f _ _ (ok_i_generated_known_c1 K)
noncomputable def as_i_generated_known : Ty := (.pair (.ptr tq1) (.pair (.int .i64) .unit))
noncomputable def sp_i_generated_known (F : (dq1 × Int × Unit) → Option (List dq0)) : FnSpec := ⟨as_i_generated_known, [false, false], (.sl tq0), F⟩
noncomputable def i_generated_known (K : Nat) (x : (dq1 × Int × Unit)) : Option (List dq0) :=
    (i_funcsThat K (x.1.2.1, (fun y2 => i_generated_known_c1 K (y2.1, x.1, x.2.1, ())), ())).bind fun y1 =>
    some y1
noncomputable def rv_i_generated_known : Lv := [(4, (.r tq0))]
theorem ok_i_generated_known (K : Nat) : FnOk Try.prog 131 (sp_i_generated_known (i_generated_known K)) :=
  fn_okD tysOk [C_i_funcsThat K, C_i_generated_known_c1 K] 0 [] [] rv_i_generated_known K Try.func131 (by kernel_rfl) trivial (fun _ => by kernel_rfl)
noncomputable def C_i_generated_known (K : Nat) : CB Try.prog := .f _ _ (ok_i_generated_known K)
noncomputable def as_i_generated_steps_c1 : Ty := (.pair tq0 (.pair (.ptr (.ptr tq1)) (.pair (.ptr (.int .i64)) .unit)))
noncomputable def sp_i_generated_steps_c1 (F : (dq0 × dq1 × Int × Unit) → Option Bool) : FnSpec := ⟨as_i_generated_steps_c1, [false, false, false], .bool, F⟩
noncomputable def i_generated_steps_c1 (K : Nat) (x : (dq0 × dq1 × Int × Unit)) : Option Bool :=
    (if (bnds x.1.2.1 (x.2.1.2.2.1.length : Int)) = true then
    let x1 := (decide ((x.2.1.2.2.1.getD x.1.2.1.toNat (0 : Int)) = (IntKind.i64.wrap (x.2.2.1 - (1 : Int)))))
    some x1
    else
    none)
noncomputable def rv_i_generated_steps_c1 : Lv := [(4, (.v .bool))]
theorem ok_i_generated_steps_c1 (K : Nat) : FnOk Try.prog 148 (sp_i_generated_steps_c1 (i_generated_steps_c1 K)) :=
  fn_okD tysOk [] 0 [] [] rv_i_generated_steps_c1 K Try.func148 (by kernel_rfl) trivial (fun _ => by kernel_rfl)
noncomputable def C_i_generated_steps_c1 (K : Nat) : CB Try.prog := .f _ _ (ok_i_generated_steps_c1 K)
end Go.Proofs.Ytmlgfaojfmkdnaa.E
namespace Go.Proofs.Ytmlgfaojfmkdnaa.E
open Go Go.Proofs Go.Proofs.Ytmlgfaojfmkdnaa Go.RowKit
set_option maxRecDepth 100000
set_option linter.unusedVariables false
/-! what a list generates: the plain function; its state: depths, and whether something is new -/
abbrev DFg := Int × Int × Unit
abbrev GSt := List Int × Bool
def eachF (depth : Int) (h : DFg) (s : GSt) : Option GSt :=
  if 0 ≤ h.2.1 ∧ h.2.1 < (s.1.length : Int) then some (if s.1.getD h.2.1.toNat 0 < 0 then (s.1.set h.2.1.toNat depth, true) else s) else none
def foldF {α β : Type} (f : β → α → Option β) : List α → β → Option β
  | [], s => some s
  | x :: l, s => (f s x).bind fun s => foldF f l s
noncomputable def isNewF (K : Nat) (list : List DFg) (n depth : Int) (now : List DFg) (s : GSt) : Option Bool :=
  if depth = 1 then some true else slices_ContainsFunc_impl_Func K (now, (fun y => i_generated_steps_c1 K (y.1, (list, n, s.1, ()), depth, ())), ())
noncomputable def stepsF (K : Nat) (list : List DFg) (n : Int) (f : DFg) (known : List DFg) (depth : Int) : Nat → List DFg → GSt → Option GSt
  | 0, _, _ => none
  | m + 1, now, s =>
    if (now.length : Int) = f.1 then
      (isNewF K list n depth now s).bind fun b => if b = true then (i_Func_put K (f, n, now, ())).bind fun h => eachF depth h s else some s
    else if now.length < 1000 ∧ known.length < 1000000 then foldF (fun s h => stepsF K list n f known depth m (now ++ [h]) s) known s else none
noncomputable def roundF (K : Nat) (list : List DFg) (n : Int) (known : List DFg) (depth : Int) : List DFg → GSt → Option GSt :=
  foldF (fun s f => stepsF K list n f known depth 100 [] s)
noncomputable def loopF (K : Nat) (list : List DFg) (n : Int) : Nat → Int → List Int → Option (List Int)
  | 0, _, _ => none
  | k + 1, depth, D => if 0 ≤ depth ∧ depth < 1000000 ∧ list.length < 1000000 then
      (i_generated_known K ((list, n, D, ()), depth, ())).bind fun known => (roundF K list n known depth list (D, false)).bind fun s => if s.2 = true then loopF K list n k (depth + 1) s.1 else some s.1
    else none
noncomputable def initF (K : Nat) (n : Int) : Nat → Int → List Int → Option (List Int)
  | 0, _, _ => none
  | k + 1, i, D => if i < n then (i_projection K (n, i, ())).bind fun p => if 0 ≤ p.2.1 ∧ p.2.1 < (D.length : Int) then initF K n k (i + 1) (D.set p.2.1.toNat 0) else none else some D
noncomputable def genF (K : Nat) (list : List DFg) (n : Int) : Option (List Int) :=
  if 0 ≤ n ∧ n < 1000 ∧ list.length < 1000000 then (i_funcsOf K (n, ())).bind fun q => (slices_Repeat_int64 K ([(-1 : Int)], q, ())).bind fun D => if D.length = 0 then none else (initF K n 1000 0 D).bind fun D => loopF K list n K 1 D else none
noncomputable def genByF (K : Nat) (x : List DFg × Int × Unit) : Option (List DFg × Int × Unit) :=
  (i_generationCode K (x.2.1, [x.1], ())).bind fun c => if c = 0 then (genF K x.1 x.2.1).bind fun D => (i_generated_all K ((x.1, x.2.1, D, ()), ())).bind fun l => some (l, 0, ()) else some ([], c, ())
/-! memory -/
/-- Where a generation lies. -/
structure GnP where
  lv : Value
  n : Int
  depth : Int
  G : Nat
  gb : Nat
  db : Nat
  ab : Nat
  D : Nat
  o : Nat
  c : Nat
  L : Nat
  tD : TypeId
def DepW (w : World) (D o L : Nat) (tD : TypeId) (l : List Int) : Prop := ∃ arr, w.heap[D]? = some (.cells arr tD (0, 0)) ∧ o + L ≤ arr.size ∧ l.length = L ∧ ∀ i v, l[i]? = some v → arr[o + i]? = some (.int .i64 v)
structure GnW (p : GnP) (w : World) (s : GSt) : Prop where
  hG : w.heap[p.G]? = some (.cells #[p.lv, .int .i64 p.n, .slice (some ⟨p.D, p.o, none⟩) p.L p.c] 149 (0, 0))
  hgb : w.heap[p.gb]? = some (.cells #[.pointer (some ⟨p.G, 0, none⟩)] 109 (0, 0))
  hdb : w.heap[p.db]? = some (.cells #[.int .i64 p.depth] 2 (0, 0))
  hab : w.heap[p.ab]? = some (.cells #[.bool s.2] 4 (0, 0))
  hD : DepW w p.D p.o p.L p.tD s.1
structure GnP.Ok (p : GnP) : Prop where
  lc : p.L ≤ p.c
  GD : p.G ≠ p.D
  Ga : p.G ≠ p.ab
  gD : p.gb ≠ p.D
  ga : p.gb ≠ p.ab
  dD : p.db ≠ p.D
  da : p.db ≠ p.ab
  Da : p.D ≠ p.ab
theorem GnW.kept {p : GnP} {w w' : World} {s : GSt} (h : GnW p w s) (hk : ∀ b, b = p.G ∨ b = p.gb ∨ b = p.db ∨ b = p.ab ∨ b = p.D → w'.heap[b]? = w.heap[b]?) : GnW p w' s := by
  obtain ⟨h1, h2, h3, h4, arr, h5, h6⟩ := h
  exact ⟨by rw [hk _ (by simp)]; exact h1, by rw [hk _ (by simp)]; exact h2, by rw [hk _ (by simp)]; exact h3, by rw [hk _ (by simp)]; exact h4, arr, by rw [hk _ (by simp)]; exact h5, h6⟩
theorem GnW.lt {p : GnP} {w : World} {s : GSt} (h : GnW p w s) : ∀ b, b = p.G ∨ b = p.gb ∨ b = p.db ∨ b = p.ab ∨ b = p.D → b < w.heap.size := by
  obtain ⟨h1, h2, h3, h4, arr, h5, h6⟩ := h
  rintro b (rfl | rfl | rfl | rfl | rfl)
  · exact (Array.getElem?_eq_some_iff.1 h1).1
  · exact (Array.getElem?_eq_some_iff.1 h2).1
  · exact (Array.getElem?_eq_some_iff.1 h3).1
  · exact (Array.getElem?_eq_some_iff.1 h4).1
  · exact (Array.getElem?_eq_some_iff.1 h5).1
theorem GnW.below {p : GnP} {w w' : World} {s : GSt} (h : GnW p w s) {B : Nat} (hb : Below B w w') (hB : w.heap.size ≤ B) : GnW p w' s := h.kept fun b hb' => hb.block b (Nat.lt_of_lt_of_le (h.lt b hb') hB)
/-- What a step may change. -/
structure Fr (p : GnP) (row : Option Nat) (w w' : World) : Prop where
  os : w'.os = w.os
  tape : w'.tape = w.tape
  output : w'.output = w.output
  size : w.heap.size ≤ w'.heap.size
  block : ∀ k, k < w.heap.size → k ≠ p.D → k ≠ p.ab → some k ≠ row → w'.heap[k]? = w.heap[k]?
end Go.Proofs.Ytmlgfaojfmkdnaa.E
namespace Go.Proofs.Ytmlgfaojfmkdnaa.E
open Go Go.Proofs Go.Proofs.Ytmlgfaojfmkdnaa Go.RowKit
set_option maxRecDepth 100000
set_option maxHeartbeats 4000000
set_option linter.unusedVariables false
theorem gn_cells {p : GnP} {w : World} {s : GSt} (h : GnW p w s) :
    w.cell? ⟨p.gb, 0, none⟩ = some (.pointer (some ⟨p.G, 0, none⟩)) ∧ w.cell? ⟨p.G, 1, none⟩ = some (.int .i64 p.n) ∧ w.cell? ⟨p.G, 2, none⟩ = some (.slice (some ⟨p.D, p.o, none⟩) p.L p.c) ∧ w.cell? ⟨p.db, 0, none⟩ = some (.int .i64 p.depth) ∧ w.cell? ⟨p.ab, 0, none⟩ = some (.bool s.2) :=
  ⟨by simp [World.cell?, h.hgb], by simp [World.cell?, h.hG], by simp [World.cell?, h.hG], by simp [World.cell?, h.hdb], by simp [World.cell?, h.hab]⟩
theorem set_heap {w : World} {b o : Nat} {v : Value} {arr : Array Value} {t : TypeId} (h : w.heap[b]? = some (.cells arr t (0, 0))) : (w.setCell ⟨b, o, none⟩ v).heap[b]? = some (.cells (arr.setIfInBounds o v) t (0, 0)) := by
  simp only [World.setCell, Array.getElem?_modify, ↓reduceIte, h, Option.map_some]; rfl
theorem dep_set {w : World} {D o L : Nat} {tD : TypeId} {l : List Int} (h : DepW w D o L tD l) {j : Nat} (hj : j < L) (d : Int) : DepW (w.setCell ⟨D, o + j, none⟩ (.int .i64 d)) D o L tD (l.set j d) := by
  obtain ⟨arr, h1, h2, h3, h4⟩ := h
  refine ⟨_, set_heap h1, by simpa using h2, by simpa using h3, fun i v hi => ?_⟩
  rw [Array.getElem?_setIfInBounds]
  rw [List.getElem?_set] at hi
  by_cases e : j = i
  · subst e
    rw [if_pos rfl, if_pos (by omega)] at hi
    rw [if_pos rfl, if_pos (by omega)]
    injection hi with hi; rw [hi]
  · rw [if_neg e] at hi
    rw [if_neg (by omega)]; exact h4 i v hi
theorem gn_setD {p : GnP} (hp : p.Ok) {w : World} {s : GSt} (h : GnW p w s) {j : Nat} (hj : j < p.L) (d : Int) : GnW p (w.setCell ⟨p.D, p.o + j, none⟩ (.int .i64 d)) (s.1.set j d, s.2) := by
  have hk : ∀ b, b ≠ p.D → (w.setCell ⟨p.D, p.o + j, none⟩ (.int .i64 d)).heap[b]? = w.heap[b]? := fun b hb => Below.heap_setCell _ _ _ _ hb
  exact ⟨by rw [hk _ hp.GD]; exact h.hG, by rw [hk _ hp.gD]; exact h.hgb, by rw [hk _ hp.dD]; exact h.hdb, by rw [hk _ hp.Da.symm]; exact h.hab, dep_set h.hD hj d⟩
theorem gn_setA {p : GnP} (hp : p.Ok) {w : World} {s : GSt} (h : GnW p w s) (b : Bool) : GnW p (w.setCell ⟨p.ab, 0, none⟩ (.bool b)) (s.1, b) := by
  have hk : ∀ k, k ≠ p.ab → (w.setCell ⟨p.ab, 0, none⟩ (.bool b)).heap[k]? = w.heap[k]? := fun k hb => Below.heap_setCell _ _ _ _ hb
  refine ⟨by rw [hk _ hp.Ga]; exact h.hG, by rw [hk _ hp.ga]; exact h.hgb, by rw [hk _ hp.da]; exact h.hdb, ?_, ?_⟩
  · have := set_heap (o := 0) (v := .bool b) h.hab
    simpa using this
  · obtain ⟨arr, h1, h2⟩ := h.hD
    exact ⟨arr, by rw [hk _ hp.Da]; exact h1, h2⟩
theorem gn_thaw {p : GnP} {w : World} {s : GSt} (h : GnW p w s) : (∀ o, w.frozen? ⟨p.D, o, none⟩ = false) ∧ w.frozen? ⟨p.ab, 0, none⟩ = false := by
  obtain ⟨arr, h1, h2⟩ := h.hD
  exact ⟨fun o => by simp [World.frozen?, h1], by simp [World.frozen?, h.hab]⟩
theorem Fr.trans {p : GnP} {row : Option Nat} {a b c : World} (h : Fr p row a b) (k : Fr p row b c) : Fr p row a c :=
  ⟨k.os.trans h.os, k.tape.trans h.tape, k.output.trans h.output, Nat.le_trans h.size k.size, fun i h1 h2 h3 h4 => (k.block i (Nat.lt_of_lt_of_le h1 h.size) h2 h3 h4).trans (h.block i h1 h2 h3 h4)⟩
theorem Fr.weak {p : GnP} {row : Option Nat} {w w' : World} (h : Fr p none w w') : Fr p row w w' := ⟨h.os, h.tape, h.output, h.size, fun k h1 h2 h3 _ => h.block k h1 h2 h3 (by simp)⟩
theorem Fr.below {p : GnP} {row : Option Nat} {w w' : World} (h : Below w.heap.size w w') : Fr p row w w' := ⟨h.os, h.tape, h.output, h.size, fun k hk _ _ _ => h.block k hk⟩
theorem Fr.set {p : GnP} {row : Option Nat} {w w' : World} (h : Fr p row w w') {b o : Nat} (v : Value) (hb : b = p.D ∨ b = p.ab) : Fr p row w (w'.setCell ⟨b, o, none⟩ v) :=
  ⟨h.os, h.tape, h.output, by simpa [World.setCell] using h.size, fun k hk h1 h2 h3 => by rw [Below.heap_setCell _ _ _ _ (by rcases hb with rfl | rfl <;> assumption)]; exact h.block k hk h1 h2 h3⟩
theorem alloc_cell (w : World) (arr : Array Value) (t : TypeId) (j : Nat) (v : Value) (h : arr[j]? = some v) : (w.alloc (.cells arr t)).cell? ⟨w.heap.size, j, none⟩ = some v := by
  have h1 : (w.alloc (.cells arr t)).heap[w.heap.size]? = some (.cells arr t (0, 0)) := by rw [alloc_get, if_pos rfl]
  unfold World.cell?
  rw [h1]
  simpa using h
theorem dep_cell {w : World} {D o L : Nat} {tD : TypeId} {l : List Int} (h : DepW w D o L tD l) {j : Nat} (hj : j < L) : w.cell? ⟨D, o + j, none⟩ = some (.int .i64 (l.getD j 0)) := by
  obtain ⟨arr, h1, h2, h3, h4⟩ := h
  have hl : l[j]? = some (l.getD j 0) := by rw [List.getD_eq_getElem?_getD, List.getElem?_eq_getElem (by omega)]; rfl
  simp [World.cell?, h1, h4 j _ hl]
theorem each_calls (p : GnP) (hp : p.Ok) (w : World) (ha hb : Int) (v2 : Value) (s s' : GSt) (hw : GnW p w s) (h : eachF p.depth (ha, hb, ()) s = some s') :
    Calls Try.prog 133 #[.agg #[.int .i64 ha, .int .i64 hb], v2, .pointer (some ⟨p.gb, 0, none⟩), .pointer (some ⟨p.db, 0, none⟩), .pointer (some ⟨p.ab, 0, none⟩)] w fun e w' => e = .returned (.bool true) ∧ GnW p w' s' ∧ Fr p none w w' := by
  unfold eachF at h
  split at h
  case isFalse => cases h
  rename_i hbd
  obtain ⟨j, rfl⟩ := Int.eq_ofNat_of_zero_le hbd.1
  have hjL : j < p.L := by have := hw.hD; obtain ⟨arr, h1, h2, h3, h4⟩ := this; have := hbd.2; simp only at this; omega
  have A0 : Aside (s' = if s.1.getD j 0 < 0 then (s.1.set j p.depth, true) else s) := by
    injection h with h; exact h.symm
  have hjLI : (j : Int) < (p.L : Int) := by omega
  have hj0 : (0 : Int) ≤ (j : Int) := by omega
  clear h hbd
  have hw1 : GnW p (w.alloc (.cells #[.int .i64 ha, .int .i64 j] 23)) s := hw.below (Below.alloc (Below.refl _ _) (Nat.le_refl _) _) (Nat.le_refl _)
  obtain ⟨c1, c2, c3, c4, c5⟩ := gn_cells hw1
  have c6 := dep_cell hw1.hD hjL
  have A1 : Aside (GnW p (w.alloc (.cells #[.int .i64 ha, .int .i64 j] 23)) s) := hw1
  obtain ⟨x, hx⟩ : ∃ x, x = s.1.getD j 0 := ⟨_, rfl⟩
  rw [← hx] at c6
  clear hw1
  by_cases hneg : x < 0
  · have hnegd : decide (x < 0) = true := decide_eq_true hneg
    have A7 : Aside (s.1.getD j 0 < 0) := hx ▸ hneg
    clear hx
    go_enter Try.func133, Try.ntmps133
    go_wp2
    go_quiet (fail)
    have A2 : Aside (GnW p ((w.alloc (.cells #[.int .i64 ha, .int .i64 j] 23)).drewN nq) s) := (show GnW p (w.alloc (.cells #[.int .i64 ha, .int .i64 j] 23)) s from A1).kept (fun b _ => rfl)
    have A3 : Aside (Below w.heap.size w ((w.alloc (.cells #[.int .i64 ha, .int .i64 j] 23)).drewN nq)) := ((Below.refl _ w).alloc (Nat.le_refl _) (.cells #[.int .i64 ha, .int .i64 j] 23)).trans ⟨rfl, rfl, rfl, Nat.le_refl _, fun _ _ => rfl⟩
    have c7 : ((w.alloc (.cells #[.int .i64 ha, .int .i64 j] 23)).drewN nq).cell? ⟨w.heap.size, 1, none⟩ = some (.int .i64 j) := by
      exact alloc_cell w #[.int .i64 ha, .int .i64 j] 23 1 _ rfl
    clear c1 c2 c3 c4 c5 c6
    go_wp2
    generalize (w.alloc (.cells #[.int .i64 ha, .int .i64 j] 23)).drewN nq = W2 at *
    obtain ⟨c1, c2, c3, c4, c5⟩ := gn_cells (show GnW p W2 s from A2)
    have c6 := dep_cell (show GnW p W2 s from A2).hD hjL
    go_still_tail 8, (by kernel_rfl)
    change wpList _ _ _ _ _ W2.drew
    have A4 : Aside (GnW p W2.drew s) := (show GnW p W2 s from A2).kept (fun b _ => rfl)
    have A5 : Aside (Below w.heap.size w W2.drew) := (show Below w.heap.size w W2 from A3).trans ⟨rfl, rfl, rfl, Nat.le_refl _, fun _ _ => rfl⟩
    clear c1 c2 c3 c4 c5 c6 c7 A3 A2 A1
    generalize W2.drew = W3 at *
    obtain ⟨c1, c2, c3, c4, c5⟩ := gn_cells (show GnW p W3 s from A4)
    have c6 := dep_cell (show GnW p W3 s from A4).hD hjL
    obtain ⟨f1, f2⟩ := gn_thaw (show GnW p W3 s from A4)
    have f3 := f1 (p.o + j)
    obtain ⟨_, _, _, _, c8⟩ := gn_cells (gn_setD hp (show GnW p W3 s from A4) hjL p.depth)
    have A6 : Aside (GnW p ((W3.setCell ⟨p.D, p.o + j, none⟩ (.int .i64 p.depth)).setCell ⟨p.ab, 0, none⟩ (.bool true)) (s.1.set j p.depth, true)) := gn_setA hp (gn_setD hp (show GnW p W3 s from A4) hjL p.depth) true
    clear f1
    go_wp2
    go_ret
    have hs' : s' = (s.1.set j p.depth, true) := by
      have h0 : s' = if s.1.getD j 0 < 0 then (s.1.set j p.depth, true) else s := A0
      rw [h0, if_pos (show s.1.getD j 0 < 0 from A7)]
    rw [hs']
    exact ⟨rfl, A6, ((Fr.below (show Below w.heap.size w W3 from A5)).set _ (Or.inl rfl)).set _ (Or.inr rfl)⟩
  · have hnegd : decide (x < 0) = false := decide_eq_false hneg
    have hs' : s' = s := by
      have h0 : s' = if s.1.getD j 0 < 0 then (s.1.set j p.depth, true) else s := A0
      rw [h0, if_neg (by rw [← hx]; exact hneg)]
    subst hs'
    clear hx
    go_enter Try.func133, Try.ntmps133
    go_wp2
    go_quiet (fail)
    go_wp2
    go_ret
    exact ⟨rfl, (show GnW p (w.alloc (.cells #[.int .i64 ha, .int .i64 j] 23)) s' from A1).kept (fun b _ => rfl), Fr.below (((Below.refl _ w).alloc (Nat.le_refl _) (.cells #[.int .i64 ha, .int .i64 j] 23)).trans ⟨rfl, rfl, rfl, Nat.le_refl _, fun _ _ => rfl⟩)⟩
end Go.Proofs.Ytmlgfaojfmkdnaa.E
namespace Go.Proofs.Ytmlgfaojfmkdnaa.E
open Go Go.Proofs Go.RowKit
set_option maxRecDepth 100000
set_option linter.unusedVariables false
/-! a region that draws its order, by what holds of the operations that are done -/
theorem region_inv {P : Program} {ops : Array Oper} {id : Nat} {a : Act} {w : World} {Q : Exit → Act → World → Prop} (J : Act → (Nat → Bool) → Act → World → Prop) (hm : P.follows .mixedOrders = true) (hb : backB ops.toList 0 = true)
    (h0 : J a (fun _ => false) a w.drew)
    (hs : ∀ (L : Nat → Bool) (a' : Act) (w' : World) (i : Nat) (o : Oper), ops[i]? = some o → L i = false → (∀ j ∈ esOf o, L j = true) → J a L a' w' → wpOp P ops Q i (J a (fun k => k == i || L k)) a' w')
    (he : ∀ (L : Nat → Bool) (a' : Act) (w' : World), (∀ i, i < ops.size → L i = true) → J a L a' w' → Q .normal a' w') : (Code.region id ops true).wp P Q a w := by
  refine wp_region_any hm ?_
  have key : ∀ (fuel : Nat) (listed : Array Bool) (R : List Nat) (a' : Act) (w' : World), R.length = fuel → List.Pairwise (· < ·) R → (∀ j, j ∈ R ↔ listed.getD j true = false) → listed.size = ops.size →
      J a (fun k => listed.getD k false) a' w' → wpAny P .any ops Q fuel listed a' w' := by
    intro fuel
    induction fuel with
    | zero =>
      intro listed R a' w' hl hp hm hsz hJ
      obtain rfl : R = [] := List.length_eq_zero_iff.1 hl
      refine ⟨?_, he _ _ _ (fun i hi => ?_) hJ⟩
      · rw [List.eq_nil_iff_forall_not_mem]
        intro i hi
        rw [mem_ready] at hi
        have := (hm i).2 hi.1
        cases this
      · cases hc : listed.getD i true
        · have := (hm i).2 hc; cases this
        · rw [Array.getD_eq_getD_getElem?, Array.getElem?_eq_getElem (by omega)] at hc ⊢; exact hc
    | succ fuel ih =>
      intro listed R a' w' hl hp hm hsz hJ
      refine ⟨fun hr => ?_, fun i hi => ?_⟩
      · exfalso
        cases R with
        | nil => cases hl
        | cons i0 R' =>
          rw [List.pairwise_cons] at hp
          have h0 := (hm i0).1 List.mem_cons_self
          have hlt : i0 < ops.size := by rw [← hsz]; exact (getD_tf h0).2
          have ho : ops[i0]? = some ops[i0] := by simp [hlt]
          have : i0 ∈ Region.ready .any ops listed := mem_ready.2 ⟨h0, _, ho, fun j hj => by
            have hlt := backB_ok ops.toList 0 hb i0 _ (by simp [hlt]) j hj
            cases hc : listed.getD j false
            · exfalso
              have hjs : j < listed.size := by omega
              have : listed.getD j true = false := by
                rw [Array.getD_eq_getD_getElem?] at hc ⊢
                rw [Array.getElem?_eq_getElem hjs] at hc ⊢
                exact hc
              rcases List.mem_cons.1 ((hm j).2 this) with e | hjm
              · omega
              · have := hp.1 j hjm; omega
            · rfl⟩
          rw [hr] at this; cases this
      · obtain ⟨h1, o, ho, hes⟩ := mem_ready.1 hi
        have hiR := (hm i).2 h1
        have hnd : R.Nodup := hp.imp fun h => Nat.ne_of_lt h
        have his : i < listed.size := (getD_tf h1).2
        refine wpOp_mono (fun a2 w2 hJ2 => ?_) (hs (fun k => listed.getD k false) a' w' i o ho (getD_tf h1).1 hes hJ)
        refine ih _ (R.erase i) a2 w2 (by rw [List.length_erase_of_mem hiR, hl]; rfl) (hp.sublist List.erase_sublist) (fun j => ?_) (by simp [hsz]) ?_
        · rw [hnd.mem_erase_iff, hm j, setL]
          by_cases e : j = i
          · simp [e, his]
          · simp [e]
        · have e : (fun k => (listed.setIfInBounds i true).getD k false) = fun k => k == i || listed.getD k false := by
            funext k
            rw [setL]
            by_cases e : k = i
            · simp [e, his]
            · simp [e]
          rw [e]; exact hJ2
  exact key ops.size _ (List.range' 0 ops.size) a _ (by simp) List.pairwise_lt_range' (fun j => by
    rw [List.mem_range'_1, Array.getD_eq_getD_getElem?]
    by_cases hj : j < ops.size
    · simp [hj]
    · simp [hj]) (by simp) (by
    have e : (fun k => (Array.replicate ops.size false).getD k false) = fun _ => false := by
      funext k
      rw [Array.getD_eq_getD_getElem?]
      by_cases hj : k < ops.size
      · simp [hj]
      · simp [hj]
    rw [e]; exact h0)
/-- a slot that is set if its operation is done -/
def pif (a : Act) (b : Bool) (d : Nat) (v : Value) : Act := bif b then a.put (some d) v else a
theorem pif_false (a : Act) (d : Nat) (v : Value) : pif a false d v = a := rfl
theorem pif_true (a : Act) (d : Nat) (v : Value) : pif a true d v = a.put (some d) v := rfl
theorem put_put {a : Act} {d e : Nat} (h : d ≠ e) (v x : Value) : (a.put (some d) v).put (some e) x = (a.put (some e) x).put (some d) v := by
  simp only [Act.put]
  congr 1
  apply Array.ext_getElem?
  intro i
  simp only [Array.getElem?_setIfInBounds, Array.size_setIfInBounds]
  by_cases h1 : e = i
  · by_cases h2 : d = i
    · omega
    · simp [h1, h2]
  · by_cases h2 : d = i
    · simp [h1, h2]
    · simp [h1, h2]
theorem put_pif {a : Act} {b : Bool} {d e : Nat} (h : d ≠ e) (v x : Value) : (pif a b d v).put (some e) x = pif (a.put (some e) x) b d v := by
  cases b
  · rfl
  · exact put_put h v x
theorem eval_put_same {a : Act} {d : Nat} {v : Value} (h : d < a.tmps.size) : (a.put (some d) v).eval (.tmp d) = v := by
  simp [Act.put, Act.eval, h]
theorem eval_put_other {a : Act} {d e : Nat} {v : Value} (h : d ≠ e) : (a.put (some d) v).eval (.tmp e) = a.eval (.tmp e) := by
  simp [Act.put, Act.eval, h]
theorem eval_pif_other {a : Act} {b : Bool} {d e : Nat} {v : Value} (h : d ≠ e) : (pif a b d v).eval (.tmp e) = a.eval (.tmp e) := by
  cases b
  · rfl
  · exact eval_put_other h
theorem eval_pif_same {a : Act} {d : Nat} {v : Value} (h : d < a.tmps.size) : (pif a true d v).eval (.tmp d) = v := eval_put_same h
theorem pif_size {a : Act} {b : Bool} {d : Nat} {v : Value} : (pif a b d v).tmps.size = a.tmps.size := by
  cases b
  · rfl
  · simp [pif, Act.put]
/-- an act with the slots of the operations that are done -/
def ov (L : Nat → Bool) : Nat → List (Nat × Value) → Act → Act
  | _, [], a => a
  | i, p :: l, a => ov L (i + 1) l (pif a (L i) p.1 p.2)
theorem ov_congr {L M : Nat → Bool} : ∀ (l : List (Nat × Value)) (i : Nat) (a : Act), (∀ j, i ≤ j → j < i + l.length → L j = M j) → ov L i l a = ov M i l a
  | [], _, _, _ => rfl
  | p :: l, i, a, h => by
    simp only [ov]
    rw [h i (Nat.le_refl _) (by simp), ov_congr l (i + 1) _ fun j h1 h2 => h j (by omega) (by simp only [List.length_cons]; omega)]
theorem ov_put_out {L : Nat → Bool} {d : Nat} {v : Value} : ∀ (l : List (Nat × Value)) (i : Nat) (a : Act), d ∉ l.map (·.1) → (ov L i l a).put (some d) v = ov L i l (a.put (some d) v)
  | [], _, _, _ => rfl
  | p :: l, i, a, h => by
    simp only [List.map_cons, List.mem_cons, not_or] at h
    simp only [ov]
    rw [ov_put_out l (i + 1) _ h.2, put_pif (fun e => h.1 e.symm)]
theorem ov_put {L : Nat → Bool} {d : Nat} {v : Value} : ∀ (l : List (Nat × Value)) (i k : Nat) (a : Act), (l.map (·.1)).Nodup → l[k]? = some (d, v) → L (i + k) = false → (ov L i l a).put (some d) v = ov (fun j => j == i + k || L j) i l a
  | [], _, _, _, _, h, _ => by simp at h
  | p :: l, i, 0, a, hn, h, hL => by
    obtain rfl : p = (d, v) := by simpa using h
    rw [List.map_cons, List.nodup_cons] at hn
    simp only [ov]
    have hL : L i = false := hL
    rw [hL, pif_false, ov_put_out l (i + 1) _ hn.1, ov_congr (M := fun j => j == i + 0 || L j) l (i + 1) _ (fun j h1 h2 => by
      have : (j == i + 0) = false := by rw [beq_eq_false_iff_ne]; omega
      simp only [this, Bool.false_or])]
    simp [pif_true]
  | p :: l, i, k + 1, a, hn, h, hL => by
    rw [List.map_cons, List.nodup_cons] at hn
    simp only [ov]
    have e : i + (k + 1) = i + 1 + k := by omega
    rw [e] at hL ⊢
    rw [ov_put l (i + 1) k _ hn.2 (by simpa using h) hL]
    have : (i == i + 1 + k) = false := by rw [beq_eq_false_iff_ne]; omega
    rw [this, Bool.false_or]
theorem ov_eval_out {L : Nat → Bool} {d : Nat} : ∀ (l : List (Nat × Value)) (i : Nat) (a : Act), d ∉ l.map (·.1) → (ov L i l a).eval (.tmp d) = a.eval (.tmp d)
  | [], _, _, _ => rfl
  | p :: l, i, a, h => by
    simp only [List.map_cons, List.mem_cons, not_or] at h
    simp only [ov]
    rw [ov_eval_out l (i + 1) _ h.2, eval_pif_other (fun e => h.1 e.symm)]
theorem ov_eval {L : Nat → Bool} {d : Nat} {v : Value} : ∀ (l : List (Nat × Value)) (i k : Nat) (a : Act), (l.map (·.1)).Nodup → l[k]? = some (d, v) → L (i + k) = true → d < a.tmps.size → (ov L i l a).eval (.tmp d) = v
  | [], _, _, _, _, h, _, _ => by simp at h
  | p :: l, i, 0, a, hn, h, hL, hd => by
    obtain rfl : p = (d, v) := by simpa using h
    rw [List.map_cons, List.nodup_cons] at hn
    simp only [ov]
    have hL : L i = true := hL
    rw [ov_eval_out l (i + 1) _ hn.1, hL]
    exact eval_pif_same hd
  | p :: l, i, k + 1, a, hn, h, hL, hd => by
    rw [List.map_cons, List.nodup_cons] at hn
    simp only [ov]
    have e : i + (k + 1) = i + 1 + k := by omega
    rw [e] at hL
    exact ov_eval l (i + 1) k _ hn.2 (by simpa using h) hL (by rw [pif_size]; exact hd)
theorem wpOp_mk {P : Program} {ops : Array Oper} {Q : Exit → Act → World → Prop} {i : Nat} {o : Oper} {K : Act → World → Prop} {a : Act} {w : World} (ho : ops[i]? = some o) (hw : Region.wanted o (yielded ops a.tmps) = true) (h : o.wp P a w K Q) : wpOp P ops Q i K a w := by
  unfold wpOp
  rw [ho]
  simp only [hw, if_true]
  exact .inl h
/-- a guard that is so -/
theorem wanted_of {o : Oper} {ops : Array Oper} {a : Act} {j d : Nat} {oj : Oper} {b : Bool} (hg : o.guard = some (j, b)) (hj : ops[j]? = some oj) (hd : oj.dst = some d) (h : a.eval (.tmp d) = .bool b) : Region.wanted o (yielded ops a.tmps) = true := by
  unfold Region.wanted yielded
  rw [hg]
  simp only [hj, Option.bind_some, hd]
  have h : a.tmps.getD d undef = .bool b := h
  rw [Array.getD_eq_getD_getElem?] at h
  cases hc : a.tmps[d]? with
  | none => rw [hc] at h; cases h
  | some x => rw [hc] at h; have h : x = .bool b := h; subst h; simp
/-! single operations -/
section
variable {P : Program} {a : Act} {w : World} {Q : Exit → Act → World → Prop} {next : Act → World → Prop} {dst : Option Nat} {type : TypeId} {pos : String} {after : Array Edge} {guard : Option (Nat × Bool)}
theorem op_move {x : Operand} {v : Value} (h : a.eval x = v) (hn : next (a.put dst v) w) : (⟨dst, .move x, type, pos, after, guard⟩ : Oper).wp P a w next Q := wp_value (v := v) (w' := w) (by subst h; rfl) hn
theorem op_assign {x : Operand} {v : Value} (h : a.eval x = v) (hn : next (a.put dst v) w) : (⟨dst, .assign x, type, pos, after, guard⟩ : Oper).wp P a w next Q := wp_value (v := v) (w' := w) (by subst h; rfl) hn
theorem op_pick {c x y : Operand} {b : Bool} {v : Value} (hc : a.eval c = .bool b) (h : (if b = true then a.eval x else a.eval y) = v) (hn : next (a.put dst v) w) : (⟨dst, .pick c x y, type, pos, after, guard⟩ : Oper).wp P a w next Q :=
  wp_value (v := v) (w' := w) (by subst h; simp only [execOp, hc]; rfl) hn
theorem op_not {x : Operand} {t : TypeId} {b : Bool} (h : a.eval x = .bool b) (hn : next (a.put dst (.bool (!b))) w) : (⟨dst, .unOp .not t x, type, pos, after, guard⟩ : Oper).wp P a w next Q :=
  wp_value (v := .bool (!b)) (w' := w) (by simp only [execOp, h]; rfl) hn
theorem op_nil {x : Operand} {q : Addr} (h : a.eval x = .pointer (some q)) (hn : next (a.put dst (.pointer (some q))) w) : (⟨dst, .nilCheck x, type, pos, after, guard⟩ : Oper).wp P a w next Q :=
  wp_value (v := .pointer (some q)) (w' := w) (by simp only [execOp, h]; rfl) hn
theorem op_load {ty : Nat → Option Ty} {t : TypeId} {T : Ty} (ho : TyOk P ty t T) {x : Operand} {b o : Nat} {arr : Array Value} {et : TypeId} {fz : Nat × Nat} {cs : List Value} (h : a.eval x = .pointer (some ⟨b, o, none⟩)) (hb : w.heap[b]? = some (.cells arr et fz)) (hl : o + T.sz ≤ arr.size)
    (hs : seg arr.toList o T.sz = cs) (hn : next (a.put dst (valOf T cs)) w) : (⟨dst, .load t x, type, pos, after, guard⟩ : Oper).wp P a w next Q := by
  refine wp_value (v := valOf T cs) (w' := w) ?_ hn
  simp only [execOp, h]
  exact exec_value (by unfold Instr.loadAt; simp only [Instr.sureAddr, Sem.run_bind, pure_run, Result.andThen_ok]; rw [← hs]; exact loadVar_run ho hb hl)
theorem op_field {ty : Nat → Option Ty} (hO : ∀ t T, ty t = some T → TyOk P ty t T) {t : TypeId} {f : Ty} (ht : ty t = some (.st f)) {x : Operand} {n b o : Nat} (hn' : n < f.len) (hz : 0 < (fld f n).sz) (h : a.eval x = .pointer (some ⟨b, o, none⟩)) (hn : next (a.put dst (.pointer (some ⟨b, o + off f n, none⟩))) w) :
    (⟨dst, .fieldAddr t x n, type, pos, after, guard⟩ : Oper).wp P a w next Q := by
  refine wp_value (v := .pointer (some ⟨b, o + off f n, none⟩)) (w' := w) ?_ hn
  simp only [execOp, h]
  exact exec_value (fieldAt_run hO ht hn' hz)
theorem op_call {f : Operand} {args : Array Operand} {tys : Array TypeId} {g : FuncId} {fi ca : Array Value} {fn : Func} {c : Code} {R : Ending → World → Prop} {vs : Array Value} (hf : a.eval f = .func (.func g) fi ca) (hv : fi ++ args.map a.eval ++ ca = vs) (hfn : P.funcs[g]? = some fn) (hname : (fn.name == "runtime.NumGoroutine") = false) (hb : fn.body = some c)
    (hc : Calls P g vs w R) (hn : ∀ e w', R e w' → ∃ v, e = .returned v ∧ next (a.put dst v) w') : (⟨dst, .call ⟨.value f, args, tys⟩, type, pos, after, guard⟩ : Oper).wp P a w next Q := by
  unfold Oper.wp
  subst hv
  rw [call_run hf, run_enter hfn hname hb, Oper.upon_enter]
  refine hc.mono fun e w' h => ?_
  obtain ⟨v, rfl, h2⟩ := hn e w' h
  exact h2
end
theorem args3 {a : Act} {x y z : Operand} {u v t : Value} (h1 : a.eval x = u) (h2 : a.eval y = v) (h3 : a.eval z = t) : (#[] : Array Value) ++ #[x, y, z].map a.eval ++ #[] = #[u, v, t] := by subst h1 h2 h3; simp
theorem args2 {a : Act} {x y : Operand} {u v c1 c2 c3 : Value} (h1 : a.eval x = u) (h2 : a.eval y = v) : (#[] : Array Value) ++ #[x, y].map a.eval ++ #[c1, c2, c3] = #[u, v, c1, c2, c3] := by subst h1 h2; simp
theorem args20 {a : Act} {x y : Operand} {u v : Value} (h1 : a.eval x = u) (h2 : a.eval y = v) : (#[] : Array Value) ++ #[x, y].map a.eval ++ #[] = #[u, v] := by subst h1 h2; simp
theorem args6 {a : Act} {x1 x2 x3 x4 x5 x6 : Operand} {u1 u2 u3 u4 u5 u6 : Value} (h1 : a.eval x1 = u1) (h2 : a.eval x2 = u2) (h3 : a.eval x3 = u3) (h4 : a.eval x4 = u4) (h5 : a.eval x5 = u5) (h6 : a.eval x6 = u6) :
    (#[] : Array Value) ++ #[x1, x2, x3, x4, x5, x6].map a.eval ++ #[] = #[u1, u2, u3, u4, u5, u6] := by subst h1 h2 h3 h4 h5 h6; simp
/-! append, and what becomes of the elder row -/
theorem run_append_or {P : Program} (w : World) (base : Nat) (t ty e : TypeId) (i : TypeInfo) (z : Value) (size bytes : Nat) (ht : P.underlying t = some (.slice e)) (hi : P.info? e = some i) (hz : i.zero = some z)
    (hsize : i.size = size) (hby : i.bytes = bytes) (hzs : z.cells.size = size) (hsz : 0 < size)
    (v : Value) (n : Nat) (xs : List Value) (hown : w.ownsRow base e size v n xs)
    (a : Addr) (m c : Nat) (news : List Value) (hl : news.length = m * size) (hnews : ∀ j u, news[j]? = some u → w.cell? (a.add j) = some u) (h1 : ∀ u ∈ news, u.oneCell' = true)
    (h63 : n + m ≤ maxLen) (hbytes : (n + m) * bytes ≤ 140737488355328) (hbase : base ≤ w.heap.size) (hm0 : 0 < m) :
    ∃ v' w', (Builtin.append_ #[t, t] ty #[v, .slice (some a) m c]).run P w = .ok v' w' ∧ w'.ownsRow base e size v' (n + m) (xs ++ news) ∧
      ((w.grownBy w' none ∧ v'.ownBlock = some w.heap.size) ∨ ∃ g cap, v = .slice (some ⟨g, 0, none⟩) n cap ∧ v' = .slice (some ⟨g, 0, none⟩) (n + m) cap ∧ w.grownBy w' (some g)) := by
  subst hsize
  subst hby
  have hsmall : n + m ≤ 9223372036854775807 := by simp only [maxLen] at h63; omega
  have hlen : (xs ++ news).length = (n + m) * i.size := by rw [List.length_append, hown.1, hl, Nat.add_mul]
  have grown : ∀ (old : Nat), old < n + m → ∀ (row : Option Nat),
      (w.drew.alloc (.cells (xs.toArray ++ news.toArray ++ Builtin.zeroCells z.cells (grownCap w (n + m) old e - (n + m))) e)).ownsRow base e i.size
        (.slice (some ⟨w.heap.size, 0, none⟩) (n + m) (grownCap w (n + m) old e)) (n + m) (xs ++ news) ∧
      w.grownBy (w.drew.alloc (.cells (xs.toArray ++ news.toArray ++ Builtin.zeroCells z.cells (grownCap w (n + m) old e - (n + m))) e)) row := by
    intro old ho row
    have hge := grownCap_ge w (n + m) old e
    have hcm : grownCap w (n + m) old e ≤ maxLen := grownCap_le_maxLen w (n + m) old e h63
    refine ⟨⟨hlen, .inr ⟨w.heap.size, _, _, rfl, hbase, heap_alloc_new w.drew _, hge, hcm, ?_, ?_⟩⟩, ⟨rfl, rfl, rfl, by simp, fun k hk _ => by rw [alloc_get, if_neg (by show k ≠ w.heap.size; omega)]; rfl⟩⟩
    · simp only [Array.size_append, List.size_toArray, size_zeroCells, hzs, hown.1, hl, ← Nat.add_mul]
      congr 1
      omega
    · simp only [Array.toList_append, List.append_assoc]
      rw [← List.append_assoc, ← hlen]
      exact List.take_left
  rcases hown.2 with ⟨rfl, rfl⟩ | ⟨g, cap, cur, rfl, hbg, hg, hnc, hcm, hcs, htake⟩
  · have hx : xs = [] := List.eq_nil_of_length_eq_zero (by simpa using hown.1)
    subst hx
    have hr := run_append_nil (P := P) w t ty e i z ht hi hz a m c news hl hnews (by omega) (by omega) (by have hb := hbytes; simp only [Nat.zero_add] at hb; omega)
    have hgr := grown 0 (by omega) none
    simp only [Nat.zero_add, List.nil_append, Array.empty_append] at hgr ⊢
    exact ⟨_, _, hr, hgr.1, Or.inl ⟨hgr.2, rfl⟩⟩
  · by_cases hroom : n + m ≤ cap
    · have hfit : n * i.size + news.length ≤ cur.size := by rw [hl, hcs, ← Nat.add_mul]; exact Nat.mul_le_mul_right _ hroom
      have hr := run_append_room (P := P) w t ty e i ht hi g n cap cur hg a m c news hl hnews h1 hroom hfit
      refine ⟨_, _, hr, ⟨hlen, .inr ⟨g, cap, _, rfl, hbg, setRow_heap w g cur _ e _ hg, hroom, hcm, ?_, ?_⟩⟩, Or.inr ⟨g, cap, rfl, rfl, ⟨rfl, rfl, rfl, by simp, fun k _ hk => setRow_other w g k _ (fun e => hk (by simp [e]))⟩⟩⟩
      · simp only [List.size_toArray, List.length_append, List.length_take, List.length_drop, Array.length_toList]
        omega
      · rw [htake, ← hlen]
        exact List.take_left
    · have holds : ∀ j u, xs[j]? = some u → w.cell? ((⟨g, 0, none⟩ : Addr).add j) = some u := hown.cells (g := g) rfl
      have hr := run_append_grow (P := P) w t ty e i z ht hi hz ⟨g, 0, none⟩ n cap xs hown.1 holds a m c news hl hnews (by omega) (by omega) (growslice_fits (by omega) hbytes)
      have hgr := grown cap (by omega) none
      exact ⟨_, _, hr, hgr.1, Or.inl ⟨hgr.2, rfl⟩⟩
theorem row_kept {w w' : World} {base e size n : Nat} {v : Value} {xs : List Value} (h : w.ownsRow base e size v n xs) (hk : ∀ b, base ≤ b → b < w.heap.size → v.ownBlock = some b → w'.heap[b]? = w.heap[b]?) : w'.ownsRow base e size v n xs := by
  refine ⟨h.1, ?_⟩
  rcases h.2 with h1 | ⟨g, cap, cur, rfl, h2, h3, h4⟩
  · exact .inl h1
  · exact .inr ⟨g, cap, cur, rfl, h2, by rw [hk g h2 (Array.getElem?_eq_some_iff.1 h3).1 rfl]; exact h3, h4⟩
/-- the elder row stands where the younger lies in its block -/
theorem row_back {w : World} {base e size : Nat} {g cap n m : Nat} {xs news : List Value} (hl : xs.length = n * size) (h : w.ownsRow base e size (.slice (some ⟨g, 0, none⟩) (n + m) cap) (n + m) (xs ++ news)) : w.ownsRow base e size (.slice (some ⟨g, 0, none⟩) n cap) n xs := by
  rcases h.2 with ⟨h1, _⟩ | ⟨g', cap', cur, h1, h2, h3, h4, h5, h6, h7⟩
  · cases h1
  · injection h1 with h8 _ h9
    injection h8 with h8; injection h8 with h8
    subst h8; subst h9
    refine ⟨hl, .inr ⟨g, cap, cur, rfl, h2, h3, by omega, h5, h6, ?_⟩⟩
    have e1 : n * size ≤ (n + m) * size := Nat.mul_le_mul_right _ (by omega)
    have := congrArg (List.take (n * size)) h7
    rw [List.take_take, Nat.min_eq_left e1, ← hl, List.take_left] at this
    rw [← hl]; exact this
section
variable {P : Program} {a : Act} {w : World} {Q : Exit → Act → World → Prop} {next : Act → World → Prop} {dst : Option Nat} {type : TypeId} {pos : String} {after : Array Edge} {guard : Option (Nat × Bool)}
theorem op_build1 {ty : Nat → Option Ty} (hO : ∀ t T, ty t = some T → TyOk P ty t T) {t : TypeId} {e : Ty} (ht : ty t = some (.sl e)) {z : SV} (hz : zeroSV e = some z) (hw : e.ownable = true) (hn : 1 * e.sz ≤ 4096) {x : Operand} {cs : List Value} (hx : a.eval x = valOf e cs)
    (hc : cs.length = e.sz ∧ (valOf e cs).cells = cs.toArray) (hn' : ∀ et, next (a.put dst (.slice (some ⟨w.heap.size, 0, none⟩) 1 1)) (w.alloc (.cells cs.toArray et))) : (⟨dst, .buildSlice t 1 #[(0, x)], type, pos, after, guard⟩ : Oper).wp P a w next Q := by
  obtain ⟨et, hr⟩ := run_buildS (w := w) hO ht hz hw (n := 1) hn (parts := #[(0, a.eval x)]) (css := [cs]) (is := [0]) (by simp [hx]) rfl rfl rfl (fun c h => by rw [List.mem_singleton.1 h]; exact hc)
  have e1 : [cs].flatten = cs := by simp
  rw [e1] at hr
  refine wp_value (v := .slice (some ⟨w.heap.size, 0, none⟩) 1 1) (w' := w.alloc (.cells cs.toArray et)) ?_ (hn' et)
  exact exec_value (by simpa using hr)
theorem op_append {s x : Operand} (base : Nat) (t e : TypeId) (i : TypeInfo) (z : Value) (size bytes : Nat) (ht : P.underlying t = some (.slice e)) (hi : P.info? e = some i) (hz : i.zero = some z)
    (hsize : i.size = size) (hby : i.bytes = bytes) (hzs : z.cells.size = size) (hsz : 0 < size)
    (v : Value) (n : Nat) (xs : List Value) (hs : a.eval s = v) (hown : w.ownsRow base e size v n xs)
    (ad : Addr) (m c : Nat) (news : List Value) (hx : a.eval x = .slice (some ad) m c) (hl : news.length = m * size) (hnews : ∀ j u, news[j]? = some u → w.cell? (ad.add j) = some u) (h1 : ∀ u ∈ news, u.oneCell' = true)
    (h63 : n + m ≤ maxLen) (hbytes : (n + m) * bytes ≤ 140737488355328) (hbase : base ≤ w.heap.size) (hm0 : 0 < m)
    (h : ∀ v' w', w'.ownsRow base e size v' (n + m) (xs ++ news) → ((w.grownBy w' none ∧ v'.ownBlock = some w.heap.size) ∨ ∃ g cap, v = .slice (some ⟨g, 0, none⟩) n cap ∧ v' = .slice (some ⟨g, 0, none⟩) (n + m) cap ∧ w.grownBy w' (some g)) → next (a.put dst v') w') :
    (⟨dst, .call ⟨.builtin .append, #[s, x], #[t, t]⟩, type, pos, after, guard⟩ : Oper).wp P a w next Q := by
  obtain ⟨v', w', hr, h2, h3⟩ := run_append_or (P := P) w base t type e i z size bytes ht hi hz hsize hby hzs hsz v n xs hown ad m c news hl hnews h1 h63 hbytes hbase hm0
  unfold Oper.wp execOp
  simp only [resolve, invoke, builtin, Sem.run_bind, Sem.run_pure, Result.andThen_ok, List.map_toArray, List.map_cons, List.map_nil, hs, hx, hr]
  exact h v' w' h2 h3
end
end Go.Proofs.Ytmlgfaojfmkdnaa.E
namespace Go.Proofs.Ytmlgfaojfmkdnaa.E
open Go Go.Proofs Go.Proofs.Ytmlgfaojfmkdnaa Go.RowKit
set_option maxRecDepth 100000
set_option maxHeartbeats 4000000
set_option linter.unusedVariables false
/-! reading what a generation holds -/
def cellsOf (l : List DFg) : List Value := l.flatMap fun f => [.int .i64 f.1, .int .i64 f.2.1]
theorem cellsOf_len (l : List DFg) : (cellsOf l).length = l.length * 2 := by
  induction l with
  | nil => rfl
  | cons x l ih => simp only [cellsOf, List.flatMap_cons, List.length_append, List.length_cons, List.length_nil] at ih ⊢; omega
theorem cellsOf_snoc (l : List DFg) (x : DFg) : cellsOf (l ++ [x]) = cellsOf l ++ [.int .i64 x.1, .int .i64 x.2.1] := by simp [cellsOf]
theorem cellsOf_get : ∀ (l : List DFg) (i : Nat) (y : DFg), l[i]? = some y → (cellsOf l)[i * 2]? = some (.int .i64 y.1) ∧ (cellsOf l)[i * 2 + 1]? = some (.int .i64 y.2.1)
  | [], i, y, h => by simp at h
  | x :: l, 0, y, h => by
    obtain rfl : x = y := by simpa using h
    exact ⟨rfl, rfl⟩
  | x :: l, i + 1, y, h => by
    have := cellsOf_get l i y (by simpa using h)
    have e1 : (i + 1) * 2 = (i * 2) + 2 := by omega
    rw [e1]
    simp only [cellsOf, List.flatMap_cons] at this ⊢
    rw [List.getElem?_append_right (by simp), List.getElem?_append_right (by simp)]
    simpa using this
theorem seg_two {l : List Value} {o : Nat} {a b : Value} (h1 : l[o]? = some a) (h2 : l[o + 1]? = some b) : seg l o 2 = [a, b] := by
  apply List.ext_getElem?
  intro j
  rw [seg_get]
  rcases j with _ | _ | j
  · simpa using h1
  · simpa using h2
  · rw [if_neg (by omega)]; simp
theorem rx_func {P : Program} {w : World} {S : Nat → Prop} (y : DFg) : RX P tq0 false w S [.int .i64 y.1, .int .i64 y.2.1] y := ⟨[.int .i64 y.1], [.int .i64 y.2.1], rfl, rfl, ⟨[.int .i64 y.2.1], [], rfl, rfl, rfl⟩⟩
theorem rx_row {P : Program} {w : World} {B : Nat} {v : Value} {now : List DFg} (h : w.ownsRow B 23 2 v now.length (cellsOf now)) : RX P (.sl tq0) false w (fun b => b < w.heap.size) [v] now := by
  rcases h.2 with ⟨rfl, h1⟩ | ⟨g, cap, cur, rfl, h2, h3, h4, h5, h6, h7⟩
  · have : now = [] := List.length_eq_zero_iff.1 h1
    subst this
    exact ⟨none, 0, 0, rfl, rfl, Nat.le_refl _, .inl rfl⟩
  · refine ⟨some ⟨g, 0, none⟩, now.length, cap, rfl, rfl, h4, .inr ⟨g, 0, cur, 23, (0, 0), rfl, (Array.getElem?_eq_some_iff.1 h3).1, h3, ?_, fun i y hy => ?_⟩⟩
    · have : (tq0).sz = 2 := rfl
      rw [this, h6]; omega
    · have hs : (tq0).sz = 2 := rfl
      rw [hs, Nat.zero_add]
      obtain ⟨c1, c2⟩ := cellsOf_get now i y hy
      have hi : i < now.length := (List.getElem?_eq_some_iff.1 hy).1
      have key : ∀ k, k < now.length * 2 → cur.toList[k]? = (cellsOf now)[k]? := fun k hk => by
        rw [← h7, List.getElem?_take, if_pos hk]
      rw [seg_two ((key (i * 2) (by omega)).trans c1) ((key (i * 2 + 1) (by omega)).trans c2)]
      exact rx_func y
theorem rx_dep {P : Program} {w : World} {D o L c : Nat} {tD : TypeId} {l : List Int} (hlc : L ≤ c) {S : Nat → Prop} (hS : S D) (h : DepW w D o L tD l) : RX P (.sl (.int .i64)) false w S [.slice (some ⟨D, o, none⟩) L c] l := by
  obtain ⟨arr, h1, h2, h3, h4⟩ := h
  refine ⟨some ⟨D, o, none⟩, L, c, rfl, h3.symm, hlc, .inr ⟨D, o, arr, tD, (0, 0), rfl, hS, h1, ?_, fun i y hy => ?_⟩⟩
  · have : (Ty.int .i64).sz = 1 := rfl
    rw [this]; omega
  · have hs : (Ty.int .i64).sz = 1 := rfl
    rw [hs, Nat.mul_one, seg_one (by rw [Array.getElem?_toList]; exact h4 i y hy)]
    rfl
theorem rx_gen {P : Program} {p : GnP} {w : World} {s : GSt} {S T : Nat → Prop} {list : List DFg} (hp : p.Ok) (hw : GnW p w s) (hl : RX P (.sl tq0) false w T [p.lv] list) (hT : ∀ b, T b → b < w.heap.size → S b) (hS : ∀ b, S b → b < w.heap.size) (hD : S p.D) :
    RX P tq1 false w S [p.lv, .int .i64 p.n, .slice (some ⟨p.D, p.o, none⟩) p.L p.c] (list, p.n, s.1, ()) :=
  ⟨[p.lv], _, rfl, RX_congr P (.sl tq0) false (Nat.le_refl _) (fun b h1 h2 => ⟨hT b h1 h2, rfl⟩) hS hl, [.int .i64 p.n], _, rfl, rfl, [.slice (some ⟨p.D, p.o, none⟩) p.L p.c], [], rfl, rx_dep hp.lc hD hw.hD, rfl⟩
theorem gcalls {f : Nat} {A R : Ty} {F : den A → Option (den R)} {mu : List Bool} {fn : Func} {c : Code} (h : FnOk Try.prog f ⟨A, mu, R, F⟩) (hm : mu.any id = false) (hf : Try.prog.funcs[f]? = some fn) (hname : (fn.name == "runtime.NumGoroutine") = false) (hb : fn.body = some c)
    (w : World) (vs : List Value) (x : den A) (y : den R) (hx : RX Try.prog A true w (fun b => b < w.heap.size) vs x) (hy : F x = some y) : Calls Try.prog f vs.toArray w fun e w' => ∃ v, e = .returned v ∧ Ret R y w v w' :=
  ((h.plain hm) w vs x y hx hy).calls hf hname hb
/-- the blocks that a generation reads and does not change -/
def GnP.S (p : GnP) (B : Nat) (b : Nat) : Prop := b < B ∧ b ≠ p.D ∧ b ≠ p.ab
/-- a box that is read as long as it lies -/
theorem rx_ptr {P : Program} {T : Ty} {w : World} {S : Nat → Prop} {b : Nat} {cs : List Value} {t : TypeId} {x : den T} (hb : w.heap[b]? = some (.cells cs.toArray t (0, 0))) (hS : S b) (hx : RX P T false w S cs x) : RX P (.ptr T) false w S [.pointer (some ⟨b, 0, none⟩)] x := by
  have hl := RX_len P T w S cs x hx
  refine ⟨b, 0, cs.toArray, t, (0, 0), rfl, hS, hb, by simp [hl], ?_⟩
  have e1 : seg cs.toArray.toList 0 T.sz = cs := by simp [seg, ← hl]
  rw [e1]; exact hx
theorem put_calls (K : Nat) {w : World} {B : Nat} {v : Value} {now : List DFg} (h : w.ownsRow B 23 2 v now.length (cellsOf now)) (f : DFg) (n : Int) (y : DFg) (hy : i_Func_put K (f, n, now, ()) = some y) :
    Calls Try.prog 78 #[.agg #[.int .i64 f.1, .int .i64 f.2.1], .int .i64 n, v] w fun e w' => e = .returned (.agg #[.int .i64 y.1, .int .i64 y.2.1]) ∧ Below w.heap.size w w' := by
  refine (gcalls (ok_i_Func_put K) rfl Try.func78 (by kernel_rfl) (c := bodyOf Try.f78) (by kernel_rfl) w [.agg #[.int .i64 f.1, .int .i64 f.2.1], .int .i64 n, v] (f, n, now, ()) y ?_ hy).mono ?_
  · exact ⟨[.int .i64 f.1, .int .i64 f.2.1], [.int .i64 n, v], rfl, rx_func f, [.int .i64 n], [v], rfl, rfl, [v], [], rfl, rx_row h, rfl⟩
  · rintro e w' ⟨v, rfl, bs, ⟨cs, h0, h1⟩, h3, h4, h5⟩
    refine ⟨?_, h5⟩
    obtain ⟨c1, c2, b1, b2, rfl, rfl, ⟨rfl, _⟩, c3, c4, b3, b4, rfl, rfl, ⟨rfl, _⟩, rfl, _⟩ := h1
    cases h0
    rfl
theorem new_calls (K : Nat) (p : GnP) (hp : p.Ok) {w : World} {B : Nat} {v : Value} {now list : List DFg} {s : GSt} {b6 b10 : Nat} {fzn : Bool} (hw : GnW p w s) (hl : RX Try.prog (.sl tq0) false w (p.S B) [p.lv] list) (hB : B ≤ w.heap.size) (h : w.ownsRow B 23 2 v now.length (cellsOf now))
    (h6 : w.heap[b6]? = some (.cells #[.pointer (some ⟨p.G, 0, none⟩)] 109 (0, 0))) (h10 : w.heap[b10]? = some (.cells #[.int .i64 p.depth] 2 (0, 0)))
    (hy : slices_ContainsFunc_impl_Func K (now, (fun y => i_generated_steps_c1 K (y.1, (list, p.n, s.1, ()), p.depth, ())), ()) = some fzn) :
    Calls Try.prog 84 #[v, .func (.func 148) #[] #[.pointer (some ⟨b6, 0, none⟩), .pointer (some ⟨b10, 0, none⟩)]] w fun e w' => e = .returned (.bool fzn) ∧ Below w.heap.size w w' := by
  refine (gcalls (ok_slices_ContainsFunc_impl_Func K) rfl Try.func84 (by kernel_rfl) (c := bodyOf Try.f84) (by kernel_rfl) w [v, .func (.func 148) #[] #[.pointer (some ⟨b6, 0, none⟩), .pointer (some ⟨b10, 0, none⟩)]] (now, _, ()) fzn ?_ hy).mono ?_
  · refine ⟨[v], [.func (.func 148) #[] #[.pointer (some ⟨b6, 0, none⟩), .pointer (some ⟨b10, 0, none⟩)]], rfl, rx_row h, [.func (.func 148) #[] #[.pointer (some ⟨b6, 0, none⟩), .pointer (some ⟨b10, 0, none⟩)]], [], rfl, ?_, rfl⟩
    refine ⟨148, #[], #[.pointer (some ⟨b6, 0, none⟩), .pointer (some ⟨b10, 0, none⟩)], rfl, fun _ h => h, fun w' hsz hk vs x y hx hy => ?_⟩
    obtain ⟨c, r, rfl, hc, hr⟩ := hx
    have hr : r = [] := hr
    subst hr
    have hw' : GnW p w' s := hw.kept fun b hb => hk b (hw.lt b hb)
    have hl' : RX Try.prog (.sl tq0) false w' (p.S B) [p.lv] list := RX_congr _ (.sl tq0) false hsz (fun b h1 h2 => ⟨h1, hk b h2⟩) (fun b h1 => Nat.lt_of_lt_of_le h1.1 (Nat.le_trans hB hsz)) hl
    have l6 := (Array.getElem?_eq_some_iff.1 h6).1
    have l10 := (Array.getElem?_eq_some_iff.1 h10).1
    have k6 : w'.heap[b6]? = some (.cells [Value.pointer (some ⟨p.G, 0, none⟩)].toArray 109 (0, 0)) := (hk b6 l6).trans h6
    have k10 : w'.heap[b10]? = some (.cells [Value.int .i64 p.depth].toArray 2 (0, 0)) := (hk b10 l10).trans h10
    have hG := hw'.hG
    refine ((ok_i_generated_steps_c1 K).plain rfl) w' [valOf tq0 c, .pointer (some ⟨b6, 0, none⟩), .pointer (some ⟨b10, 0, none⟩)] (x.1, (list, p.n, s.1, ()), p.depth, ()) y ?_ hy
    refine ⟨c, _, rfl, hc, [.pointer (some ⟨b6, 0, none⟩)], [.pointer (some ⟨b10, 0, none⟩)], rfl, ?_, [.pointer (some ⟨b10, 0, none⟩)], [], rfl, ?_, rfl⟩
    · refine rx_ptr k6 (by show b6 < w'.heap.size; omega) (rx_ptr (cs := [p.lv, .int .i64 p.n, .slice (some ⟨p.D, p.o, none⟩) p.L p.c]) hG (hw'.lt _ (by simp)) ?_)
      exact rx_gen hp hw' hl' (fun b _ h => h) (fun _ h => h) (hw'.lt _ (by simp))
    · exact rx_ptr k10 (by show b10 < w'.heap.size; omega) rfl
  · rintro e w' ⟨v, rfl, bs, ⟨cs, h0, h1, h2⟩, h3, h4, h5⟩
    have h1 : cs = [.bool fzn] := h1
    subst h1
    cases h0
    exact ⟨rfl, h5⟩
end Go.Proofs.Ytmlgfaojfmkdnaa.E
namespace Go.Proofs.Ytmlgfaojfmkdnaa.E
open Go Go.Proofs Go.Proofs.Ytmlgfaojfmkdnaa Go.RowKit
set_option maxRecDepth 100000
set_option maxHeartbeats 8000000
set_option linter.unusedVariables false
/-- the arguments of steps -/
def stepArgs (p : GnP) (f : DFg) (kv v : Value) : Array Value := #[.pointer (some ⟨p.G, 0, none⟩), .agg #[.int .i64 f.1, .int .i64 f.2.1], kv, v, .int .i64 p.depth, .func (.func 133) #[] #[.pointer (some ⟨p.gb, 0, none⟩), .pointer (some ⟨p.db, 0, none⟩), .pointer (some ⟨p.ab, 0, none⟩)]]
def StepsW (p : GnP) (B : Nat) (now : List DFg) (v : Value) (s' : GSt) (w : World) (e : Ending) (w' : World) : Prop := e = .returned (.bool true) ∧ GnW p w' s' ∧ w'.ownsRow B 23 2 v now.length (cellsOf now) ∧ Fr p v.ownBlock w w'
def StepsC (K : Nat) (p : GnP) (list : List DFg) (f : DFg) (known : List DFg) (kv : Value) (B m : Nat) : Prop := ∀ (now : List DFg) (v : Value) (w : World) (s s' : GSt), GnW p w s → RX Try.prog (.sl tq0) false w (p.S B) [p.lv] list → RX Try.prog (.sl tq0) false w (p.S B) [kv] known →
  w.ownsRow B 23 2 v now.length (cellsOf now) → B ≤ w.heap.size → stepsF K list p.n f known p.depth m now s = some s' → Calls Try.prog 132 (stepArgs p f kv v) w (StepsW p B now v s' w)
/-- the boxes of a call of steps -/
structure BoxW (p : GnP) (f : DFg) (w0 w : World) : Prop where
  h6 : w.heap[w0.heap.size]? = some (.cells #[.pointer (some ⟨p.G, 0, none⟩)] 109 (0, 0))
  h7 : w.heap[w0.heap.size + 1]? = some (.cells #[.int .i64 f.1, .int .i64 f.2.1] 23 (0, 0))
  h10 : w.heap[w0.heap.size + 1 + 1]? = some (.cells #[.int .i64 p.depth] 2 (0, 0))
theorem BoxW.cells {p : GnP} {f : DFg} {w0 w : World} (h : BoxW p f w0 w) : w.cell? ⟨w0.heap.size, 0, none⟩ = some (.pointer (some ⟨p.G, 0, none⟩)) ∧ w.cell? ⟨w0.heap.size + 1, 0, none⟩ = some (.int .i64 f.1) ∧ w.cell? ⟨w0.heap.size + 1, 1, none⟩ = some (.int .i64 f.2.1) ∧ w.cell? ⟨w0.heap.size + 1 + 1, 0, none⟩ = some (.int .i64 p.depth) :=
  ⟨by simp [World.cell?, h.h6], by simp [World.cell?, h.h7], by simp [World.cell?, h.h7], by simp [World.cell?, h.h10]⟩
theorem BoxW.made (p : GnP) (f : DFg) (w : World) : BoxW p f w (((w.alloc (.cells #[.pointer (some ⟨p.G, 0, none⟩)] 109)).alloc (.cells #[.int .i64 f.1, .int .i64 f.2.1] 23)).alloc (.cells #[.int .i64 p.depth] 2)) := by
  refine ⟨?_, ?_, ?_⟩
  · rw [alloc_get, if_neg (by simp; omega), alloc_get, if_neg (by simp), alloc_get, if_pos rfl]
  · rw [alloc_get, if_neg (by simp), alloc_get, if_pos (by simp)]
  · rw [alloc_get, if_pos (by simp)]
theorem BoxW.kept {p : GnP} {f : DFg} {w0 w w' : World} (h : BoxW p f w0 w) (hk : ∀ b, w0.heap.size ≤ b → b < w0.heap.size + 3 → w'.heap[b]? = w.heap[b]?) : BoxW p f w0 w' :=
  ⟨by rw [hk _ (by omega) (by omega)]; exact h.h6, by rw [hk _ (by omega) (by omega)]; exact h.h7, by rw [hk _ (by omega) (by omega)]; exact h.h10⟩
theorem made3_below (w : World) (o1 o2 o3 : Obj) : Below w.heap.size w (((w.alloc o1).alloc o2).alloc o3) := (((Below.refl _ w).alloc (Nat.le_refl _) o1).alloc (by simp) o2).alloc (by simp; omega) o3
/-- the slots of the region that calls put and each -/
def zl (p : GnP) (f y : DFg) (v : Value) : List (Nat × Value) := [(28, .bool true), (29, .bool false), (30, .bool false), (31, .func (.func 133) #[] #[.pointer (some ⟨p.gb, 0, none⟩), .pointer (some ⟨p.db, 0, none⟩), .pointer (some ⟨p.ab, 0, none⟩)]),
  (32, .agg #[.int .i64 f.1, .int .i64 f.2.1]), (33, .pointer (some ⟨p.G, 0, none⟩)), (34, .pointer (some ⟨p.G, 0, none⟩)), (35, .pointer (some ⟨p.G, 1, none⟩)), (36, .int .i64 p.n), (37, v), (38, .agg #[.int .i64 y.1, .int .i64 y.2.1]), (39, v), (40, .bool true), (41, .bool true), (12, .bool true)]
theorem zl_dst (p : GnP) (f y : DFg) (v : Value) : (zl p f y v).map (·.1) = [28, 29, 30, 31, 32, 33, 34, 35, 36, 37, 38, 39, 40, 41, 12] := rfl
theorem zl_nd (p : GnP) (f y : DFg) (v : Value) : ((zl p f y v).map (·.1)).Nodup := by rw [zl_dst]; decide
def ZJ (p : GnP) (f y : DFg) (v : Value) (s s' : GSt) (W2 : World) (a0 : Act) (L : Nat → Bool) (a : Act) (w : World) : Prop := a = ov L 0 (zl p f y v) a0 ∧ GnW p w (if L 12 = true then s' else s) ∧ Fr p none W2 w
theorem ZJ.quiet {p : GnP} {f y : DFg} {v : Value} {s s' : GSt} {W2 : World} {a0 : Act} {L : Nat → Bool} {w' : World} {k d : Nat} {x : Value} (hk : (zl p f y v)[k]? = some (d, x)) (hL : L k = false) (hk12 : k ≠ 12) (hg : GnW p w' (if L 12 = true then s' else s)) (hf : Fr p none W2 w') :
    ZJ p f y v s s' W2 a0 (fun j => j == k || L j) ((ov L 0 (zl p f y v) a0).put (some d) x) w' := by
  have e : (12 == k) = false := by rw [beq_eq_false_iff_ne]; omega
  refine ⟨?_, ?_, hf⟩
  · rw [ov_put (zl p f y v) 0 k a0 (zl_nd ..) hk (by rw [Nat.zero_add]; exact hL), Nat.zero_add]
  · simp only [e, Bool.false_or]; exact hg
theorem steps_zero (K : Nat) (p : GnP) (hp : p.Ok) (list : List DFg) (f : DFg) (known : List DFg) (kv : Value) (B m : Nat) (now : List DFg) (v : Value) (w : World) (s s' : GSt) (hw : GnW p w s) (hl : RX Try.prog (.sl tq0) false w (p.S B) [p.lv] list)
    (hrow : w.ownsRow B 23 2 v now.length (cellsOf now)) (hB : B ≤ w.heap.size) (hPB : ∀ b, b = p.G ∨ b = p.gb ∨ b = p.db ∨ b = p.ab ∨ b = p.D → b < B) (hlen : (now.length : Int) = f.1)
    (h : ((isNewF K list p.n p.depth now s).bind fun b => if b = true then (i_Func_put K (f, p.n, now, ())).bind fun h => eachF p.depth h s else some s) = some s') : Calls Try.prog 132 (stepArgs p f kv v) w (StepsW p B now v s' w) := by
  unfold stepArgs
  have hlenv : ∃ a c, v = .slice a now.length c := by
    rcases hrow.2 with ⟨h1, h2⟩ | ⟨g, cap, cur, h1, _⟩
    · exact ⟨none, 0, by rw [h1, h2]⟩
    · exact ⟨_, _, h1⟩
  have hDB : p.D < B ∧ p.ab < B := ⟨hPB _ (by simp), hPB _ (by simp)⟩
  obtain ⟨va, vc, hv⟩ := hlenv
  obtain ⟨nb, hnb, h⟩ : ∃ nb, isNewF K list p.n p.depth now s = some nb ∧ (if nb = true then (i_Func_put K (f, p.n, now, ())).bind fun h => eachF p.depth h s else some s) = some s' := by
    cases hc : isNewF K list p.n p.depth now s with
    | none => rw [hc] at h; cases h
    | some nb => rw [hc] at h; exact ⟨nb, rfl, h⟩
  have hb1 := made3_below w (.cells #[.pointer (some ⟨p.G, 0, none⟩)] 109) (.cells #[.int .i64 f.1, .int .i64 f.2.1] 23) (.cells #[.int .i64 p.depth] 2)
  have hbx := BoxW.made p f w
  obtain ⟨W1, hW1⟩ : ∃ W1, W1 = (((w.alloc (.cells #[.pointer (some ⟨p.G, 0, none⟩)] 109)).alloc (.cells #[.int .i64 f.1, .int .i64 f.2.1] 23)).alloc (.cells #[.int .i64 p.depth] 2)) := ⟨_, rfl⟩
  rw [← hW1] at hb1 hbx
  have hs1 : W1.heap.size = w.heap.size + 1 + 1 + 1 := by rw [hW1]; simp
  have hw1 := hw.below hb1 (Nat.le_refl _)
  have hl1 : RX Try.prog (.sl tq0) false W1 (p.S B) [p.lv] list := RX_congr _ (.sl tq0) false hb1.size (fun b h1 h2 => ⟨h1, hb1.block b h2⟩) (fun b h1 => Nat.lt_of_lt_of_le h1.1 (Nat.le_trans hB hb1.size)) hl
  have hrow1 : W1.ownsRow B 23 2 v now.length (cellsOf now) := hrow.kept (row := none) ⟨hb1.os, hb1.tape, hb1.output, hb1.size, fun k hk _ => hb1.block k hk⟩ (by cases v.ownBlock <;> simp)
  -- what stands ahead of the third region, and the test of what is new
  have hnew : p.depth ≠ 1 → Calls Try.prog 84 #[v, .func (.func 148) #[] #[.pointer (some ⟨w.heap.size, 0, none⟩), .pointer (some ⟨w.heap.size + 1 + 1, 0, none⟩)]] W1 fun e w' => e = .returned (.bool nb) ∧ Below W1.heap.size W1 w' := fun hd => by
    unfold isNewF at hnb
    rw [if_neg hd] at hnb
    exact new_calls K p hp hw1 hl1 (Nat.le_trans hB hb1.size) hrow1 hbx.h6 hbx.h10 hnb
  have hnd : p.depth = 1 → nb = true := fun hd => by
    unfold isNewF at hnb
    rw [if_pos hd] at hnb
    injection hnb with hnb; exact hnb.symm
  obtain ⟨c6, c7, c8, c10⟩ := hbx.cells
  have e1 : ((now.length : Int) == f.1) = true := by rw [beq_iff_eq]; exact hlen
  have A0 : Aside (BoxW p f w W1) := hbx
  have A1 : Aside (nb = true → ∃ y, i_Func_put K (f, p.n, now, ()) = some y ∧ eachF p.depth y s = some s') := fun hn => by
    rw [if_pos hn] at h
    cases hc : i_Func_put K (f, p.n, now, ()) with
    | none => rw [hc] at h; cases h
    | some y => rw [hc] at h; exact ⟨y, rfl, h⟩
  have A2 : Aside (nb = false → s' = s) := fun hn => by
    rw [if_neg (by rw [hn]; decide)] at h
    injection h with h; exact h.symm
  have A3 : Aside (Below w.heap.size w W1) := hb1
  have A4 : Aside (W1.heap.size = w.heap.size + 1 + 1 + 1) := hs1
  have A5 : Aside (W1.ownsRow B 23 2 v now.length (cellsOf now)) := hrow1
  have A6 : Aside (GnW p W1 s) := hw1
  clear hbx h hlen hb1 hs1 hnb
  subst hv
  subst hW1
  have hcases : p.depth = 1 ∧ nb = true ∨ p.depth ≠ 1 ∧ nb = true ∨ p.depth ≠ 1 ∧ nb = false := by
    by_cases hd : p.depth = 1
    · exact Or.inl ⟨hd, hnd hd⟩
    · cases nb
      · exact Or.inr (Or.inr ⟨hd, rfl⟩)
      · exact Or.inr (Or.inl ⟨hd, rfl⟩)
  clear hnd
  rcases hcases with ⟨hd, rfl⟩ | ⟨hd, rfl⟩ | ⟨hd, rfl⟩
  · have e2 : (p.depth == 1) = true := by rw [beq_iff_eq]; exact hd
    clear hd hnew
    obtain ⟨y, A7⟩ : ∃ y, Aside (i_Func_put K (f, p.n, now, ()) = some y ∧ eachF p.depth y s = some s') := (show true = true → _ from A1) rfl
    go_enter Try.func132, Try.ntmps132
    go_wp2
    have A8 : Aside (∀ b, b = p.D ∨ b = p.ab → b < w.heap.size) := fun b hb => hw.lt b (by rcases hb with h | h <;> simp [h])
    have T2 : Aside (GnW p _ s ∧ BoxW p f w _ ∧ World.ownsRow _ B 23 2 _ now.length (cellsOf now) ∧ Below w.heap.size w _) := ⟨A6, A0, A5, A3⟩
    clear c6 c7 c8 c10 A0 A3 A4 A5 A6 A1 A2 hl1 hw1 hrow1 hl hrow hw
    generalize (((w.alloc (.cells #[.pointer (some ⟨p.G, 0, none⟩)] 109)).alloc (.cells #[.int .i64 f.1, .int .i64 f.2.1] 23)).alloc (.cells #[.int .i64 p.depth] 2)) = W2 at *
    obtain ⟨hg2, hbx2, hrow2, hb2⟩ := (show GnW p W2 s ∧ BoxW p f w W2 ∧ W2.ownsRow B 23 2 _ now.length (cellsOf now) ∧ Below w.heap.size w W2 from T2)
    refine region_inv (ZJ p f y (.slice va now.length vc) s s' W2) (by kernel_rfl) (by kernel_rfl) ⟨rfl, hg2.kept (fun b _ => rfl), ⟨rfl, rfl, rfl, Nat.le_refl _, fun _ _ _ _ _ => rfl⟩⟩ ?_ ?_
    · intro L a2 w2 i o ho hL hes hJ
      obtain ⟨rfl, hg, hf⟩ := hJ
      have hi : i < 15 := (Array.getElem?_eq_some_iff.1 ho).1
      have hbx3 : BoxW p f w w2 := hbx2.kept fun b h1 h2 => hf.block b (by have := (Array.getElem?_eq_some_iff.1 hbx2.h10).1; omega) (fun e => by have := (show ∀ b, b = p.D ∨ b = p.ab → b < w.heap.size from A8) b (Or.inl e); omega) (fun e => by have := (show ∀ b, b = p.D ∨ b = p.ab → b < w.heap.size from A8) b (Or.inr e); omega) (by simp)
      have hrow3 : w2.ownsRow B 23 2 (.slice va now.length vc) now.length (cellsOf now) := row_kept hrow2 fun b h1 h2 _ => hf.block b h2 (by have := hDB.1; omega) (by have := hDB.2; omega) (by simp)
      have hcs : i = 0 ∨ i = 1 ∨ i = 2 ∨ i = 3 ∨ i = 4 ∨ i = 5 ∨ i = 6 ∨ i = 7 ∨ i = 8 ∨ i = 9 ∨ i = 10 ∨ i = 11 ∨ i = 12 ∨ i = 13 ∨ i = 14 := by omega
      rcases hcs with rfl | rfl | rfl | rfl | rfl | rfl | rfl | rfl | rfl | rfl | rfl | rfl | rfl | rfl | rfl
      all_goals simp only [List.getElem?_toArray, List.getElem?_cons_succ, List.getElem?_cons_zero, Option.some.injEq] at ho
      all_goals subst ho
      · exact wpOp_mk rfl rfl (op_move (ov_eval_out _ _ _ (by rw [zl_dst]; decide)) (ZJ.quiet rfl hL (by decide) hg hf))
      · exact wpOp_mk rfl rfl (op_not (ov_eval _ 0 0 _ (zl_nd ..) rfl (hes 0 (by decide)) (by simp)) (ZJ.quiet rfl hL (by decide) hg hf))
      · exact wpOp_mk rfl rfl (op_move (ov_eval _ 0 1 _ (zl_nd ..) rfl (hes 1 (by decide)) (by simp)) (ZJ.quiet rfl hL (by decide) hg hf))
      · exact wpOp_mk rfl (wanted_of (d := 30) rfl rfl rfl (ov_eval _ 0 2 _ (zl_nd ..) rfl (hes 2 (by decide)) (by simp))) (op_move (ov_eval_out _ _ _ (by rw [zl_dst]; decide)) (ZJ.quiet rfl hL (by decide) hg hf))
      · exact wpOp_mk rfl (wanted_of (d := 30) rfl rfl rfl (ov_eval _ 0 2 _ (zl_nd ..) rfl (hes 2 (by decide)) (by simp))) (op_load (tysOk 23 tq0 rfl) (ov_eval_out _ _ _ (by rw [zl_dst]; decide)) hbx3.h7 (show 2 ≤ 2 from Nat.le_refl 2) rfl (ZJ.quiet rfl hL (by decide) hg hf))
      · exact wpOp_mk rfl (wanted_of (d := 30) rfl rfl rfl (ov_eval _ 0 2 _ (zl_nd ..) rfl (hes 2 (by decide)) (by simp))) (op_load (tysOk 109 (.ptr tq1) rfl) (ov_eval_out _ _ _ (by rw [zl_dst]; decide)) hbx3.h6 (show 1 ≤ 1 from Nat.le_refl 1) rfl (ZJ.quiet rfl hL (by decide) hg hf))
      · exact wpOp_mk rfl (wanted_of (d := 30) rfl rfl rfl (ov_eval _ 0 2 _ (zl_nd ..) rfl (hes 2 (by decide)) (by simp))) (op_nil (ov_eval _ 0 5 _ (zl_nd ..) rfl (hes 5 (by decide)) (by simp)) (ZJ.quiet rfl hL (by decide) hg hf))
      · exact wpOp_mk rfl (wanted_of (d := 30) rfl rfl rfl (ov_eval _ 0 2 _ (zl_nd ..) rfl (hes 2 (by decide)) (by simp))) (op_field tysOk (t := 149) (n := 1) rfl (by decide) (by decide) (ov_eval _ 0 6 _ (zl_nd ..) rfl (hes 6 (by decide)) (by simp)) (ZJ.quiet rfl hL (by decide) hg hf))
      · exact wpOp_mk rfl (wanted_of (d := 30) rfl rfl rfl (ov_eval _ 0 2 _ (zl_nd ..) rfl (hes 2 (by decide)) (by simp))) (op_load (tysOk 2 (.int .i64) rfl) (ov_eval _ 0 7 _ (zl_nd ..) rfl (hes 7 (by decide)) (by simp)) hg.hG (show 2 ≤ 3 by decide) rfl (ZJ.quiet rfl hL (by decide) hg hf))
      · exact wpOp_mk rfl (wanted_of (d := 30) rfl rfl rfl (ov_eval _ 0 2 _ (zl_nd ..) rfl (hes 2 (by decide)) (by simp))) (op_move (ov_eval_out _ _ _ (by rw [zl_dst]; decide)) (ZJ.quiet rfl hL (by decide) hg hf))
      · refine wpOp_mk rfl (wanted_of (d := 30) rfl rfl rfl (ov_eval _ 0 2 _ (zl_nd ..) rfl (hes 2 (by decide)) (by simp))) (op_call (fi := #[]) (ca := #[]) rfl ?_ Try.func78 (by kernel_rfl) (c := bodyOf Try.f78) (by kernel_rfl) (put_calls K hrow3 f p.n y A7.1) ?_)
        · exact args3 (ov_eval _ 0 4 _ (zl_nd ..) rfl (hes 4 (by decide)) (by simp)) (ov_eval _ 0 8 _ (zl_nd ..) rfl (hes 8 (by decide)) (by simp)) (ov_eval _ 0 9 _ (zl_nd ..) rfl (hes 9 (by decide)) (by simp))
        · rintro e w4 ⟨rfl, hb4⟩
          refine ⟨_, rfl, ZJ.quiet rfl hL (by decide) (hg.below hb4 (Nat.le_refl _)) (hf.trans (Fr.below hb4))⟩
      · exact wpOp_mk rfl (wanted_of (d := 30) rfl rfl rfl (ov_eval _ 0 2 _ (zl_nd ..) rfl (hes 2 (by decide)) (by simp))) (op_move (ov_eval_out _ _ _ (by rw [zl_dst]; decide)) (ZJ.quiet rfl hL (by decide) hg hf))
      · refine wpOp_mk rfl (wanted_of (d := 30) rfl rfl rfl (ov_eval _ 0 2 _ (zl_nd ..) rfl (hes 2 (by decide)) (by simp))) (op_call (ov_eval _ 0 3 _ (zl_nd ..) rfl (hes 3 (by decide)) (by simp)) (args2 (ov_eval _ 0 10 _ (zl_nd ..) rfl (hes 10 (by decide)) (by simp)) (ov_eval _ 0 11 _ (zl_nd ..) rfl (hes 11 (by decide)) (by simp))) Try.func133 (by kernel_rfl) (c := bodyOf Try.f133) (by kernel_rfl) (each_calls p hp w2 y.1 y.2.1 _ s s' (by rw [if_neg (by rw [hL]; decide)] at hg; exact hg) A7.2) ?_)
        rintro e w4 ⟨rfl, hg4, hf4⟩
        exact ⟨_, rfl, (ov_put _ 0 12 _ (zl_nd ..) rfl hL).trans rfl, by simpa using hg4, hf.trans hf4⟩
      · exact wpOp_mk rfl rfl (op_pick (ov_eval _ 0 2 _ (zl_nd ..) rfl (hes 2 (by decide)) (by simp)) ((if_neg (by decide)).trans (ov_eval _ 0 12 _ (zl_nd ..) rfl (hes 12 (by decide)) (by simp))) (ZJ.quiet rfl hL (by decide) hg hf))
      · exact wpOp_mk rfl rfl (op_assign (ov_eval _ 0 13 _ (zl_nd ..) rfl (hes 13 (by decide)) (by simp)) (ZJ.quiet rfl hL (by decide) hg hf))
    · intro L a2 w2 hall hJ
      obtain ⟨rfl, hg, hf⟩ := hJ
      rw [ov_congr (M := fun _ => true) (zl p f y (.slice va now.length vc)) 0 _ (fun j _ h2 => hall j (by simpa [zl] using h2))]
      rw [if_pos (hall 12 (by decide))] at hg
      simp only [ov, zl, pif, cond_true, Act.put, List.setIfInBounds_toArray, List.set_cons_succ, List.set_cons_zero]
      go_wp2
      go_ret
      exact ⟨rfl, hg, row_kept hrow2 fun b h1 h2 _ => hf.block b h2 (by have := hDB.1; omega) (by have := hDB.2; omega) (by simp), (Fr.below hb2).trans hf.weak⟩
  · have e2 : (p.depth == 1) = false := by rw [beq_eq_false_iff_ne]; exact hd
    have hnew := hnew hd
    clear hd
    obtain ⟨y, A7⟩ : ∃ y, Aside (i_Func_put K (f, p.n, now, ()) = some y ∧ eachF p.depth y s = some s') := (show true = true → _ from A1) rfl
    go_enter Try.func132, Try.ntmps132
    go_wp2_with (first
      | (go_at_call 84; refine hnew.mono ?_; rintro e W2 ⟨rfl, hbe2⟩)
      | go_in)
    have A8 : Aside (∀ b, b = p.D ∨ b = p.ab → b < w.heap.size) := fun b hb => hw.lt b (by rcases hb with h | h <;> simp [h])
    have T2 : Aside (GnW p W2 s ∧ BoxW p f w W2 ∧ W2.ownsRow B 23 2 (.slice va now.length vc) now.length (cellsOf now) ∧ Below w.heap.size w W2) :=
      ⟨GnW.below A6 hbe2 (Nat.le_refl _), BoxW.kept A0 fun b _ h2 => hbe2.block b (by simp; omega), row_kept A5 fun b _ h2 _ => hbe2.block b h2, Below.trans A3 (hbe2.mono (by simp; omega))⟩
    clear c6 c7 c8 c10 A0 A3 A4 A5 A6 A1 A2 hl1 hw1 hrow1 hl hrow hw
    obtain ⟨hg2, hbx2, hrow2, hb2⟩ := (show GnW p W2 s ∧ BoxW p f w W2 ∧ W2.ownsRow B 23 2 _ now.length (cellsOf now) ∧ Below w.heap.size w W2 from T2)
    refine region_inv (ZJ p f y (.slice va now.length vc) s s' W2) (by kernel_rfl) (by kernel_rfl) ⟨rfl, hg2.kept (fun b _ => rfl), ⟨rfl, rfl, rfl, Nat.le_refl _, fun _ _ _ _ _ => rfl⟩⟩ ?_ ?_
    · intro L a2 w2 i o ho hL hes hJ
      obtain ⟨rfl, hg, hf⟩ := hJ
      have hi : i < 15 := (Array.getElem?_eq_some_iff.1 ho).1
      have hbx3 : BoxW p f w w2 := hbx2.kept fun b h1 h2 => hf.block b (by have := (Array.getElem?_eq_some_iff.1 hbx2.h10).1; omega) (fun e => by have := (show ∀ b, b = p.D ∨ b = p.ab → b < w.heap.size from A8) b (Or.inl e); omega) (fun e => by have := (show ∀ b, b = p.D ∨ b = p.ab → b < w.heap.size from A8) b (Or.inr e); omega) (by simp)
      have hrow3 : w2.ownsRow B 23 2 (.slice va now.length vc) now.length (cellsOf now) := row_kept hrow2 fun b h1 h2 _ => hf.block b h2 (by have := hDB.1; omega) (by have := hDB.2; omega) (by simp)
      have hcs : i = 0 ∨ i = 1 ∨ i = 2 ∨ i = 3 ∨ i = 4 ∨ i = 5 ∨ i = 6 ∨ i = 7 ∨ i = 8 ∨ i = 9 ∨ i = 10 ∨ i = 11 ∨ i = 12 ∨ i = 13 ∨ i = 14 := by omega
      rcases hcs with rfl | rfl | rfl | rfl | rfl | rfl | rfl | rfl | rfl | rfl | rfl | rfl | rfl | rfl | rfl
      all_goals simp only [List.getElem?_toArray, List.getElem?_cons_succ, List.getElem?_cons_zero, Option.some.injEq] at ho
      all_goals subst ho
      · exact wpOp_mk rfl rfl (op_move (ov_eval_out _ _ _ (by rw [zl_dst]; decide)) (ZJ.quiet rfl hL (by decide) hg hf))
      · exact wpOp_mk rfl rfl (op_not (ov_eval _ 0 0 _ (zl_nd ..) rfl (hes 0 (by decide)) (by simp)) (ZJ.quiet rfl hL (by decide) hg hf))
      · exact wpOp_mk rfl rfl (op_move (ov_eval _ 0 1 _ (zl_nd ..) rfl (hes 1 (by decide)) (by simp)) (ZJ.quiet rfl hL (by decide) hg hf))
      · exact wpOp_mk rfl (wanted_of (d := 30) rfl rfl rfl (ov_eval _ 0 2 _ (zl_nd ..) rfl (hes 2 (by decide)) (by simp))) (op_move (ov_eval_out _ _ _ (by rw [zl_dst]; decide)) (ZJ.quiet rfl hL (by decide) hg hf))
      · exact wpOp_mk rfl (wanted_of (d := 30) rfl rfl rfl (ov_eval _ 0 2 _ (zl_nd ..) rfl (hes 2 (by decide)) (by simp))) (op_load (tysOk 23 tq0 rfl) (ov_eval_out _ _ _ (by rw [zl_dst]; decide)) hbx3.h7 (show 2 ≤ 2 from Nat.le_refl 2) rfl (ZJ.quiet rfl hL (by decide) hg hf))
      · exact wpOp_mk rfl (wanted_of (d := 30) rfl rfl rfl (ov_eval _ 0 2 _ (zl_nd ..) rfl (hes 2 (by decide)) (by simp))) (op_load (tysOk 109 (.ptr tq1) rfl) (ov_eval_out _ _ _ (by rw [zl_dst]; decide)) hbx3.h6 (show 1 ≤ 1 from Nat.le_refl 1) rfl (ZJ.quiet rfl hL (by decide) hg hf))
      · exact wpOp_mk rfl (wanted_of (d := 30) rfl rfl rfl (ov_eval _ 0 2 _ (zl_nd ..) rfl (hes 2 (by decide)) (by simp))) (op_nil (ov_eval _ 0 5 _ (zl_nd ..) rfl (hes 5 (by decide)) (by simp)) (ZJ.quiet rfl hL (by decide) hg hf))
      · exact wpOp_mk rfl (wanted_of (d := 30) rfl rfl rfl (ov_eval _ 0 2 _ (zl_nd ..) rfl (hes 2 (by decide)) (by simp))) (op_field tysOk (t := 149) (n := 1) rfl (by decide) (by decide) (ov_eval _ 0 6 _ (zl_nd ..) rfl (hes 6 (by decide)) (by simp)) (ZJ.quiet rfl hL (by decide) hg hf))
      · exact wpOp_mk rfl (wanted_of (d := 30) rfl rfl rfl (ov_eval _ 0 2 _ (zl_nd ..) rfl (hes 2 (by decide)) (by simp))) (op_load (tysOk 2 (.int .i64) rfl) (ov_eval _ 0 7 _ (zl_nd ..) rfl (hes 7 (by decide)) (by simp)) hg.hG (show 2 ≤ 3 by decide) rfl (ZJ.quiet rfl hL (by decide) hg hf))
      · exact wpOp_mk rfl (wanted_of (d := 30) rfl rfl rfl (ov_eval _ 0 2 _ (zl_nd ..) rfl (hes 2 (by decide)) (by simp))) (op_move (ov_eval_out _ _ _ (by rw [zl_dst]; decide)) (ZJ.quiet rfl hL (by decide) hg hf))
      · refine wpOp_mk rfl (wanted_of (d := 30) rfl rfl rfl (ov_eval _ 0 2 _ (zl_nd ..) rfl (hes 2 (by decide)) (by simp))) (op_call (fi := #[]) (ca := #[]) rfl ?_ Try.func78 (by kernel_rfl) (c := bodyOf Try.f78) (by kernel_rfl) (put_calls K hrow3 f p.n y A7.1) ?_)
        · exact args3 (ov_eval _ 0 4 _ (zl_nd ..) rfl (hes 4 (by decide)) (by simp)) (ov_eval _ 0 8 _ (zl_nd ..) rfl (hes 8 (by decide)) (by simp)) (ov_eval _ 0 9 _ (zl_nd ..) rfl (hes 9 (by decide)) (by simp))
        · rintro e w4 ⟨rfl, hb4⟩
          refine ⟨_, rfl, ZJ.quiet rfl hL (by decide) (hg.below hb4 (Nat.le_refl _)) (hf.trans (Fr.below hb4))⟩
      · exact wpOp_mk rfl (wanted_of (d := 30) rfl rfl rfl (ov_eval _ 0 2 _ (zl_nd ..) rfl (hes 2 (by decide)) (by simp))) (op_move (ov_eval_out _ _ _ (by rw [zl_dst]; decide)) (ZJ.quiet rfl hL (by decide) hg hf))
      · refine wpOp_mk rfl (wanted_of (d := 30) rfl rfl rfl (ov_eval _ 0 2 _ (zl_nd ..) rfl (hes 2 (by decide)) (by simp))) (op_call (ov_eval _ 0 3 _ (zl_nd ..) rfl (hes 3 (by decide)) (by simp)) (args2 (ov_eval _ 0 10 _ (zl_nd ..) rfl (hes 10 (by decide)) (by simp)) (ov_eval _ 0 11 _ (zl_nd ..) rfl (hes 11 (by decide)) (by simp))) Try.func133 (by kernel_rfl) (c := bodyOf Try.f133) (by kernel_rfl) (each_calls p hp w2 y.1 y.2.1 _ s s' (by rw [if_neg (by rw [hL]; decide)] at hg; exact hg) A7.2) ?_)
        rintro e w4 ⟨rfl, hg4, hf4⟩
        exact ⟨_, rfl, (ov_put _ 0 12 _ (zl_nd ..) rfl hL).trans rfl, by simpa using hg4, hf.trans hf4⟩
      · exact wpOp_mk rfl rfl (op_pick (ov_eval _ 0 2 _ (zl_nd ..) rfl (hes 2 (by decide)) (by simp)) ((if_neg (by decide)).trans (ov_eval _ 0 12 _ (zl_nd ..) rfl (hes 12 (by decide)) (by simp))) (ZJ.quiet rfl hL (by decide) hg hf))
      · exact wpOp_mk rfl rfl (op_assign (ov_eval _ 0 13 _ (zl_nd ..) rfl (hes 13 (by decide)) (by simp)) (ZJ.quiet rfl hL (by decide) hg hf))
    · intro L a2 w2 hall hJ
      obtain ⟨rfl, hg, hf⟩ := hJ
      rw [ov_congr (M := fun _ => true) (zl p f y (.slice va now.length vc)) 0 _ (fun j _ h2 => hall j (by simpa [zl] using h2))]
      rw [if_pos (hall 12 (by decide))] at hg
      simp only [ov, zl, pif, cond_true, Act.put, List.setIfInBounds_toArray, List.set_cons_succ, List.set_cons_zero]
      go_wp2
      go_ret
      exact ⟨rfl, hg, row_kept hrow2 fun b h1 h2 _ => hf.block b h2 (by have := hDB.1; omega) (by have := hDB.2; omega) (by simp), (Fr.below hb2).trans hf.weak⟩
  · have e2 : (p.depth == 1) = false := by rw [beq_eq_false_iff_ne]; exact hd
    have hnew := hnew hd
    clear hd
    go_enter Try.func132, Try.ntmps132
    go_wp2_with (first
      | (go_at_call 84; refine hnew.mono ?_; rintro e W2 ⟨rfl, hbe2⟩)
      | go_in)
    go_quiet (fail)
    go_wp2
    go_ret
    have hz : s' = s := (show True → s' = s from A2) trivial
    subst hz
    exact ⟨rfl, (GnW.below A6 hbe2 (Nat.le_refl _)).kept fun b _ => rfl, row_kept (row_kept A5 fun b _ h2 _ => hbe2.block b h2) fun b _ _ _ => rfl, (Fr.below (Below.trans A3 (hbe2.mono (by simp; omega)))).trans ⟨rfl, rfl, rfl, Nat.le_refl _, fun _ _ _ _ _ => rfl⟩⟩
end Go.Proofs.Ytmlgfaojfmkdnaa.E
