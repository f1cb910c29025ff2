/-
  Contracts of slices.Clone over any element that leads to no memory, and of the library's search for a byte. Conditions: those of each theorem.
-/
import Derived.Test.YtpohjacoemoijaaCFnRelationParts4
namespace Go.Proofs.Ytpohjacoemoijaa.E
open Go Go.RowKit Go.Shelf
set_option linter.unusedVariables false
set_option linter.unusedSimpArgs false
theorem cellAt {w : World} {b o : Nat} {arr : Array Value} {t : TypeId} {fz : Nat × Nat} (h : w.heap[b]? = some (.cells arr t fz)) (j : Nat) : w.cell? ⟨b, o + j, none⟩ = arr[o + j]? := by
  simp [World.cell?, h]
set_option maxHeartbeats 2000000 in
set_option maxRecDepth 100000 in
/-- slices.Clone of a slice that is not nil, whatever its address. -/
theorem clone_calls {P : Program} {ρ : Ren} (L : SlLaysE0.n41 P ρ) (i0 : TypeInfo) (z : Value) (size bytes : Nat) (hi : P.info? (ρ.t 23) = some i0) (hz0 : i0.zero = some z) (hz1 : i0.size = size) (hz2 : i0.bytes = bytes) (hzs : z.cells.size = size) (hsz : 0 < size)
    (z23 : ∀ w, (Go.sizeOf (ρ.t 23)).run P w = .ok size w) (a : Addr) (n c : Nat) (news : List Value) (w : World) (hl : news.length = n * size) (hn : n ≤ maxLen) (hbig : n * bytes ≤ 140737488355328)
    (hc : ∀ j u, news[j]? = some u → w.cell? (a.add j) = some u) (h1 : ∀ u ∈ news, u.oneCell' = true) :
    Calls P (ρ.f 41) #[.slice (some a) n c] w fun e w' => ∃ v', e = .returned v' ∧ w'.ownsRow w.heap.size (ρ.t 23) size v' n news ∧ Below w.heap.size w w' := by
  have mixed := L.mixed; have t4 := L.t4; have a4 := L.a4; have z4 := L.z4; have v4 := L.v4; have t22 := L.t22; have a22 := L.a22; have z22 := L.z22; have v22 := L.v22
  have q22 : ∀ (w : World) (a : Option Addr) (n c n' c' : Nat), (binOp .eql (ρ.t 22) (.slice a n c) (.slice none n' c')).run P w = .ok (.bool a.isNone) w := fun w a n c n' c' => Lib.run_eql_slice_nil w _ _ a n c n' c' L.t22
  have u22 : ∀ w, Sem.run P (underlying (ρ.t 22)) w = .ok (TypeDesc.slice (ρ.t 23)) w := run_underlying t22
  have A : Aside (∀ j u, news[j]? = some u → w.cell? (a.add j) = some u) := hc
  clear hc
  obtain ⟨_, _, FG⟩ := L.f41
  go_enter FG, SlBodyN.n41_ntmps ρ
  go_wp2_with (at_builtin; refine wpList_append_own _ rfl _ _ (ρ.t 22) rfl w.heap.size (ρ.t 23) i0 z size bytes t22 hi hz0 hz1 hz2 hzs hsz _ _ _ rfl (World.ownsRow_made w #[] 0 (Nat.le_refl _) (Nat.zero_le _) (by simp)) a n c news rfl ?qc1 ?qc2 ?qc3 ?qc4 ?qc5 ?qc6 ?_)
  case qc1 => exact hl
  case qc2 =>
    intro j u hj
    exact Lib.cell?_alloc_some _ (A.out j u hj)
  case qc3 => exact h1
  case qc4 => rw [Nat.zero_add]; exact hn
  case qc5 => rw [Nat.zero_add]; exact hbig
  case qc6 => simp
  intro v' w1 hown hgrow hnil
  go_wp2
  go_ret
  refine ⟨v', rfl, by simpa using hown, ?_⟩
  exact ((Below.refl _ w).alloc (Nat.le_refl _) _).grown hgrow (by simp) (by intro k hk; simp [Value.ownBlock] at hk; omega)
theorem clone_ok {P : Program} {ρ : Ren} (L : SlLaysE0.n41 P ρ) {ty : Nat → Option Ty} {e : Ty} (ht : TyOk P ty (ρ.t 23) e) (hm : e.mem = false) {z : SV} (hz : zeroSV e = some z) (hw : e.ownable = true) (hs : 0 < e.sz) :
    FnOk P (ρ.f 41) ⟨.pair (.sl e) .unit, [false], .sl e, fun x => if (x.1 : List (den e)).length ≤ lim then some x.1 else none⟩ := by
  refine ⟨fun _ => ?_, fun h => by cases h⟩
  intro w vs x y hx hy
  obtain ⟨c, r, rfl, hc, hr⟩ := hx
  have hr : r = [] := hr
  subst hr
  obtain ⟨a, n, cp, rfl, hn, hcp, hl⟩ := hc
  have hy : (if (x.1 : List (den e)).length ≤ lim then some x.1 else none) = some y := hy
  split at hy
  case isFalse => cases hy
  rename_i hlim
  cases hy
  obtain ⟨nm, hnm, hf⟩ := L.f41
  obtain ⟨i, hi, hsz, hb1, hb2, hzz⟩ := zero_val ht hz hw
  refine cf_of_calls hf hnm rfl ?_
  have nil_case : x.1 = [] → Calls P (ρ.f 41) #[.slice none n cp] w fun e' w' => ∃ v, e' = .returned v ∧ Ret (.sl e) x.1 w v w' := fun h0 => by
    refine (AnyE.slices_Clone_nil L n cp w).mono ?_
    rintro e' w' ⟨rfl, rfl⟩
    exact ⟨_, rfl, [], ⟨_, rfl, .inl ⟨rfl, h0, rfl⟩⟩, List.nodup_nil, fun b hb => (by cases hb), Below.refl _ _⟩
  cases a with
  | none =>
    rcases hl with h0 | ⟨b, o, arr, t, fz, h1, _⟩
    · exact nil_case h0
    · cases h1
  | some a =>
    have hcl : ∃ news : List Value, news.length = n * e.sz ∧ (∀ j u, news[j]? = some u → w.cell? (a.add j) = some u) ∧ (∀ u ∈ news, u.oneCell' = true) ∧
        ∀ (i : Nat) y, (x.1 : List (den e))[i]? = some y → TC e w (seg news (i * e.sz) e.sz) y [] := by
      rcases hl with h0 | ⟨b, o, arr, t, fz, h1, hb, hh, ho, hel⟩
      · have h0 : (x.1 : List (den e)) = [] := h0
        have hn0 : n = 0 := by rw [hn, h0]; rfl
        exact ⟨[], by rw [hn0]; simp, fun j u h => (by simp at h), fun u h => (by cases h), fun i y h => by rw [h0] at h; simp at h⟩
      · cases h1
        have hal : arr.toList.length = arr.size := Array.length_toList
        have hlen : (seg arr.toList o (n * e.sz)).length = n * e.sz := seg_len (by rw [hal]; exact ho)
        have hel' : ∀ (i : Nat) y, (x.1 : List (den e))[i]? = some y → TC e w (seg (seg arr.toList o (n * e.sz)) (i * e.sz) e.sz) y [] := fun i y hy => by
          have hi : i < n := by rw [hn]; exact (List.getElem?_eq_some_iff.1 hy).1
          have hm1 : (i + 1) * e.sz ≤ n * e.sz := Nat.mul_le_mul_right _ hi
          rw [Nat.succ_mul] at hm1
          rw [seg_seg _ hm1]
          exact TC_of_RX P e hm (hel i y hy)
        refine ⟨seg arr.toList o (n * e.sz), hlen, fun j u hj => ?_, fun u hu => ?_, hel'⟩
        · rw [seg_get] at hj
          split at hj
          case isFalse => cases hj
          rw [show (⟨b, o, none⟩ : Addr).add j = ⟨b, o + j, none⟩ from Addr.add_lit .., cellAt hh, ← Array.getElem?_toList]
          exact hj
        · obtain ⟨k, hk⟩ := List.getElem?_of_mem hu
          have hk2 := (List.getElem?_eq_some_iff.1 hk).1
          rw [hlen] at hk2
          have hi : k / e.sz < n := Nat.div_lt_of_lt_mul (by rw [Nat.mul_comm]; exact hk2)
          have hmod := Nat.mod_lt k hs
          have hi2 : k / e.sz < (x.1 : List (den e)).length := by rw [← hn]; exact hi
          have := TC_one (hel' (k / e.sz) _ (List.getElem?_eq_getElem hi2)) u (by
            refine List.mem_of_getElem? (i := k % e.sz) ?_
            rw [seg_get, if_pos hmod, Nat.mul_comm (k / e.sz), Nat.div_add_mod]; exact hk)
          exact this
    obtain ⟨news, hl1, hl2, hl3, hl4⟩ := hcl
    have hn40 : n ≤ 1099511627776 := by rw [hn]; exact hlim
    refine (clone_calls L i _ e.sz i.bytes hi hzz.1 hsz rfl (by rw [hzz.2]; simp; exact TC_len _ _ _ _ _ (TC_zero e (w := w) hz hw)) hs (fun w => ht.sizeOf w) a n cp news w hl1 (by unfold maxLen; omega) ?_ hl2 hl3).mono ?_
    · have := Nat.mul_le_mul hn40 hb1; omega
    rintro e' w' ⟨v', rfl, hown, hbel⟩
    refine ⟨v', rfl, ?_⟩
    obtain ⟨ho1, ho2⟩ := hown
    rcases ho2 with ⟨rfl, h0⟩ | ⟨g, cap, cur, rfl, hg, hcur, hle, hmx, hcs, htk⟩
    · have h0' : (x.1 : List (den e)) = [] := List.length_eq_zero_iff.1 (by rw [← hn]; exact h0)
      exact ⟨[], ⟨_, rfl, .inl ⟨rfl, h0', rfl⟩⟩, List.nodup_nil, fun b hb => (by cases hb), hbel⟩
    · refine ⟨[g], ⟨_, rfl, .inr ⟨g, 0, n, cap, cur, _, List.replicate n [], rfl, ?_, hn, hcur, hle, by rw [hcs]; omega, by simp, fun j y bi hy hbi => ?_⟩⟩, by simp, fun b hb => ?_, hbel⟩
      · congr 1; simp
      · have hbi' : bi = [] := List.eq_of_mem_replicate (List.mem_of_getElem? hbi)
        subst hbi'
        have hj : j < n := by rw [hn]; exact (List.getElem?_eq_some_iff.1 hy).1
        have hm1 : (j + 1) * e.sz ≤ n * e.sz := Nat.mul_le_mul_right _ hj
        rw [Nat.succ_mul] at hm1
        have e1 : seg cur.toList (0 + j * e.sz) e.sz = seg news (j * e.sz) e.sz := by
          rw [Nat.zero_add, ← htk]
          apply List.ext_getElem?
          intro k
          rw [seg_get, seg_get]
          by_cases hk : k < e.sz
          · rw [if_pos hk, if_pos hk, List.getElem?_take, if_pos (by omega)]
          · rw [if_neg hk, if_neg hk]
        rw [e1]
        exact TC_congr e (fun b hb => by cases hb) (hl4 j y hy)
      · simp only [List.mem_singleton] at hb; subst hb
        exact ⟨hg, (Array.getElem?_eq_some_iff.1 hcur).1⟩
/-- The library's search for a byte in a string. -/
theorem indexByte_ok {P : Program} {f : FuncId} {fn : Func} (hf : P.funcs[f]? = some fn) (hname : (fn.name == "runtime.NumGoroutine") = false) (hb : fn.body.isNone = true) (hn : Extern.findNext fn = none) (he : Extern.find fn = some Extern.BytealgIndexByte.indexByte) :
    FnOk P f ⟨.pair .str (.pair (.int .u8) .unit), [false, false], .int .i64, fun x => some (Lib.indexByte (x.1 : ByteArray).data.toList (x.2.1 : Int).toNat.toUInt8)⟩ := by
  refine ⟨fun _ => ?_, fun h => by cases h⟩
  intro w vs x y hx hy
  obtain ⟨c, r, rfl, hc, c2, r2, rfl, hc2, hr⟩ := hx
  have hr : r2 = [] := hr
  subst hr
  have hc : c = [.string x.1] := hc
  have hc2 : c2 = [.int .u8 x.2.1] := hc2
  subst hc; subst hc2
  cases hy
  refine cf_of_value (by
    rw [run_callFunc_extern hf hname hb hn he]
    show ((Extern.BytealgIndexByte.indexByte #[.string x.1, .int .u8 x.2.1]).run P w).andThen _ = _
    rw [Lib.run_indexByteString]; rfl) ?_
  exact ⟨[], ⟨_, rfl, rfl, rfl⟩, List.nodup_nil, fun b hb => (by cases hb), Below.refl _ _⟩
/-- The library's count of a byte in a string. -/
theorem countByte_ok {P : Program} {f : FuncId} {fn : Func} (hf : P.funcs[f]? = some fn) (hname : (fn.name == "runtime.NumGoroutine") = false) (hb : fn.body.isNone = true) (hn : Extern.findNext fn = none) (he : Extern.find fn = some Extern.BytealgCount.count) :
    FnOk P f ⟨.pair .str (.pair (.int .u8) .unit), [false, false], .int .i64, fun x => some ((Lib.countByte (x.1 : ByteArray).data.toList (x.2.1 : Int).toNat.toUInt8 : Nat) : Int)⟩ := by
  refine ⟨fun _ => ?_, fun h => by cases h⟩
  intro w vs x y hx hy
  obtain ⟨c, r, rfl, hc, c2, r2, rfl, hc2, hr⟩ := hx
  have hr : r2 = [] := hr
  subst hr
  have hc : c = [.string x.1] := hc
  have hc2 : c2 = [.int .u8 x.2.1] := hc2
  subst hc; subst hc2
  cases hy
  refine cf_of_value (by
    rw [run_callFunc_extern hf hname hb hn he]
    show ((Extern.BytealgCount.count #[.string x.1, .int .u8 x.2.1]).run P w).andThen _ = _
    rw [Lib.run_countString]; rfl) ?_
  exact ⟨[], ⟨_, rfl, rfl, rfl⟩, List.nodup_nil, fun b hb => (by cases hb), Below.refl _ _⟩
end Go.Proofs.Ytpohjacoemoijaa.E
namespace Go.Proofs.Ytpohjacoemoijaa.E
open Go Go.RowKit Go.ChangeShapes Go.WideShapes Go.ChangeAt
set_option linter.unusedVariables false
set_option linter.unusedSimpArgs false
theorem ok_valOf {P : Program} {ty : Nat → Option Ty} {w : World} {base t : Nat} {T : Ty} (h : TyOk P ty t T) (hd : dataB T = true) {v : Value} (hv : Value.okWide P w .any base t v) : v = valOf T v.cells.toList := by
  obtain ⟨d, hu, hok⟩ := h.und
  cases T with
  | st f =>
    cases d <;> simp only [UnOk] at hok
    simp only [Value.okWide, hu] at hv
    obtain ⟨cs, rfl, _⟩ := hv
    simp [Value.cells, valOf]
  | int k =>
    cases d <;> simp only [UnOk] at hok
    simp only [Value.okWide, Cell.okWide, hu] at hv
    cases v <;> simp_all [Cell.ok, Value.cells, valOf]
  | bool =>
    cases d <;> simp only [UnOk] at hok
    simp only [Value.okWide, Cell.okWide, hu] at hv
    cases v <;> simp_all [Cell.ok, Value.cells, valOf]
  | str =>
    cases d <;> simp only [UnOk] at hok
    simp only [Value.okWide, Cell.okWide, hu] at hv
    cases v <;> simp_all [Cell.ok, Value.cells, valOf]
  | sl e =>
    cases d <;> simp only [UnOk] at hok
    simp only [Value.okWide, Cell.okWide, hu] at hv
    cases v <;> simp_all [Cell.ok, Value.cells, valOf]
  | unit => exact (no_unit h).elim
  | pair a b => exact (no_pair h).elim
  | tup _ => cases hd
  | arr _ _ => cases hd
  | ptr _ => cases hd
  | fn _ _ => cases hd
/-- One argument: what it reads as, its cells, what is known of it. -/
theorem arg_open {P : Program} {ty : Nat → Option Ty} {w : World} {base t : Nat} {T : Ty} (O : ∀ t T, ty t = some T → TyOk P ty t T) (ht : ty t = some T) (hd : dataB T = true) {v : Value} (hv : Value.okWide P w .any base t v)
    {H : Type} {enc : TypeId × Value → H} {spare : Nat → Bool} {held : Bool} {d : DataW H} {ps : List MemPlace} (h : DataW.Trod enc P w 0 spare held t v d ps) :
    ∃ y : den T, v = valOf T v.cells.toList ∧ RX P T false w (fun b => b < w.heap.size) v.cells.toList y ∧ okD T y := by
  obtain ⟨m, hm⟩ := h
  obtain ⟨y, y1, y2⟩ := (opensAll (w := w) O T).1 t ht hd H enc spare held m _ _ hm
  exact ⟨y, ok_valOf (O t T ht) hd hv, y1, y2⟩
theorem ret_bool {w w' : World} {v : Value} {b : Bool} (h : Ret .bool b w v w') : v = .bool b ∧ Below w.heap.size w w' := by
  obtain ⟨bs, ⟨cs, e, h1, h2⟩, _, _, h3⟩ := h
  refine ⟨?_, h3⟩
  have h1 : cs = [.bool b] := h1
  subst h1
  simpa [valOf] using e
end Go.Proofs.Ytpohjacoemoijaa.E
namespace Go.Proofs.Ytpohjacoemoijaa.E
open Go Go.RowKit
set_option linter.unusedVariables false
set_option linter.unusedSimpArgs false
section
variable {C : Cx} {cf : Cfg} {st st' : St} {a : Act} {w w' : World} {G G' : Gh} {us : U}
theorem kcan_fit : ∀ (sh : Shp) (d : Nat), sh.okI = true → KFit sh (kcan sh d).1 ∧ ∀ p ∈ (kcan sh d).1.ids, p.2 = 1
  | .v T, d, _ => ⟨trivial, fun p hp => (by cases hp)⟩
  | .r e, d, _ => ⟨trivial, fun p hp => by simp only [kcan, KS.ids, List.mem_singleton] at hp; rw [hp]⟩
  | .bx c, d, h => by cases h
  | .cl _ c, d, h => by cases h
  | .unit, d, _ => ⟨trivial, fun p hp => (by cases hp)⟩
  | .pair a b, d, h => by
    simp only [Shp.okI, Bool.and_eq_true] at h
    obtain ⟨h1, h2⟩ := kcan_fit a d h.1
    obtain ⟨h3, h4⟩ := kcan_fit b (kcan a d).2 h.2
    exact ⟨⟨h1, h3⟩, fun p hp => (List.mem_append.1 hp).elim (h2 p) (h4 p)⟩
  | .st a, d, h => kcan_fit a d h
theorem kzL_fit : ∀ (l : Lv) {vs : List Value}, (l.all fun z => z.2.okO) = true → vs.length = l.length → FitL st0 G l (kzL l) vs
  | [], vs, _, hv => by rw [List.length_eq_zero_iff.1 hv]; trivial
  | (i, sh) :: l, [], _, hv => by simp at hv
  | (i, sh) :: l, v :: vs, h, hv => by
    simp only [List.all_cons, Bool.and_eq_true] at h
    have ih := kzL_fit l (vs := vs) h.2 (by simpa using hv)
    have g0 : ∀ k, (st0 k).gen = 0 := fun k => rfl
    cases sh with
    | bx c =>
      obtain ⟨h1, h2⟩ := kcan_fit c (8 * i + 1) h.1
      exact ⟨h1, fun p hp => by rw [h2 p hp]; exact Nat.zero_lt_one, .inl Nat.zero_lt_one, ih⟩
    | cl f c =>
      obtain ⟨h1, h2⟩ := kcan_fit c (8 * i + 1) h.1
      exact ⟨h1, fun p hp => by rw [h2 p hp]; exact Nat.zero_lt_one, .inl Nat.zero_lt_one, ih⟩
    | _ =>
      have hI := h.1
      simp only [Shp.okO, Bool.and_eq_true] at hI
      obtain ⟨h1, h2⟩ := kcan_fit _ (8 * i) hI.1
      exact ⟨h1, fun p hp => by rw [h2 p hp]; exact Nat.zero_lt_one, ih⟩
theorem putS_keys : ∀ (sh : Shp) (k : KS) (x : den sh.ty), KFit sh k → (putS sh k x).2.map (·.1) = k.keys
  | .v T, k, x, h => by cases k <;> first | rfl | exact h.elim
  | .r e, k, x, h => by cases k <;> first | rfl | exact h.elim
  | .bx c, k, x, h => by cases k <;> exact h.elim
  | .cl _ c, k, x, h => by cases k <;> exact h.elim
  | .unit, k, x, h => by cases k <;> first | rfl | exact h.elim
  | .pair a b, k, x, h => by
    cases k <;> try exact h.elim
    rename_i k1 k2
    show ((putS a k1 x.1).2 ++ (putS b k2 x.2).2).map (·.1) = _
    rw [List.map_append, putS_keys a k1 x.1 h.1, putS_keys b k2 x.2 h.2]; rfl
  | .st a, k, x, h => by
    cases k <;> try exact h.elim
    rename_i k1
    exact putS_keys a k1 x h
theorem putL_keys : ∀ (l : Lv) (ks : List (Nat × Nat × KS)) (x : den l.ty) {vs : List Value}, FitL st G l ks vs → (putL l ks x).2.map (·.1) = keysL l ks
  | [], [], x, vs, h => rfl
  | [], _ :: _, x, vs, h => rfl
  | (i, sh) :: l, [], x, vs, h => by cases sh <;> cases vs <;> exact h.elim
  | (i, sh) :: l, k :: ks, x, [], h => by cases sh <;> exact h.elim
  | (i, sh) :: l, (b, g, k) :: ks, x, v :: vs, h => by
    cases sh with
    | bx c =>
      show ((bk b, _) :: (putS c k x.1).2 ++ (putL l ks x.2).2).map (·.1) = _
      rw [List.map_append, List.map_cons, putS_keys c k x.1 h.1, putL_keys l ks x.2 h.2.2.2]; rfl
    | cl f c =>
      show ((bk b, _) :: (putS c k x.1).2 ++ (putL l ks x.2).2).map (·.1) = _
      rw [List.map_append, List.map_cons, putS_keys c k x.1 h.1, putL_keys l ks x.2 h.2.2.2]; rfl
    | v T =>
      show ((putS _ k x.1).2 ++ (putL l ks x.2).2).map (·.1) = _
      rw [List.map_append, putS_keys _ k x.1 h.1, putL_keys l ks x.2 h.2.2]; rfl
    | r T =>
      show ((putS _ k x.1).2 ++ (putL l ks x.2).2).map (·.1) = _
      rw [List.map_append, putS_keys _ k x.1 h.1, putL_keys l ks x.2 h.2.2]; rfl
    | unit =>
      show ((putS _ k x.1).2 ++ (putL l ks x.2).2).map (·.1) = _
      rw [List.map_append, putS_keys _ k x.1 h.1, putL_keys l ks x.2 h.2.2]; rfl
    | pair A B =>
      show ((putS _ k x.1).2 ++ (putL l ks x.2).2).map (·.1) = _
      rw [List.map_append, putS_keys _ k x.1 h.1, putL_keys l ks x.2 h.2.2]; rfl
    | st A =>
      show ((putS _ k x.1).2 ++ (putL l ks x.2).2).map (·.1) = _
      rw [List.map_append, putS_keys _ k x.1 h.1, putL_keys l ks x.2 h.2.2]; rfl
/-- The slots of the parameters. -/
theorem slots_sw {P : Program} {S : Nat → Prop} : ∀ (l : Lv) (v : SV) {vs : List Value} (i0 : Nat), idxs i0 l = true → SX P st G w S v true vs → ∀ z ∈ slotsU l v, ∃ j v', z = (sk (i0 + j), .sv v') ∧ j < vs.length ∧ SW P st G w S v' (vs.getD j undef)
  | [], v, vs, i0, _, _, z, hz => by cases v <;> cases hz
  | (i, sh) :: l, v, vs, i0, hi, h, z, hz => by
    cases v with
    | pair a b =>
      obtain ⟨c, r, rfl, h1, h2⟩ := h
      simp only [idxs, Bool.and_eq_true] at hi
      have hi0 := Nat.eq_of_beq_eq_true hi.1
      subst hi0
      rcases List.mem_cons.1 hz with hz | hz
      · refine ⟨0, a, hz, by simp, ?_⟩
        show SW P st G w S a (valS a c)
        cases a <;> first | exact ⟨c, rfl, h1⟩ | exact h1.elim
      · obtain ⟨j, v', k1, k2, k3⟩ := slots_sw l b (i + 1) hi.2 h2 z hz
        refine ⟨j + 1, v', by rw [k1]; congr 2; omega, by simpa using k2, by simpa using k3⟩
    | _ => cases hz
theorem slots_keys : ∀ (l : Lv) (v : SV) (i0 : Nat), idxs i0 l = true → ((slotsU l v).map (·.1)).Nodup ∧ ∀ z ∈ slotsU l v, ∃ j v', z = (sk j, .sv v') ∧ i0 ≤ j
  | [], v, i0, _ => by cases v <;> exact ⟨List.nodup_nil, fun z hz => (by cases hz)⟩
  | (i, sh) :: l, v, i0, hi => by
    cases v with
    | pair a b =>
      simp only [idxs, Bool.and_eq_true] at hi
      have hi0 := Nat.eq_of_beq_eq_true hi.1
      subst hi0
      obtain ⟨h1, h2⟩ := slots_keys l b (i + 1) hi.2
      refine ⟨?_, fun z hz => ?_⟩
      · show (sk i :: (slotsU l b).map (·.1)).Nodup
        rw [List.nodup_cons]
        refine ⟨fun hm => ?_, h1⟩
        obtain ⟨z, hz, e⟩ := List.mem_map.1 hm
        obtain ⟨j, v', e2, hj⟩ := h2 z hz
        rw [e2] at e
        have := sk_inj e
        omega
      · rcases List.mem_cons.1 hz with hz | hz
        · exact ⟨i, a, hz, Nat.le_refl _⟩
        · obtain ⟨j, v', k1, k2⟩ := h2 z hz
          exact ⟨j, v', k1, by omega⟩
    | _ => exact ⟨List.nodup_nil, fun z hz => (by cases hz)⟩
theorem entry_invS {P : Program} {ps : Lv} {vals : List Value} {x : den ps.ty} {bs : List Nat} {S : Nat → Prop} {pr nt : Nat} (h : XL P ps w S vals x bs) (hn : bs.Nodup) (hS : ∀ b, S b → b < w.heap.size ∧ b ∉ bs) (hbs : ∀ b ∈ bs, b < w.heap.size) (hok : entSB ps = true) (hlen : ps.length ≤ nt) (hpr : pr ≤ ps.length) :
    ∃ G, Inv ⟨P, w, bs, vals, pr, nt, fun b => S b ∨ w.heap.size ≤ b ∨ b ∈ bs⟩ (entSt ps x) { tmps := vals.toArray ++ Array.replicate (nt - vals.toArray.size) undef, defers := [] } w G := by
  simp only [entSB, Bool.and_eq_true, nodupB_iff] at hok
  obtain ⟨⟨hi, hO⟩, hkn⟩ := hok
  have hvl := XL_len _ h
  let G0 : Gh := ⟨fun _ => undef, fun _ => [], fun _ => 0, fun b => S b ∨ w.heap.size ≤ b ∨ b ∈ bs⟩
  have hfit := kzL_fit (G := G0) ps (vs := vals) hO hvl
  obtain ⟨ge, K⟩ := putL_ok (st := st0) (G := G0) (fun b hb => (hS b hb).1) ps (kzL ps) x hfit h
  have hke := putL_keys ps (kzL ps) x hfit
  have hkn : ((putL ps (kzL ps) x).2.map (·.1)).Nodup := by rw [hke]; exact hkn
  have hkg : (ge.map (·.1)).Nodup := K.keys ▸ hkn
  obtain ⟨hsn, hsk⟩ := slots_keys ps (putL ps (kzL ps) x).1 0 hi
  have bn : (ge.flatMap (·.2.2)).Nodup := K.bls ▸ hn
  let G : Gh := ⟨fun k => match ge.lookup k with | some q => q.1 | none => undef, fun k => match ge.lookup k with | some q => q.2 | none => [], fun k => match ge.lookup k with | some q => q.2.headD 0 | none => 0, fun b => S b ∨ w.heap.size ≤ b ∨ b ∈ bs⟩
  have hga : GA G ge := fun q hq => by
    have := lkp_mem ge hkg (show (q.1, q.2) ∈ ge from hq)
    refine ⟨?_, ?_, ?_⟩
    · show (match ge.lookup q.1 with | some q => q.1 | none => undef) = _; rw [this]
    · show (match ge.lookup q.1 with | some q => q.2 | none => []) = _; rw [this]
    · show (match ge.lookup q.1 with | some q => q.2.headD 0 | none => 0) = _; rw [this]
  have hin : ∀ z ∈ (putL ps (kzL ps) x).2, entSt ps x z.1 = z.2 := fun z hz => upds_in _ _ hkn (by simpa using hz)
  have hcell : ∀ z ∈ (putL ps (kzL ps) x).2, ∀ i, z.1 ≠ sk i := fun z hz i e => by
    obtain ⟨q, _, _, ⟨t, _, _, _, h1, _⟩ | ⟨b, _, _, _, _, _, _, h1, _⟩⟩ := K.cell z hz
    · rw [h1] at e; exact sk_ne_rk _ _ e.symm
    · rw [h1] at e; exact sk_ne_bk _ _ e.symm
  have hslot : ∀ i, entSt ps x (sk i) = upds st0 (slotsU ps (putL ps (kzL ps) x).1) (sk i) := fun i => upds_out _ _ _ fun p hp e => hcell p hp i e
  have hout : ∀ k, (∀ i, k ≠ sk i) → k ∉ (putL ps (kzL ps) x).2.map (·.1) → entSt ps x k = .none := fun k h1 h2 => by
    have e1 : entSt ps x k = upds st0 (slotsU ps (putL ps (kzL ps) x).1) k := upds_out _ _ _ fun p hp e => h2 (List.mem_map.2 ⟨p, hp, e⟩)
    rw [e1, upds_out _ _ _ fun p hp e => ?_]; rfl
    obtain ⟨j, v', e2, _⟩ := hsk p hp
    rw [e2] at e; exact h1 j e.symm
  have hsl : ∀ i, entSt ps x (sk i) = .none ∨ ∃ v, entSt ps x (sk i) = .sv v ∧ (sk i, Cell.sv v) ∈ slotsU ps (putL ps (kzL ps) x).1 := fun i => by
    rw [hslot i]
    by_cases hk : ∃ p ∈ slotsU ps (putL ps (kzL ps) x).1, p.1 = sk i
    · obtain ⟨p, hp, e⟩ := hk
      obtain ⟨j, v', e2, _⟩ := hsk p hp
      rw [e2] at e
      have := sk_inj e
      subst this
      right
      rw [e2] at hp
      exact ⟨v', upds_in _ _ hsn hp, hp⟩
    · left
      rw [upds_out _ _ _ fun p hp e => hk ⟨p, hp, e⟩]; rfl
  have hmem : ∀ k, entSt ps x k ≠ .none → (∀ i, k ≠ sk i) → ∃ z ∈ (putL ps (kzL ps) x).2, z.1 = k := fun k h1 h2 => by
    by_cases hk : k ∈ (putL ps (kzL ps) x).2.map (·.1)
    · obtain ⟨z, hz, e⟩ := List.mem_map.1 hk; exact ⟨z, hz, e⟩
    · exact absurd (hout k h2 hk) h1
  have hns : ∀ k c, entSt ps x k = c → (∀ v, c ≠ .sv v) → c ≠ .none → ∃ z ∈ (putL ps (kzL ps) x).2, z.1 = k := fun k c h1 h2 h3 => by
    refine hmem k (by rw [h1]; exact h3) fun i e => ?_
    subst e
    rcases hsl i with h | ⟨v, h, _⟩
    · rw [h] at h1; exact h3 h1.symm
    · rw [h] at h1; exact h2 v h1.symm
  have hown : ∀ k b, b ∈ ownB (entSt ps x) G k → ∃ z ∈ (putL ps (kzL ps) x).2, z.1 = k := fun k b hb => by
    unfold ownB at hb
    split at hb
    · rename_i g h e l hr; exact hns k _ hr (fun v e => by cases e) (by simp)
    · rename_i g T v hr; exact hns k _ hr (fun v e => by cases e) (by simp)
    · rename_i g hr; exact hns k _ hr (fun v e => by cases e) (by simp)
    · cases hb
  have hz : ∀ z ∈ (putL ps (kzL ps) x).2, ∃ q ∈ ge, q.1 = z.1 ∧ ownB (entSt ps x) G z.1 = q.2.2 := fun z hz => by
    obtain ⟨q, hq, e, h⟩ := K.cell z hz
    refine ⟨q, hq, e, ?_⟩
    have hz2 := hin z hz
    have g := hga q hq
    rw [e] at g
    unfold ownB
    rw [hz2]
    rcases h with ⟨t, g', e', l, h1, _⟩ | ⟨b, g', T, v, blk, arr, ty, h1, h2, _⟩
    · rw [h1]; rw [h1] at g; exact g.2.1
    · rw [h1]; rw [h1] at g
      show [G.bx (bk b)] = _
      rw [g.2.2, h2]; rfl
  have hfz : ∀ b, S b → Fz (entSt ps x) G w b := fun b hb => by
    refine ⟨(hS b hb).1, fun k hk => ?_, .inl hb⟩
    obtain ⟨z, hz1, rfl⟩ := hown k b hk
    obtain ⟨q, hq, _, ho⟩ := hz z hz1
    rw [ho] at hk
    exact (hS b hb).2 (by rw [K.bls]; exact List.mem_flatMap.2 ⟨q, hq, hk⟩)
  have hinst : Inst (putL ps (kzL ps) x).2 ge S w (entSt ps x) G (Fz (entSt ps x) G w) := ⟨hin, hga, hfz, fun b hb => hb.1⟩
  have hsx := K.sx _ _ _ hinst
  have hsize : vals.toArray.size = vals.length := by simp
  have htm : ∀ i, i < vals.length → ({ tmps := vals.toArray ++ Array.replicate (nt - vals.toArray.size) undef, defers := [] } : Act).tmps.getD i undef = vals.getD i undef := fun i hi => by
    show (vals.toArray ++ Array.replicate (nt - vals.toArray.size) undef).getD i undef = _
    simp only [Array.getD_eq_getD_getElem?, List.getD]
    rw [Array.getElem?_append_left (by simpa using hi)]
    simp
  refine ⟨G, { rt := fun k g hh e l hr => ?_, sc := fun i => ?_, bx := fun k g T v hr => ?_, nd := fun k => ?_, dj := fun k k' b h1 h2 => ?_, lt := fun k b hb => ?_, os := rfl, tape := rfl, output := rfl, size := Nat.le_refl _, block := fun _ _ _ => rfl, s0 := rfl, m0 := fun b hb => hb.elim (fun h => .inr (.inl h)) (fun h => .inr (.inr h)), sl := fun i v hv => ?_, df := rfl, sz := ?_, pa := fun i hi => ?_ }⟩
  · obtain ⟨z, hz1, rfl⟩ := hns k _ hr (fun v e => by cases e) (by simp)
    obtain ⟨q, hq, e', hc⟩ := K.cell z hz1
    have hz2 := hin z hz1
    have gg := hga q hq
    rw [e'] at gg
    rw [hz2] at hr
    rcases hc with ⟨t, g', e2, l2, h1, h2, _⟩ | ⟨b, g', T, v, blk, arr, ty, h1, _⟩
    · rw [h1] at hr; cases hr
      rw [gg.1, gg.2.1]; exact h2
    · rw [h1] at hr; cases hr
  · rcases hsl i with h | ⟨v, h, _⟩
    · exact .inr h
    · exact .inl ⟨v, h⟩
  · obtain ⟨z, hz1, rfl⟩ := hns k _ hr (fun v e => by cases e) (by simp)
    obtain ⟨q, hq, e', hc⟩ := K.cell z hz1
    have hz2 := hin z hz1
    have gg := hga q hq
    rw [e'] at gg
    rw [hz2] at hr
    rcases hc with ⟨t, g', e2, l2, h1, _⟩ | ⟨b, g', T', v', blk, arr, ty, h1, h2, h3, h4, h5, h6⟩
    · rw [h1] at hr; cases hr
    · rw [h1] at hr; cases hr
      refine ⟨h3, arr, ty, ?_, h6 _ _ _ hinst⟩
      rw [gg.2.2, h2]; exact h4
  · by_cases hk : ∃ z ∈ (putL ps (kzL ps) x).2, z.1 = k
    · obtain ⟨z, hz1, rfl⟩ := hk
      obtain ⟨q, hq, e, ho⟩ := hz z hz1
      rw [ho]; exact flat_nd bn q hq
    · have : ownB (entSt ps x) G k = [] := List.eq_nil_iff_forall_not_mem.2 fun b hb => hk (hown k b hb)
      rw [this]; exact List.nodup_nil
  · obtain ⟨z, hz1, rfl⟩ := hown k b h1
    obtain ⟨z', hz1', rfl⟩ := hown k' b h2
    obtain ⟨q, hq, e, ho⟩ := hz z hz1
    obtain ⟨q', hq', e', ho'⟩ := hz z' hz1'
    rw [ho] at h1; rw [ho'] at h2
    rw [← e, ← e', flat_dj bn q hq q' hq' b h1 h2]
  · obtain ⟨z, hz1, rfl⟩ := hown k b hb
    obtain ⟨q, hq, e, ho⟩ := hz z hz1
    rw [ho] at hb
    have : b ∈ bs := by rw [K.bls]; exact List.mem_flatMap.2 ⟨q, hq, hb⟩
    exact ⟨hbs b this, .inr this⟩
  · rcases hsl i with h | ⟨v', h, hm⟩
    · rw [h] at hv; cases hv
    · rw [h] at hv; cases hv
      obtain ⟨j, v2, e2, hj, hw⟩ := slots_sw ps _ 0 hi hsx _ hm
      simp only [Prod.mk.injEq, Cell.sv.injEq, Nat.zero_add] at e2
      have := sk_inj e2.1
      subst this
      rw [e2.2, htm i hj]; exact hw
  · show (vals.toArray ++ Array.replicate (nt - vals.toArray.size) undef).size = nt
    rw [Array.size_append, Array.size_replicate, hsize]; omega
  · show (vals.toArray ++ Array.replicate (nt - vals.toArray.size) undef).getD i undef = vals.getD i undef
    exact htm i (by rw [hvl]; exact Nat.lt_of_lt_of_le hi hpr)
theorem outsV_run {α : Type} {u : α} (I : Inv C st a w G) : ∀ (l : Lv) {f : SV → M α}, Rn (outsV l f) st u → ∃ v, SX C.P st G w (Fz st G w) v true (l.map fun p => a.tmps.getD p.1 undef) ∧ Rn (f v) st u
  | [], f, h => ⟨.unit, rfl, h⟩
  | (i, sh) :: l, f, h => by
    unfold outsV at h
    obtain ⟨v, _, hv, h⟩ := slot_run I h
    split at h
    · exact (Rn_fail.1 h).elim
    · rename_i hnt
      obtain ⟨v', k1, k2⟩ := outsV_run I l h
      obtain ⟨c, hc1, hc2⟩ := SW_cells hv (fun b e => hnt b e)
      exact ⟨.pair v v', ⟨c, _, by rw [List.map_cons, hc1], hc2, k1⟩, k2⟩
theorem outV_map (f : Nat → Value) : ∀ (l : Lv) (vs : List Value) (i0 : Nat), idxs i0 l = true → vs.length = l.length → (∀ p ∈ outL l, p.1 < i0 + vs.length → f p.1 = vs.getD (p.1 - i0) undef) → (outL l).map (fun p => f p.1) = outV l vs
  | [], vs, i0, _, hv, _ => by rw [List.length_eq_zero_iff.1 hv]; rfl
  | (i, sh) :: l, [], i0, _, hv, _ => by simp at hv
  | (i, sh) :: l, v :: vs, i0, hi, hv, h => by
    simp only [idxs, Bool.and_eq_true] at hi
    have hi0 := Nat.eq_of_beq_eq_true hi.1
    subst hi0
    have hge : ∀ (l : Lv) (i0 : Nat), idxs i0 l = true → ∀ p ∈ outL l, i0 ≤ p.1 := by
      intro l
      induction l with
      | nil => intro i0 _ p hp; cases hp
      | cons q l ih =>
        intro i0 hi p hp
        obtain ⟨q1, q2⟩ := q
        simp only [idxs, Bool.and_eq_true] at hi
        have e := Nat.eq_of_beq_eq_true hi.1
        have := fun hp => ih (i0 + 1) hi.2 p hp
        cases q2 with
        | bx c =>
          rcases List.mem_cons.1 hp with hp | hp
          · rw [hp]; exact Nat.le_of_eq e.symm
          · have := this hp; omega
        | cl f c =>
          rcases List.mem_cons.1 hp with hp | hp
          · rw [hp]; exact Nat.le_of_eq e.symm
          · have := this hp; omega
        | _ => have := this hp; omega
    have rest := outV_map f l vs (i + 1) hi.2 (by simpa using hv) (fun p hp hlt => by
      have h1 := hge l (i + 1) hi.2 p hp
      have hp' : p ∈ outL ((i, sh) :: l) := by cases sh <;> first | exact hp | exact List.mem_cons_of_mem _ hp
      rw [h p hp' (by simp; omega), show p.1 - i = (p.1 - (i + 1)) + 1 from by omega]; simp)
    cases sh with
    | bx c =>
      show f i :: (outL l).map (fun p => f p.1) = v :: outV l vs
      rw [rest, h (i, .bx c) List.mem_cons_self (by simp)]; simp
    | cl f0 c =>
      show f i :: (outL l).map (fun p => f p.1) = v :: outV l vs
      rw [rest, h (i, .cl f0 c) List.mem_cons_self (by simp)]; simp
    | _ => exact rest
/-- The boxes among the parameters stand in slots that stay as they are. -/
def protB (ps : Lv) (pr : Nat) : Bool := (outL ps).all fun p => Nat.blt p.1 pr
theorem fin_shape {P : Program} {ps rl : Lv} {vals : List Value} {bs : List Nat} {S : Nat → Prop} {w0 : World} {fn : Func} {y : den rl.ty × den (outL ps).ty} {pr nt : Nat} (O : CfgOk ⟨P, w0, bs, vals, pr, nt, fun b => S b ∨ w0.heap.size ≤ b ∨ b ∈ bs⟩ cf) (I : Inv ⟨P, w0, bs, vals, pr, nt, fun b => S b ∨ w0.heap.size ≤ b ∨ b ∈ bs⟩ st a w G)
    {F : den ps.ty → Option (den rl.ty × den (outL ps).ty)} (hi : idxs 0 ps = true) (hp : protB ps pr = true) (hvl : vals.length = ps.length) (h : Rn (finS cf fn.results.toList ps rl) st y) : ∃ v, (results fn a.tmps).run P w = .ok v w ∧ ShRet P ⟨ps, rl, F⟩ vals y.1 y.2 bs S w0 v w := by
  unfold finS at h
  obtain ⟨v, vs, h1, h2, h⟩ := resSV_run O I _ h
  obtain ⟨x, ks, gs, od, d1, h, A⟩ := rdL_run I.toInvM rl v _ h h2
  obtain ⟨u, h3, h⟩ := outsV_run I (outL ps) h
  obtain ⟨z, ks', gs', od', d2, h, B⟩ := rdL_run I.toInvM (outL ps) u _ h h3
  rw [Rn_bif] at h
  rcases h with ⟨hb, h⟩ | ⟨_, h⟩
  case inr => exact (Rn_fail.1 h).elim
  rw [Rn_ret] at h
  subst h
  rw [nodupB_iff] at hb
  obtain ⟨hodn, _, hodg⟩ := List.nodup_append.1 hb
  have hov : (outL ps).map (fun p => a.tmps.getD p.1 undef) = outV ps vals := outV_map (fun i => a.tmps.getD i undef) ps vals 0 hi hvl fun p hp' _ => by
    have := List.all_eq_true.1 hp p hp'
    rw [Nat.sub_zero]
    exact I.pa p.1 (Nat.le_of_ble_eq_true this)
  have hown : ∀ b, b ∈ od.flatMap (ownB st G) ++ od'.flatMap (ownB st G) → ∃ k ∈ od ++ od', b ∈ ownB st G k := fun b hb => by
    rcases List.mem_append.1 hb with hb | hb
    · obtain ⟨k, hk, hb⟩ := List.mem_flatMap.1 hb; exact ⟨k, List.mem_append_left _ hk, hb⟩
    · obtain ⟨k, hk, hb⟩ := List.mem_flatMap.1 hb; exact ⟨k, List.mem_append_right _ hk, hb⟩
  have s0 : ∀ b, G.s0 b → S b ∨ w0.heap.size ≤ b ∨ b ∈ bs := fun b hb => by rw [I.s0] at hb; exact hb
  have hS1 : ∀ b, Fz st G w b → b < w.heap.size ∧ (S b ∨ w0.heap.size ≤ b ∨ b ∈ bs) ∧ b ∉ od.flatMap (ownB st G) ++ od'.flatMap (ownB st G) := fun b hb => ⟨hb.1, s0 b hb.2.2, fun hm => by
    obtain ⟨k, _, hk⟩ := hown b hm
    exact hb.2.1 k hk⟩
  have hS2 : ∀ (gs2 : List (Nat × Nat)), (∀ p ∈ gs2, p ∈ gs ++ gs') → (∀ p ∈ gs2, RT st p) → ∀ p ∈ gs2, ∀ b ∈ G.bl (rk p.1), b < w.heap.size ∧ (S b ∨ w0.heap.size ≤ b ∨ b ∈ bs) ∧ b ∉ od.flatMap (ownB st G) ++ od'.flatMap (ownB st G) := fun gs2 hsub hrt p hp b hb => by
    have ho : b ∈ ownB st G (rk p.1) := by rw [own_of_RT (hrt p hp)]; exact hb
    refine ⟨(I.lt _ _ ho).1, s0 b (I.m0 _ (I.lt _ _ ho).2), fun hm => ?_⟩
    obtain ⟨k, hk, hbk⟩ := hown b hm
    have := I.dj _ _ _ hbk ho
    subst this
    exact hodg _ hk _ (List.mem_map.2 ⟨p, hsub p hp, rfl⟩) rfl
  refine ⟨retV vs, ?_, ⟨vs, _, _, rfl, A.xs _ hS1 (fun b hb => hb.1) (hS2 gs (fun p hp => List.mem_append_left _ hp) A.gone), ?_, ?_, fun b hb => ?_⟩, I.os, I.tape, I.output, I.size, I.block⟩
  · rw [results_run h1]; rfl
  · have := B.xs _ hS1 (fun b hb => hb.1) (hS2 gs' (fun p hp => List.mem_append_right _ hp) B.gone)
    rw [hov] at this
    exact this
  · rw [← List.flatMap_append]; exact own_nd I.toInvM _ hodn
  · obtain ⟨k, _, hk⟩ := hown b hb
    exact ⟨(I.lt _ _ hk).2.symm, (I.lt _ _ hk).1⟩
/-- A function's contract by shapes: out of its code, and the evaluator's run of it. -/
theorem sh_ok {P : Program} {cf : Cfg} {f : FuncId} {fn : Func} {c : Code} {ps rl : Lv} {en : Env (den rl.ty × den (outL ps).ty)} {F : den ps.ty → Option (den rl.ty × den (outL ps).ty)} (hf : P.funcs[f]? = some fn) (hname : (fn.name == "runtime.NumGoroutine") = false) (hb : fn.body = some c)
    (hT : ∀ t T, cf.ty t = some T → TyOk P cf.ty t T) (hfn : ∀ g sp, cf.fn g = some sp → FnOk P g sp) (hfs : ∀ g sp, cf.fs g = some sp → ShOk P g sp) (hmp : ∀ g p, cf.mp g = some p → MpOk P g p.1 p.2) (hmix : P.follows .mixedOrders = true) (hnt : cf.nt = fn.ntmps) (hpr : cf.prot ≤ ps.length) (hprm : protB ps cf.prot = true) (hlen : ps.length ≤ cf.nt) (hent : entSB ps = true)
    (hl : ∀ C, C.P = P → CfgOk C cf → LpOk C en c) (hF : ∀ x y, F x = some y → evFnS cf ps rl en fn.results.toList c x = some y) : ShOk P f ⟨ps, rl, F⟩ := by
  intro w vals x y z bs S hX hnd hS hbs hy
  have O : CfgOk ⟨P, w, bs, vals, cf.prot, cf.nt, fun b => S b ∨ w.heap.size ≤ b ∨ b ∈ bs⟩ cf := ⟨rfl, rfl, hT, hfn, hfs, hmp⟩
  have hX : XL P ps w S vals x bs := hX
  have hvl : vals.length = ps.length := XL_len _ hX
  have hi : idxs 0 ps = true := by simp only [entSB, Bool.and_eq_true] at hent; exact hent.1.1
  obtain ⟨G, I⟩ := entry_invS (nt := cf.nt) (pr := cf.prot) hX hnd hS hbs hent hlen hpr
  intro o a next Q hn
  rw [run_enter hf hname hb, Oper.upon_enter]
  refine calls_of_wp hf hb ?_
  have hev := hF x (y, z) hy
  unfold evFnS at hev
  rw [← hnt]
  have last : ∀ st' a' w' G', (finS cf fn.results.toList ps rl).go st' [] (fun _ y => some y) = some (y, z) → Inv ⟨P, w, bs, vals, cf.prot, cf.nt, fun b => S b ∨ w.heap.size ≤ b ∨ b ∈ bs⟩ st' a' w' G' → ∃ v, (results fn a'.tmps).run P w' = .ok v w' ∧ ShRet P ⟨ps, rl, F⟩ vals y z bs S w v w' := fun st' a' w' G' h I' => by
    obtain ⟨rd, u, h1, h2⟩ := go_run _ _ h
    simp only [Option.some.injEq] at h2
    subst h2
    exact fin_shape O I' hi hprm hvl ⟨rd, h1⟩
  refine evC_sound O hmix c (hl _ rfl O) hev I (fun st' a' w' G' h I' => ?_) (fun i st' a' w' G' h I' => by cases h) (fun st' a' w' G' h I' => ?_)
  · obtain ⟨v, k1, k2⟩ := last st' a' w' G' h I'
    exact ⟨I'.df, v, k1, hn v w' k2⟩
  · obtain ⟨v, k1, k2⟩ := last st' a' w' G' h I'
    exact ⟨I'.df, v, k1, hn v w' k2⟩
theorem shOk_none {P : Program} {f : Nat} {ps rl : Lv} : ShOk P f ⟨ps, rl, fun _ => none⟩ := by
  intro w vs x y z bs S _ _ _ _ hy; cases hy
end
end Go.Proofs.Ytpohjacoemoijaa.E
namespace Go.Proofs.Ytpohjacoemoijaa.E
open Go Go.RowKit
set_option linter.unusedVariables false
set_option linter.unusedSimpArgs false
/-- An open number stops the computation here (so that the kernel does not open a segment that it need not). -/
def gN {α : Type} (n : Nat) (x : α) : α := match n with
  | 0 => x
  | _ + 1 => x
theorem gN_eq {α : Type} (n : Nat) (x : α) : gN n x = x := by cases n <;> rfl
/-- A loop (its first region, the live slots at its head, the slots that share roots, its plain function) or a segment (the live slots ahead of it and behind it; q: 0, or an open number that locks it). -/
inductive PD (R : Type) where
  | L (id : Nat) (l : Lv) (al : Al) (g : Nat → den l.ty → (Nat → St → Option R) → (St → Option R) → Option R)
  | J (id : Nat) (l ln : Lv) (q : Nat) (g : Nat → den l.ty → (den ln.ty → Option R) → (Nat → St → Option R) → (St → Option R) → Option R)
def lkL {R : Type} (k : Nat) : List (PD R) → Nat → Option (LoopS R)
  | [], _ => none
  | .L i l al g :: D, t => bif Nat.beq i t then some (mkLoopA l al (g k)) else lkL k D t
  | .J _ _ _ _ _ :: D, t => lkL k D t
def lkS {R : Type} (k : Nat) : List (PD R) → Nat → Option (SegS R)
  | [], _ => none
  | .L _ _ _ _ :: D, t => lkS k D t
  | .J i l ln q g :: D, t => bif Nat.beq i t then some (mkSeg l ln (g k)) else lkS k D t
def hasL {R : Type} : List (PD R) → Nat → Bool
  | [], _ => false
  | .L i _ _ _ :: D, t => Nat.beq i t || hasL D t
  | .J _ _ _ _ _ :: D, t => hasL D t
def hasS {R : Type} : List (PD R) → Nat → Bool
  | [], _ => false
  | .L _ _ _ _ :: D, t => hasS D t
  | .J i _ _ _ _ :: D, t => Nat.beq i t || hasS D t
def mkEn {R : Type} (D : List (PD R)) (X : List (Nat × Lv)) (rv : Lv) (k : Nat) : Env R := { L := lkL k D, X := lk X, S := lkS k D, rv := rv }
/-- The loops' bodies (true) and segments (false) of a code, in its order. -/
def partsA {R : Type} (D : List (PD R)) : Code → List (Bool × Code)
  | .seq a b => partsA D a ++ ((bif hasS D (rid b) then [(false, b)] else []) ++ partsA D b)
  | .cond _ a b => ((bif hasS D (rid a) then [(false, a)] else []) ++ partsA D a) ++ ((bif hasS D (rid b) then [(false, b)] else []) ++ partsA D b)
  | .block _ c => partsA D c
  | .loop c => (bif hasL D (rid c) then [(true, c)] else []) ++ partsA D c
  | _ => []
def nthC : List (Bool × Code) → Nat → Code
  | [], _ => .skip
  | c :: _, 0 => c.2
  | _ :: l, n + 1 => nthC l n
/-- The table has just these parts, each name once. -/
def idsB {R : Type} : List (PD R) → List (Bool × Code) → Bool
  | [], [] => true
  | .L i _ _ _ :: D, (b, c) :: ps => b && Nat.beq i (rid c) && !hasL D i && idsB D ps
  | .J i _ _ _ _ :: D, (b, c) :: ps => !b && Nat.beq i (rid c) && !hasS D i && idsB D ps
  | _, _ => false
/-- A part's plain function is one run of the evaluator over its code. -/
def EqOf {R : Type} (cf : Cfg) (en : Nat → Env R) : PD R → Code → Prop
  | .L _ l al g, c => (∀ k x kx kr, g (k + 1) x kx kr = evC cf (en k) c (mkStA l al x) (fun s => mkLoopA l al (g k) s kx kr) kx kr) ∧ ∀ x kx kr, g 0 x kx kr = none
  | .J _ l ln q g, c => ∀ k x kn kx kr, g k x kn kx kr = gN q (evC cf (en k) c (mkSt l x) (cutK ln kn) kx kr)
def HD {R : Type} (cf : Cfg) (en : Nat → Env R) (ps : List (Bool × Code)) : List (PD R) → Nat → Prop
  | [], _ => True
  | .L _ l al g :: D, i => ((∀ k x kx kr, g (k + 1) x kx kr = evC cf (en k) (nthC ps i) (mkStA l al x) (fun s => mkLoopA l al (g k) s kx kr) kx kr) ∧ ∀ x kx kr, g 0 x kx kr = none) ∧ HD cf en ps D (i + 1)
  | .J _ l ln q g :: D, i => (∀ k x kn kx kr, g k x kn kx kr = gN q (evC cf (en k) (nthC ps i) (mkSt l x) (cutK ln kn) kx kr)) ∧ HD cf en ps D (i + 1)
theorem hasL_lk {R : Type} {k t : Nat} : ∀ (D : List (PD R)), hasL D t = false → lkL k D t = none
  | [], _ => rfl
  | .L i l al g :: D, h => by
    simp only [hasL, Bool.or_eq_false_iff] at h
    simp only [lkL, h.1, cond_false]
    exact hasL_lk D h.2
  | .J _ _ _ _ _ :: D, h => hasL_lk D h
theorem hasS_lk {R : Type} {k t : Nat} : ∀ (D : List (PD R)), hasS D t = false → lkS k D t = none
  | [], _ => rfl
  | .J i l al q g :: D, h => by
    simp only [hasS, Bool.or_eq_false_iff] at h
    simp only [lkS, h.1, cond_false]
    exact hasS_lk D h.2
  | .L _ _ _ _ :: D, h => hasS_lk D h
theorem nthC_app : ∀ (p : List (Bool × Code)) (q : Bool × Code) (r : List (Bool × Code)), nthC (p ++ q :: r) p.length = q.2
  | [], q, r => rfl
  | a :: p, q, r => nthC_app p q r
theorem hd_all {R : Type} {cf : Cfg} {en : Nat → Env R} (ps0 : List (Bool × Code)) : ∀ (D : List (PD R)) (pre ps : List (Bool × Code)), ps0 = pre ++ ps → HD cf en ps0 D pre.length → idsB D ps = true →
    ∀ p ∈ ps, (p.1 = true ∧ ∃ l al g, (∀ k, lkL k D (rid p.2) = some (mkLoopA l al (g k))) ∧ EqOf cf en (.L 0 l al g) p.2) ∨ (p.1 = false ∧ ∃ l ln q g, (∀ k, lkS k D (rid p.2) = some (mkSeg l ln (g k))) ∧ EqOf cf en (.J 0 l ln q g) p.2)
  | [], pre, ps, e, h, hi, p, hp => by
    cases ps with
    | nil => cases hp
    | cons _ _ => cases hi
  | .L i l al g :: D, pre, [], e, h, hi, p, hp => by cases hp
  | .J i l ln q g :: D, pre, [], e, h, hi, p, hp => by cases hp
  | .L i l al g :: D, pre, (b, c) :: ps, e, h, hi, p, hp => by
    simp only [idsB, Bool.and_eq_true, Bool.not_eq_true'] at hi
    obtain ⟨⟨⟨rfl, hid⟩, hno⟩, hi⟩ := hi
    obtain ⟨h1, h2⟩ := h
    have hid := Nat.eq_of_beq_eq_true hid
    rcases List.mem_cons.1 hp with rfl | hp
    · refine .inl ⟨rfl, l, al, g, fun k => ?_, ?_⟩
      · simp only [lkL, hid, Nat.beq_refl, cond_true]
      · rw [e, nthC_app] at h1; exact h1
    · rcases hd_all ps0 D (pre ++ [(true, c)]) ps (by rw [e]; simp) (by simpa using h2) hi p hp with ⟨q, l', al', g', h3, h4⟩ | ⟨q, l', ln', q', g', h3, h4⟩
      · refine .inl ⟨q, l', al', g', fun k => ?_, h4⟩
        cases hb : Nat.beq i (rid p.2)
        · simp only [lkL, hb, cond_false]; exact h3 k
        · have hb := Nat.eq_of_beq_eq_true hb
          rw [← hb] at h3
          have := h3 0
          rw [hasL_lk D hno] at this; cases this
      · exact .inr ⟨q, l', ln', q', g', fun k => h3 k, h4⟩
  | .J i l ln q g :: D, pre, (b, c) :: ps, e, h, hi, p, hp => by
    simp only [idsB, Bool.and_eq_true, Bool.not_eq_true'] at hi
    obtain ⟨⟨⟨rfl, hid⟩, hno⟩, hi⟩ := hi
    obtain ⟨h1, h2⟩ := h
    have hid := Nat.eq_of_beq_eq_true hid
    rcases List.mem_cons.1 hp with rfl | hp
    · refine .inr ⟨rfl, l, ln, q, g, fun k => ?_, ?_⟩
      · simp only [lkS, hid, Nat.beq_refl, cond_true]
      · rw [e, nthC_app] at h1; exact h1
    · rcases hd_all ps0 D (pre ++ [(false, c)]) ps (by rw [e]; simp) (by simpa using h2) hi p hp with ⟨q, l', al', g', h3, h4⟩ | ⟨q, l', ln', q', g', h3, h4⟩
      · exact .inl ⟨q, l', al', g', fun k => h3 k, h4⟩
      · refine .inr ⟨q, l', ln', q', g', fun k => ?_, h4⟩
        cases hb : Nat.beq i (rid p.2)
        · simp only [lkS, hb, cond_false]; exact h3 k
        · have hb := Nat.eq_of_beq_eq_true hb
          rw [← hb] at h3
          have := h3 0
          rw [hasS_lk D hno] at this; cases this
theorem lp_all {C : Cx} {cf : Cfg} {R : Type} {D : List (PD R)} {X : List (Nat × Lv)} {rv : Lv} (O : CfgOk C cf) (hmix : C.P.follows .mixedOrders = true) : ∀ (c : Code),
    (∀ p ∈ partsA D c, (p.1 = true ∧ ∃ l al g, (∀ k, lkL k D (rid p.2) = some (mkLoopA l al (g k))) ∧ EqOf cf (mkEn D X rv) (.L 0 l al g) p.2) ∨ (p.1 = false ∧ ∃ l ln q g, (∀ k, lkS k D (rid p.2) = some (mkSeg l ln (g k))) ∧ EqOf cf (mkEn D X rv) (.J 0 l ln q g) p.2)) → ∀ k, LpOk C (mkEn D X rv k) c := by
  have sg : ∀ (b : Code) (l : List (Bool × Code)), (∀ k, LpOk C (mkEn D X rv k) b) → (∀ p ∈ (bif hasS D (rid b) then [(false, b)] else []) ++ l, (p.1 = true ∧ ∃ l al g, (∀ k, lkL k D (rid p.2) = some (mkLoopA l al (g k))) ∧ EqOf cf (mkEn D X rv) (.L 0 l al g) p.2) ∨ (p.1 = false ∧ ∃ l ln q g, (∀ k, lkS k D (rid p.2) = some (mkSeg l ln (g k))) ∧ EqOf cf (mkEn D X rv) (.J 0 l ln q g) p.2)) →
      ∀ k, ∀ J, (mkEn D X rv k).S (rid b) = some J → SgS C J b := fun b l hb hp k J hJ => by
    have hJ : lkS k D (rid b) = some J := hJ
    cases hh : hasS D (rid b)
    · rw [hasS_lk D hh] at hJ; cases hJ
    · rw [hh] at hp
      rcases hp (false, b) (by simp) with ⟨q, _⟩ | ⟨_, l, ln, q, g, h1, h2⟩
      · cases q
      · have h1 : lkS k D (rid b) = _ := h1 k
        rw [h1] at hJ; cases hJ
        exact seg_sound O hmix (fun x kn kx kr => (h2 k x kn kx kr).trans (gN_eq _ _)) (hb k)
  intro c
  induction c with
  | seq a b iha ihb =>
    intro hp k
    have hb := ihb fun p hm => hp p (by simp only [partsA]; exact List.mem_append_right _ (List.mem_append_right _ hm))
    exact ⟨iha (fun p hm => hp p (by simp only [partsA]; exact List.mem_append_left _ hm)) k, sg b (partsA D b) hb (fun p hm => hp p (by simp only [partsA]; exact List.mem_append_right _ hm)) k, fun _ => hb k⟩
  | cond t a b iha ihb =>
    intro hp k
    have ha := iha fun p hm => hp p (by simp only [partsA]; exact List.mem_append_left _ (List.mem_append_right _ hm))
    have hb := ihb fun p hm => hp p (by simp only [partsA]; exact List.mem_append_right _ (List.mem_append_right _ hm))
    exact ⟨⟨sg a (partsA D a) ha (fun p hm => hp p (by simp only [partsA]; exact List.mem_append_left _ hm)) k, fun _ => ha k⟩, sg b (partsA D b) hb (fun p hm => hp p (by simp only [partsA]; exact List.mem_append_right _ hm)) k, fun _ => hb k⟩
  | block i c ih => exact fun hp k => ih hp k
  | loop c ih =>
    intro hp k f hf
    have hf : lkL k D (rid c) = some f := hf
    have hc := ih fun p hm => hp p (by simp only [partsA]; exact List.mem_append_right _ hm)
    cases hh : hasL D (rid c)
    · rw [hasL_lk D hh] at hf; cases hf
    · rcases hp (true, c) (by simp [partsA, hh]) with ⟨_, l, al, g, h1, h2⟩ | ⟨q, _⟩
      · have h1 : lkL k D (rid c) = _ := h1 k
        rw [h1] at hf; cases hf
        exact loopA_sound O hmix h2.2 h2.1 hc k
      · cases q
  | _ => exact fun _ _ => trivial
/-- A callee with its contract. -/
inductive CB (P : Program) where
  | f (n : Nat) (sp : FnSpec) (h : FnOk P n sp)
  | s (n : Nat) (sp : ShSpec) (h : ShOk P n sp)
  | m (n t : Nat) (g : ByteArray → ByteArray) (h : MpOk P n t g)
def cbF {P : Program} : List (CB P) → Nat → Option FnSpec
  | [], _ => none
  | .f n sp _ :: l, t => bif Nat.beq n t then some sp else cbF l t
  | .s _ _ _ :: l, t => cbF l t
  | .m _ _ _ _ :: l, t => cbF l t
def cbS {P : Program} : List (CB P) → Nat → Option ShSpec
  | [], _ => none
  | .f _ _ _ :: l, t => cbS l t
  | .s n sp _ :: l, t => bif Nat.beq n t then some sp else cbS l t
  | .m _ _ _ _ :: l, t => cbS l t
def cbM {P : Program} : List (CB P) → Nat → Option (Nat × (ByteArray → ByteArray))
  | [], _ => none
  | .f _ _ _ :: l, t => cbM l t
  | .s _ _ _ :: l, t => cbM l t
  | .m n u g _ :: l, t => bif Nat.beq n t then some (u, g) else cbM l t
theorem cbF_ok {P : Program} : ∀ (l : List (CB P)) (g : Nat) (sp : FnSpec), cbF l g = some sp → FnOk P g sp
  | [], _, _, h => by cases h
  | .f n s h' :: l, g, sp, h => by
    unfold cbF at h
    cases hb : Nat.beq n g
    · rw [hb] at h; exact cbF_ok l g sp h
    · rw [hb] at h
      simp only [cond_true, Option.some.injEq] at h
      have := Nat.eq_of_beq_eq_true hb
      subst h; subst this; exact h'
  | .s _ _ _ :: l, g, sp, h => cbF_ok l g sp h
  | .m _ _ _ _ :: l, g, sp, h => cbF_ok l g sp h
theorem cbS_ok {P : Program} : ∀ (l : List (CB P)) (g : Nat) (sp : ShSpec), cbS l g = some sp → ShOk P g sp
  | [], _, _, h => by cases h
  | .s n s h' :: l, g, sp, h => by
    unfold cbS at h
    cases hb : Nat.beq n g
    · rw [hb] at h; exact cbS_ok l g sp h
    · rw [hb] at h
      simp only [cond_true, Option.some.injEq] at h
      have := Nat.eq_of_beq_eq_true hb
      subst h; subst this; exact h'
  | .f _ _ _ :: l, g, sp, h => cbS_ok l g sp h
  | .m _ _ _ _ :: l, g, sp, h => cbS_ok l g sp h
theorem cbM_ok {P : Program} : ∀ (l : List (CB P)) (g : Nat) (p : Nat × (ByteArray → ByteArray)), cbM l g = some p → MpOk P g p.1 p.2
  | [], _, _, h => by cases h
  | .m n u f h' :: l, g, sp, h => by
    unfold cbM at h
    cases hb : Nat.beq n g
    · rw [hb] at h; exact cbM_ok l g sp h
    · rw [hb] at h
      simp only [cond_true, Option.some.injEq] at h
      have := Nat.eq_of_beq_eq_true hb
      subst h; subst this; exact h'
  | .f _ _ _ :: l, g, sp, h => cbM_ok l g sp h
  | .s _ _ _ :: l, g, sp, h => cbM_ok l g sp h
def cfOf {P : Program} (tys : List (Nat × Ty)) (l : List (CB P)) (prot nt : Nat) : Cfg := { ty := lk tys, fn := cbF l, fs := cbS l, mp := cbM l, prot := prot, nt := nt }
def okB {R : Type} (P : Program) (fn : Func) (D : List (PD R)) : Bool := P.follows .mixedOrders && !(fn.name == "runtime.NumGoroutine") && fn.body.isSome && idsB D (partsA D (bodyOf fn))
theorem body_some {fn : Func} (h : fn.body.isSome = true) : fn.body = some (bodyOf fn) := by
  unfold bodyOf
  cases hb : fn.body
  · rw [hb] at h; cases h
  · rfl
theorem fn_okD {P : Program} {tys : List (Nat × Ty)} (hT : ∀ t T, lk tys t = some T → TyOk P (lk tys) t T) {f : FuncId} {fn : Func} {pas ret : Ty} {mu : List Bool} {F : den pas → Option (den ret)} (l : List (CB P)) (prot : Nat) (D : List (PD (den ret))) (X : List (Nat × Lv)) (rv : Lv) (K : Nat) (hf : P.funcs[f]? = some fn)
    (hB : (okB P fn D && Nat.ble prot pas.len && !((mu.drop prot).any id) && Nat.ble pas.len fn.ntmps && entB pas mu) = true)
    (hH : HD (cfOf tys l prot fn.ntmps) (mkEn D X rv) (partsA D (bodyOf fn)) D 0)
    (hF : ∀ x, F x = evFn (cfOf tys l prot fn.ntmps) pas mu ret (mkEn D X rv K) fn.results.toList (bodyOf fn) x) : FnOk P f ⟨pas, mu, ret, F⟩ := by
  simp only [okB, Bool.and_eq_true, Bool.not_eq_true'] at hB
  obtain ⟨⟨⟨⟨⟨⟨⟨h1, h2⟩, h3⟩, h4⟩, h5⟩, h6⟩, h7⟩, h8⟩ := hB
  refine fn_ok (cf := cfOf tys l prot fn.ntmps) (en := mkEn D X rv K) (c := bodyOf fn) hf h2 (body_some h3) hT (cbF_ok l) (cbS_ok l) (cbM_ok l) h1 rfl (Nat.le_of_ble_eq_true h5) h6 (Nat.le_of_ble_eq_true h7) h8 (fun C hP O => ?_) (fun x y h => by rw [← hF]; exact h)
  exact lp_all O (by rw [hP]; exact h1) _ (hd_all _ D [] _ rfl hH h4) K
theorem sh_okD {P : Program} {tys : List (Nat × Ty)} (hT : ∀ t T, lk tys t = some T → TyOk P (lk tys) t T) {f : FuncId} {fn : Func} {ps rl : Lv} {F : den ps.ty → Option (den rl.ty × den (outL ps).ty)} (l : List (CB P)) (prot : Nat) (D : List (PD (den rl.ty × den (outL ps).ty))) (X : List (Nat × Lv)) (rv : Lv) (K : Nat) (hf : P.funcs[f]? = some fn)
    (hB : (okB P fn D && Nat.ble prot ps.length && protB ps prot && Nat.ble ps.length fn.ntmps && entSB ps) = true)
    (hH : HD (cfOf tys l prot fn.ntmps) (mkEn D X rv) (partsA D (bodyOf fn)) D 0)
    (hF : ∀ x, F x = evFnS (cfOf tys l prot fn.ntmps) ps rl (mkEn D X rv K) fn.results.toList (bodyOf fn) x) : ShOk P f ⟨ps, rl, F⟩ := by
  simp only [okB, Bool.and_eq_true, Bool.not_eq_true'] at hB
  obtain ⟨⟨⟨⟨⟨⟨⟨h1, h2⟩, h3⟩, h4⟩, h5⟩, h6⟩, h7⟩, h8⟩ := hB
  refine sh_ok (cf := cfOf tys l prot fn.ntmps) (en := mkEn D X rv K) (c := bodyOf fn) hf h2 (body_some h3) hT (cbF_ok l) (cbS_ok l) (cbM_ok l) h1 rfl (Nat.le_of_ble_eq_true h5) h6 (Nat.le_of_ble_eq_true h7) h8 (fun C hP O => ?_) (fun x y h => by rw [← hF]; exact h)
  exact lp_all O (by rw [hP]; exact h1) _ (hd_all _ D [] _ rfl hH h4) K
end Go.Proofs.Ytpohjacoemoijaa.E
namespace Go.Proofs.Ytpohjacoemoijaa.E
open Go Go.Proofs Go.Proofs.Ytpohjacoemoijaa
set_option maxRecDepth 100000
noncomputable abbrev tq0 : Ty := (.st (.pair (.int .i64) (.pair (.int .i64) .unit)))
abbrev dq0 : Type := (Int × Int × Unit)
noncomputable abbrev tq1 : Ty := (.st (.pair (.sl (.int .u8)) (.pair (.int .i64) (.pair (.int .u64) .unit))))
abbrev dq1 : Type := ((List Int) × Int × Int × Unit)
noncomputable abbrev tq2 : Ty := (.st (.pair (.int .i64) (.pair (.sl (.int .i64)) (.pair (.sl (.sl (.int .i64))) .unit))))
abbrev dq2 : Type := (Int × (List Int) × (List (List Int)) × Unit)
noncomputable abbrev tq3 : Ty := (.st (.pair (.sl tq0) (.pair (.int .i64) (.pair (.sl (.int .i64)) .unit))))
abbrev dq3 : Type := ((List dq0) × Int × (List Int) × Unit)
noncomputable abbrev tq4 : Ty := (.st (.pair .str (.pair .str .unit)))
abbrev dq4 : Type := (ByteArray × ByteArray × Unit)
noncomputable def tys : List (Nat × Ty) := [(2, (.int .i64)), (3, (.int .i64)), (4, .bool), (5, (.int .u8)), (9, .str), (23, tq0), (28, (.sl tq0)), (31, (.sl tq0)), (35, (.sl (.int .u8))), (38, tq0), (43, (.sl (.int .i64))), (54, (.int .u64)), (82, (.fn (.pair (.int .i64) .unit) .bool)), (90, tq0), (109, (.int .u64)), (116, (.sl (.sl (.int .i64)))), (118, tq2), (126, (.sl .str)), (139, (.ptr tq3)), (147, tq1), (174, (.sl (.sl tq0))), (178, tq3), (189, (.sl tq4)), (192, tq4), (194, (.int .u32))]
theorem tysOk : ∀ t T, lk tys t = some T → TyOk Try.prog (lk tys) t T := tys_ok (by kernel_rfl)
noncomputable def ps_s_l05DrawOf : Lv := [(0, (.bx (.v tq1))), (1, (.v (.int .i64))), (2, (.v (.int .i64)))]
noncomputable def rl_s_l05DrawOf : Lv := [(0, (.v .str))]
noncomputable def sp_s_l05DrawOf (F : (dq1 × Int × Int × Unit) → Option ((ByteArray × Unit) × (dq1 × Unit))) : ShSpec := ⟨ps_s_l05DrawOf, rl_s_l05DrawOf, F⟩
noncomputable def as_s_l05End : Ty := (.pair .str (.pair (.int .i64) .unit))
noncomputable def sp_s_l05End (F : (ByteArray × Int × Unit) → Option Int) : FnSpec := ⟨as_s_l05End, [false, false], (.int .i64), F⟩
noncomputable def as_i_Func_made : Ty := (.pair tq0 (.pair (.int .i64) (.pair (.sl (.int .i64)) (.pair (.sl (.int .i64)) (.pair (.int .i64) (.pair (.fn (.pair (.int .i64) .unit) .bool) .unit))))))
noncomputable def sp_i_Func_made (F : (dq0 × Int × (List Int) × (List Int) × Int × ((Int × Unit) → Option Bool) × Unit) → Option Bool) : FnSpec := ⟨as_i_Func_made, [false, false, false, false, false, false], .bool, F⟩
noncomputable def ps_i_Func_made_vi_closure_c1 : Lv := [(0, (.v tq0)), (1, (.v (.int .i64))), (2, (.v (.sl (.int .i64)))), (3, (.v (.sl (.int .i64)))), (4, (.v (.int .i64))), (5, (.cl 145 (.v tq0)))]
noncomputable def rl_i_Func_made_vi_closure_c1 : Lv := [(0, (.v .bool))]
noncomputable def sp_i_Func_made_vi_closure_c1 (F : (dq0 × Int × (List Int) × (List Int) × Int × dq0 × Unit) → Option ((Bool × Unit) × (dq0 × Unit))) : ShSpec := ⟨ps_i_Func_made_vi_closure_c1, rl_i_Func_made_vi_closure_c1, F⟩
noncomputable def as_s_l05Func : Ty := (.pair (.int .i64) (.pair .str .unit))
noncomputable def sp_s_l05Func (F : (Int × ByteArray × Unit) → Option dq0) : FnSpec := ⟨as_s_l05Func, [false, false], tq0, F⟩
end Go.Proofs.Ytpohjacoemoijaa.E
namespace Go.Proofs.Ytpohjacoemoijaa.E
open Go Go.Proofs
set_option maxRecDepth 100000
set_option linter.unusedVariables false
set_option linter.unusedSimpArgs false
variable {K : Nat} {R : Type}
/-- Codes of the length that the statements ask about. -/
structure okCode (code : List Int) : Prop where
  len : code.length ≤ 4096
  bytes : ∀ b ∈ code, 0 ≤ b ∧ b < 256
end Go.Proofs.Ytpohjacoemoijaa.E
namespace Go.Proofs.Ytpohjacoemoijaa.E
open Go Go.Proofs Go.Proofs.Ytpohjacoemoijaa
set_option maxRecDepth 100000
set_option linter.unusedVariables false
noncomputable def as_i_bit : Ty := (.pair (.int .i64) (.pair (.int .i64) .unit))
noncomputable def sp_i_bit (F : (Int × Int × Unit) → Option Int) : FnSpec := ⟨as_i_bit, [false, false], (.int .i64), F⟩
noncomputable def i_bit (K : Nat) (x : (Int × Int × Unit)) : Option Int :=
    (if (decide ((0 : Int) ≤ x.2.1)) = true then
    some (bitI .and .i64 (shrI .i64 x.1 x.2.1) (1 : Int))
    else
    none)
noncomputable def rv_i_bit : Lv := [(4, (.v (.int .i64)))]
theorem ok_i_bit (K : Nat) : FnOk Try.prog 83 (sp_i_bit (i_bit K)) :=
  fn_okD tysOk [] 0 [] [] rv_i_bit K Try.func83 (by kernel_rfl) trivial (fun _ => by kernel_rfl)
noncomputable def C_i_bit (K : Nat) : CB Try.prog := .f _ _ (ok_i_bit K)
noncomputable def as_i_Func_at : Ty := (.pair tq0 (.pair (.int .i64) .unit))
noncomputable def sp_i_Func_at (F : (dq0 × Int × Unit) → Option Int) : FnSpec := ⟨as_i_Func_at, [false, false], (.int .i64), F⟩
noncomputable def i_Func_at (K : Nat) (x : (dq0 × Int × Unit)) : Option Int :=
    (i_bit K (x.1.2.1, x.2.1, ())).bind fun y1 =>
    some y1
noncomputable def rv_i_Func_at : Lv := [(4, (.v (.int .i64)))]
theorem ok_i_Func_at (K : Nat) : FnOk Try.prog 87 (sp_i_Func_at (i_Func_at K)) :=
  fn_okD tysOk [C_i_bit K] 0 [] [] rv_i_Func_at K Try.func87 (by kernel_rfl) trivial (fun _ => by kernel_rfl)
noncomputable def C_i_Func_at (K : Nat) : CB Try.prog := .f _ _ (ok_i_Func_at K)
noncomputable def as_i_Relation_has : Ty := (.pair tq0 (.pair (.int .i64) .unit))
noncomputable def sp_i_Relation_has (F : (dq0 × Int × Unit) → Option Bool) : FnSpec := ⟨as_i_Relation_has, [false, false], .bool, F⟩
noncomputable def i_Relation_has (K : Nat) (x : (dq0 × Int × Unit)) : Option Bool :=
    (i_bit K (x.1.2.1, x.2.1, ())).bind fun y1 =>
    some (decide (y1 = (1 : Int)))
noncomputable def rv_i_Relation_has : Lv := [(4, (.v .bool))]
theorem ok_i_Relation_has (K : Nat) : FnOk Try.prog 75 (sp_i_Relation_has (i_Relation_has K)) :=
  fn_okD tysOk [C_i_bit K] 0 [] [] rv_i_Relation_has K Try.func75 (by kernel_rfl) trivial (fun _ => by kernel_rfl)
noncomputable def C_i_Relation_has (K : Nat) : CB Try.prog := .f _ _ (ok_i_Relation_has K)
noncomputable def as_i_rowsOf : Ty := (.pair (.int .i64) .unit)
noncomputable def sp_i_rowsOf (F : (Int × Unit) → Option Int) : FnSpec := ⟨as_i_rowsOf, [false], (.int .i64), F⟩
noncomputable def i_rowsOf (K : Nat) (x : (Int × Unit)) : Option Int :=
    (if (decide ((0 : Int) ≤ x.1)) = true then
    some (shlI .i64 (1 : Int) x.1)
    else
    none)
noncomputable def rv_i_rowsOf : Lv := [(2, (.v (.int .i64)))]
theorem ok_i_rowsOf (K : Nat) : FnOk Try.prog 72 (sp_i_rowsOf (i_rowsOf K)) :=
  fn_okD tysOk [] 0 [] [] rv_i_rowsOf K Try.func72 (by kernel_rfl) trivial (fun _ => by kernel_rfl)
noncomputable def C_i_rowsOf (K : Nat) : CB Try.prog := .f _ _ (ok_i_rowsOf K)
noncomputable def as_i_Relation_tuples : Ty := (.pair tq0 .unit)
noncomputable def sp_i_Relation_tuples (F : (dq0 × Unit) → Option (List Int)) : FnSpec := ⟨as_i_Relation_tuples, [false], (.sl (.int .i64)), F⟩
noncomputable def i_Relation_tuples_l3 {R : Type} (K : Nat) : Nat → dq0 → (List Int) → Int → Int → ((List Int) → Option R) → Option R
  | 0, _, _, _, _, _ => none
  | k + 1, v1, v3, v7, v8, kx0 =>
    (if (decide (v8 < v7)) = true then
    (i_Relation_has K (v1, v8, ())).bind fun y2 =>
    (if y2 = true then
    (if (decide (v3.length + ([v8]).length ≤ lim)) = true then
    let l3 := (v3 ++ [v8])
    i_Relation_tuples_l3 K k v1 l3 v7 (IntKind.i64.wrap (v8 + (1 : Int))) kx0
    else
    none)
    else
    i_Relation_tuples_l3 K k v1 v3 v7 (IntKind.i64.wrap (v8 + (1 : Int))) kx0)
    else
    kx0 v3)
noncomputable def i_Relation_tuples (K : Nat) (x : (dq0 × Unit)) : Option (List Int) :=
    (i_rowsOf K (x.1.1, ())).bind fun y1 =>
    i_Relation_tuples_l3 K K x.1 ([] : List Int) y1 (0 : Int) (fun z4 =>
    some z4)
noncomputable def X0_i_Relation_tuples : Lv := [(3, (.r (.int .i64)))]
noncomputable def rv_i_Relation_tuples : Lv := [(2, (.r (.int .i64)))]
noncomputable def D_i_Relation_tuples (K : Nat) : List (PD (den (.sl (.int .i64)))) := [.L 3 [(1, (.bx (.v tq0))), (3, (.r (.int .i64))), (7, (.v (.int .i64))), (8, (.v (.int .i64)))] [] (fun k x kx kr => i_Relation_tuples_l3 K k x.1 x.2.1 x.2.2.1 x.2.2.2.1 (fun z0 => kx 0 (mkSt X0_i_Relation_tuples (z0, ()))))]
theorem ok_i_Relation_tuples (K : Nat) : FnOk Try.prog 82 (sp_i_Relation_tuples (i_Relation_tuples K)) :=
  fn_okD tysOk [C_i_rowsOf K, C_i_Relation_has K] 0 (D_i_Relation_tuples K) [(0, X0_i_Relation_tuples)] rv_i_Relation_tuples K Try.func82 (by kernel_rfl) ⟨⟨fun _ _ _ _ => by kernel_rfl, fun _ _ _ => rfl⟩, trivial⟩ (fun _ => by kernel_rfl)
noncomputable def C_i_Relation_tuples (K : Nat) : CB Try.prog := .f _ _ (ok_i_Relation_tuples K)
noncomputable def as_slices_Clone_int64 : Ty := (.pair (.sl (.int .i64)) .unit)
noncomputable def sp_slices_Clone_int64 (F : ((List Int) × Unit) → Option (List Int)) : FnSpec := ⟨as_slices_Clone_int64, [false], (.sl (.int .i64)), F⟩
noncomputable def slices_Clone_int64 (K : Nat) (x : List Int × Unit) : Option (List Int) := if x.1.length ≤ lim then some x.1 else none
noncomputable def ren_slices_Clone_int64 : Go.Shelf.Ren := ⟨fun _ => 180, fun k => bif Nat.beq k 22 then 43 else bif Nat.beq k 23 then 2 else 4, fun k => k⟩
theorem lays_slices_Clone_int64 : SlLaysE0.n41 Try.prog ren_slices_Clone_int64 :=
  ⟨by kernel_rfl, ⟨Try.f180.name, by kernel_rfl, by kernel_rfl⟩, Try.underlying4, Try.isAgg4, Try.sizeOf4, Try.zeroValue4, Try.underlying43, Try.isAgg43, Try.sizeOf43, Try.zeroValue43⟩
theorem ok_slices_Clone_int64 (K : Nat) : FnOk Try.prog 180 (sp_slices_Clone_int64 (slices_Clone_int64 K)) := clone_ok (ty := lk tys) lays_slices_Clone_int64 (tysOk 2 _ rfl) rfl (z := .val (.int .i64) (0 : Int)) rfl rfl (by decide)
noncomputable def C_slices_Clone_int64 (K : Nat) : CB Try.prog := .f _ _ (ok_slices_Clone_int64 K)
noncomputable def i_Func_made_l4 {R : Type} (K : Nat) (r : (dq0 × Int × (List Int) × (List Int) × Int × ((Int × Unit) → Option Bool) × Unit) → Option Bool) : Nat → (List Int) → ((Int × Unit) → Option Bool) → dq0 → Int → Int → Int → (((Int × Unit) → Option Bool) → Int → Option R) → Option R
  | 0, _, _, _, _, _, _, _ => none
  | k + 1, v3, v5, v6, v13, v23, v24, kx0 =>
    (if (decide (v24 < v23)) = true then
    (if (bnds v24 (v3.length : Int)) = true then
    (i_Func_at K (v6, (v3.getD v24.toNat (0 : Int)), ())).bind fun y1 =>
    (if (decide ((0 : Int) ≤ v24)) = true then
    i_Func_made_l4 K r k v3 v5 v6 (bitI .or .i64 v13 (shlI .i64 y1 v24)) v23 (IntKind.i64.wrap (v24 + (1 : Int))) kx0
    else
    none)
    else
    none)
    else
    kx0 v5 v13)
noncomputable def i_Func_made_l14 {R : Type} (K : Nat) (r : (dq0 × Int × (List Int) × (List Int) × Int × ((Int × Unit) → Option Bool) × Unit) → Option Bool) : Nat → Int → (List Int) → (List Int) → Int → ((Int × Unit) → Option Bool) → dq0 → Int → (List Int) → (List Int) → Int → Int → Int → Int → (Int → (List Int) → (List Int) → Int → ((Int × Unit) → Option Bool) → dq0 → (List Int) → (List Int) → Int → Int → Option R) → Option R
  | 0, _, _, _, _, _, _, _, _, _, _, _, _, _, _ => none
  | k + 1, v1, v2, v3, v4, v5, v6, v16, v17, v41, v42, v43, v49, v50, kx4 =>
    (if (decide (v50 < v49)) = true then
    (if (bnds v50 (v17.length : Int)) = true then
    (i_bit K (v16, v50, ())).bind fun y6 =>
    (if (decide ((0 : Int) ≤ v4)) = true then
    let x7 := (bitI .or .i64 (v17.getD v50.toNat (0 : Int)) (shlI .i64 y6 v4))
    (if (bnds v50 (v17.length : Int)) = true then
    let l8 := (v17.set v50.toNat x7)
    i_Func_made_l14 K r k v1 v2 v3 v4 v5 v6 v16 l8 v41 v42 v43 v49 (IntKind.i64.wrap (v50 + (1 : Int))) kx4
    else
    none)
    else
    none)
    else
    none)
    else
    kx4 v1 v2 v3 v4 v5 v6 v17 v41 v42 v43)
noncomputable def i_Func_made_l10 {R : Type} (K : Nat) (r : (dq0 × Int × (List Int) × (List Int) × Int × ((Int × Unit) → Option Bool) × Unit) → Option Bool) : Nat → Int → (List Int) → (List Int) → Int → ((Int × Unit) → Option Bool) → dq0 → (List Int) → Int → Int → (Option R) → (Bool → Option R) → Option R
  | 0, _, _, _, _, _, _, _, _, _, _, _ => none
  | k + 1, v1, v2, v3, v4, v5, v6, v41, v42, v43, kx2, kr =>
    (if (decide (v43 < v42)) = true then
    (if (bnds v43 (v41.length : Int)) = true then
    (slices_Clone_int64 K (v3, ())).bind fun y5 =>
    i_Func_made_l14 K r k v1 v2 v3 v4 v5 v6 (v41.getD v43.toNat (0 : Int)) y5 v41 v42 v43 v1 (0 : Int) (fun z9 z10 z11 z12 z13 z14 z15 z16 z17 z18 =>
    (r (z14, z9, z10, z15, (IntKind.i64.wrap (z12 + (1 : Int))), z13, ())).bind fun y19 =>
    (if (!y19) = true then
    kr false
    else
    i_Func_made_l10 K r k z9 z10 z11 z12 z13 z14 z16 z17 (IntKind.i64.wrap (z18 + (1 : Int))) kx2 kr))
    else
    none)
    else
    kx2)
noncomputable def i_Func_made_b (K : Nat) (r : (dq0 × Int × (List Int) × (List Int) × Int × ((Int × Unit) → Option Bool) × Unit) → Option Bool) (x : (dq0 × Int × (List Int) × (List Int) × Int × ((Int × Unit) → Option Bool) × Unit)) : Option Bool :=
    (if (decide (x.2.2.2.2.1 = x.1.1)) = true then
    i_Func_made_l4 K r K x.2.2.2.1 x.2.2.2.2.2.1 x.1 (0 : Int) x.2.1 (0 : Int) (fun z2 z3 =>
    (z2 (z3, ())).bind fun y4 =>
    some y4)
    else
    i_Func_made_l10 K r K x.2.1 x.2.2.1 x.2.2.2.1 x.2.2.2.2.1 x.2.2.2.2.2.1 x.1 x.2.2.1 (x.2.2.1.length : Int) (0 : Int) (some true) (fun z20 =>
    some z20))
noncomputable def i_Func_made (K : Nat) : Nat → (dq0 × Int × (List Int) × (List Int) × Int × ((Int × Unit) → Option Bool) × Unit) → Option Bool
  | 0 => fun _ => none
  | k + 1 => i_Func_made_b K (i_Func_made K k)
noncomputable def X0_i_Func_made : Lv := [(5, (.v (.fn (.pair (.int .i64) .unit) .bool))), (13, (.v (.int .i64)))]
noncomputable def X2_i_Func_made : Lv := []
noncomputable def X4_i_Func_made : Lv := [(1, (.v (.int .i64))), (2, (.v (.sl (.int .i64)))), (3, (.v (.sl (.int .i64)))), (4, (.v (.int .i64))), (5, (.v (.fn (.pair (.int .i64) .unit) .bool))), (6, (.bx (.v tq0))), (17, (.r (.int .i64))), (41, (.v (.sl (.int .i64)))), (42, (.v (.int .i64))), (43, (.v (.int .i64)))]
noncomputable def rv_i_Func_made : Lv := [(12, (.v .bool))]
noncomputable def D_i_Func_made (K : Nat) (r : (dq0 × Int × (List Int) × (List Int) × Int × ((Int × Unit) → Option Bool) × Unit) → Option Bool) : List (PD (den .bool)) := [.L 4 [(3, (.v (.sl (.int .i64)))), (5, (.v (.fn (.pair (.int .i64) .unit) .bool))), (6, (.bx (.v tq0))), (13, (.v (.int .i64))), (23, (.v (.int .i64))), (24, (.v (.int .i64)))] [] (fun k x kx kr => i_Func_made_l4 K r k x.1 x.2.1 x.2.2.1 x.2.2.2.1 x.2.2.2.2.1 x.2.2.2.2.2.1 (fun z0 z1 => kx 0 (mkSt X0_i_Func_made (z0, z1, ())))),
  .L 10 [(1, (.v (.int .i64))), (2, (.v (.sl (.int .i64)))), (3, (.v (.sl (.int .i64)))), (4, (.v (.int .i64))), (5, (.v (.fn (.pair (.int .i64) .unit) .bool))), (6, (.bx (.v tq0))), (41, (.v (.sl (.int .i64)))), (42, (.v (.int .i64))), (43, (.v (.int .i64)))] [] (fun k x kx kr => i_Func_made_l10 K r k x.1 x.2.1 x.2.2.1 x.2.2.2.1 x.2.2.2.2.1 x.2.2.2.2.2.1 x.2.2.2.2.2.2.1 x.2.2.2.2.2.2.2.1 x.2.2.2.2.2.2.2.2.1 (kx 2 (mkSt X2_i_Func_made ())) (fun z0 => kr (mkSt rv_i_Func_made (z0, ())))),
  .L 14 [(1, (.v (.int .i64))), (2, (.v (.sl (.int .i64)))), (3, (.v (.sl (.int .i64)))), (4, (.v (.int .i64))), (5, (.v (.fn (.pair (.int .i64) .unit) .bool))), (6, (.bx (.v tq0))), (16, (.v (.int .i64))), (17, (.r (.int .i64))), (41, (.v (.sl (.int .i64)))), (42, (.v (.int .i64))), (43, (.v (.int .i64))), (49, (.v (.int .i64))), (50, (.v (.int .i64)))] [] (fun k x kx kr => i_Func_made_l14 K r k x.1 x.2.1 x.2.2.1 x.2.2.2.1 x.2.2.2.2.1 x.2.2.2.2.2.1 x.2.2.2.2.2.2.1 x.2.2.2.2.2.2.2.1 x.2.2.2.2.2.2.2.2.1 x.2.2.2.2.2.2.2.2.2.1 x.2.2.2.2.2.2.2.2.2.2.1 x.2.2.2.2.2.2.2.2.2.2.2.1 x.2.2.2.2.2.2.2.2.2.2.2.2.1 (fun z0 z1 z2 z3 z4 z5 z6 z7 z8 z9 => kx 4 (mkSt X4_i_Func_made (z0, z1, z2, z3, z4, z5, z6, z7, z8, z9, ()))))]
theorem okb_i_Func_made (K : Nat) (r : (dq0 × Int × (List Int) × (List Int) × Int × ((Int × Unit) → Option Bool) × Unit) → Option Bool) (hr : FnOk Try.prog 144 (sp_i_Func_made r)) : FnOk Try.prog 144 (sp_i_Func_made (i_Func_made_b K r)) :=
  fn_okD tysOk [C_i_bit K, C_i_Func_at K, .f _ (sp_i_Func_made (r)) (hr), C_slices_Clone_int64 K] 0 (D_i_Func_made K r) [(0, X0_i_Func_made), (2, X2_i_Func_made), (4, X4_i_Func_made)] rv_i_Func_made K Try.func144 (by kernel_rfl) ⟨⟨fun _ _ _ _ => by kernel_rfl, fun _ _ _ => rfl⟩, ⟨⟨fun _ _ _ _ => by kernel_rfl, fun _ _ _ => rfl⟩, ⟨⟨fun _ _ _ _ => by kernel_rfl, fun _ _ _ => rfl⟩, trivial⟩⟩⟩ (fun _ => by kernel_rfl)
theorem ok_i_Func_made (K : Nat) : ∀ k, FnOk Try.prog 144 (sp_i_Func_made (i_Func_made K k))
  | 0 => fnOk_none
  | k + 1 => okb_i_Func_made K (i_Func_made K k) (ok_i_Func_made K k)
noncomputable def as_i_Func_keeps : Ty := (.pair tq0 (.pair tq0 .unit))
noncomputable def sp_i_Func_keeps (F : (dq0 × dq0 × Unit) → Option Bool) : FnSpec := ⟨as_i_Func_keeps, [false, false], .bool, F⟩
noncomputable def i_Func_keeps (K : Nat) (x : (dq0 × dq0 × Unit)) : Option Bool :=
    (i_Relation_tuples K (x.2.1, ())).bind fun y1 =>
    (if (decide (0 ≤ x.2.1.1) && decide (x.2.1.1 ≤ (lim : Int)) && decide (x.2.1.1 = x.2.1.1)) = true then
    let l2 := (List.replicate x.2.1.1.toNat (0 : Int))
    (i_Func_made K K (x.1, x.2.1.1, y1, l2, (0 : Int), (fun y4 => i_Relation_has K (x.2.1, y4.1, ())), ())).bind fun y3 =>
    some y3
    else
    none)
noncomputable def rv_i_Func_keeps : Lv := [(4, (.v .bool))]
theorem ok_i_Func_keeps (K : Nat) : FnOk Try.prog 93 (sp_i_Func_keeps (i_Func_keeps K)) :=
  fn_okD tysOk [C_i_Relation_has K, C_i_Relation_tuples K, .f _ (sp_i_Func_made (i_Func_made K K)) (ok_i_Func_made K K)] 0 [] [] rv_i_Func_keeps K Try.func93 (by kernel_rfl) trivial (fun _ => by kernel_rfl)
noncomputable def C_i_Func_keeps (K : Nat) : CB Try.prog := .f _ _ (ok_i_Func_keeps K)
noncomputable def as_i_Func_rows : Ty := (.pair tq0 .unit)
noncomputable def sp_i_Func_rows (F : (dq0 × Unit) → Option Int) : FnSpec := ⟨as_i_Func_rows, [false], (.int .i64), F⟩
noncomputable def i_Func_rows (K : Nat) (x : (dq0 × Unit)) : Option Int :=
    (i_rowsOf K (x.1.1, ())).bind fun y1 =>
    some y1
noncomputable def rv_i_Func_rows : Lv := [(2, (.v (.int .i64)))]
theorem ok_i_Func_rows (K : Nat) : FnOk Try.prog 88 (sp_i_Func_rows (i_Func_rows K)) :=
  fn_okD tysOk [C_i_rowsOf K] 0 [] [] rv_i_Func_rows K Try.func88 (by kernel_rfl) trivial (fun _ => by kernel_rfl)
noncomputable def C_i_Func_rows (K : Nat) : CB Try.prog := .f _ _ (ok_i_Func_rows K)
noncomputable def as_i_within : Ty := (.pair (.int .i64) (.pair (.int .i64) (.pair (.int .i64) .unit)))
noncomputable def sp_i_within (F : (Int × Int × Int × Unit) → Option Bool) : FnSpec := ⟨as_i_within, [false, false, false], .bool, F⟩
noncomputable def i_within (K : Nat) (x : (Int × Int × Int × Unit)) : Option Bool :=
    (if (decide (x.1 ≥ x.2.1)) = true then
    some (decide (x.1 ≤ x.2.2.1))
    else
    some false)
noncomputable def rv_i_within : Lv := [(6, (.v .bool))]
theorem ok_i_within (K : Nat) : FnOk Try.prog 80 (sp_i_within (i_within K)) :=
  fn_okD tysOk [] 0 [] [] rv_i_within K Try.func80 (by kernel_rfl) trivial (fun _ => by kernel_rfl)
noncomputable def C_i_within (K : Nat) : CB Try.prog := .f _ _ (ok_i_within K)
noncomputable def as_i_isArity : Ty := (.pair (.int .i64) .unit)
noncomputable def sp_i_isArity (F : (Int × Unit) → Option Bool) : FnSpec := ⟨as_i_isArity, [false], .bool, F⟩
noncomputable def i_isArity (K : Nat) (x : (Int × Unit)) : Option Bool :=
    (i_within K (x.1, (0 : Int), (4 : Int), ())).bind fun y1 =>
    some y1
noncomputable def rv_i_isArity : Lv := [(2, (.v .bool))]
theorem ok_i_isArity (K : Nat) : FnOk Try.prog 52 (sp_i_isArity (i_isArity K)) :=
  fn_okD tysOk [C_i_within K] 0 [] [] rv_i_isArity K Try.func52 (by kernel_rfl) trivial (fun _ => by kernel_rfl)
noncomputable def C_i_isArity (K : Nat) : CB Try.prog := .f _ _ (ok_i_isArity K)
noncomputable def as_i_funcsOf : Ty := (.pair (.int .i64) .unit)
noncomputable def sp_i_funcsOf (F : (Int × Unit) → Option Int) : FnSpec := ⟨as_i_funcsOf, [false], (.int .i64), F⟩
noncomputable def i_funcsOf (K : Nat) (x : (Int × Unit)) : Option Int :=
    (i_rowsOf K (x.1, ())).bind fun y1 =>
    (if (decide ((0 : Int) ≤ y1)) = true then
    some (shlI .i64 (1 : Int) y1)
    else
    none)
noncomputable def rv_i_funcsOf : Lv := [(2, (.v (.int .i64)))]
theorem ok_i_funcsOf (K : Nat) : FnOk Try.prog 103 (sp_i_funcsOf (i_funcsOf K)) :=
  fn_okD tysOk [C_i_rowsOf K] 0 [] [] rv_i_funcsOf K Try.func103 (by kernel_rfl) trivial (fun _ => by kernel_rfl)
noncomputable def C_i_funcsOf (K : Nat) : CB Try.prog := .f _ _ (ok_i_funcsOf K)
noncomputable def as_i_IsFunc : Ty := (.pair tq0 .unit)
noncomputable def sp_i_IsFunc (F : (dq0 × Unit) → Option Bool) : FnSpec := ⟨as_i_IsFunc, [false], .bool, F⟩
noncomputable def i_IsFunc (K : Nat) (x : (dq0 × Unit)) : Option Bool :=
    (i_isArity K (x.1.1, ())).bind fun y1 =>
    (if y1 = true then
    (i_funcsOf K (x.1.1, ())).bind fun y2 =>
    (i_within K (x.1.2.1, (0 : Int), (IntKind.i64.wrap (y2 - (1 : Int))), ())).bind fun y3 =>
    some y3
    else
    some false)
noncomputable def rv_i_IsFunc : Lv := [(2, (.v .bool))]
theorem ok_i_IsFunc (K : Nat) : FnOk Try.prog 38 (sp_i_IsFunc (i_IsFunc K)) :=
  fn_okD tysOk [C_i_isArity K, C_i_within K, C_i_funcsOf K] 0 [] [] rv_i_IsFunc K Try.func38 (by kernel_rfl) trivial (fun _ => by kernel_rfl)
noncomputable def C_i_IsFunc (K : Nat) : CB Try.prog := .f _ _ (ok_i_IsFunc K)
noncomputable def as_i_IsRelation : Ty := (.pair tq0 .unit)
noncomputable def sp_i_IsRelation (F : (dq0 × Unit) → Option Bool) : FnSpec := ⟨as_i_IsRelation, [false], .bool, F⟩
noncomputable def i_IsRelation (K : Nat) (x : (dq0 × Unit)) : Option Bool :=
    (i_within K (x.1.1, (1 : Int), (4 : Int), ())).bind fun y1 =>
    (if y1 = true then
    (i_funcsOf K (x.1.1, ())).bind fun y2 =>
    (i_within K (x.1.2.1, (0 : Int), (IntKind.i64.wrap (y2 - (1 : Int))), ())).bind fun y3 =>
    some y3
    else
    some false)
noncomputable def rv_i_IsRelation : Lv := [(2, (.v .bool))]
theorem ok_i_IsRelation (K : Nat) : FnOk Try.prog 71 (sp_i_IsRelation (i_IsRelation K)) :=
  fn_okD tysOk [C_i_within K, C_i_funcsOf K] 0 [] [] rv_i_IsRelation K Try.func71 (by kernel_rfl) trivial (fun _ => by kernel_rfl)
noncomputable def C_i_IsRelation (K : Nat) : CB Try.prog := .f _ _ (ok_i_IsRelation K)
noncomputable def as_slices_IndexFunc_impl_Func : Ty := (.pair (.sl tq0) (.pair (.fn (.pair tq0 .unit) .bool) .unit))
noncomputable def sp_slices_IndexFunc_impl_Func (F : ((List dq0) × ((dq0 × Unit) → Option Bool) × Unit) → Option Int) : FnSpec := ⟨as_slices_IndexFunc_impl_Func, [false, false], (.int .i64), F⟩
noncomputable def slices_IndexFunc_impl_Func_l2 {R : Type} (K : Nat) : Nat → (List dq0) → ((dq0 × Unit) → Option Bool) → Int → Int → (Option R) → (Int → Option R) → Option R
  | 0, _, _, _, _, _, _ => none
  | k + 1, v0, v1, v7, v8, kx0, kr =>
    (if (decide (v8 < v7)) = true then
    (if (bnds v8 (v0.length : Int)) = true then
    (v1 ((v0.getD v8.toNat ((0 : Int), (0 : Int), ())), ())).bind fun y1 =>
    (if y1 = true then
    kr v8
    else
    slices_IndexFunc_impl_Func_l2 K k v0 v1 v7 (IntKind.i64.wrap (v8 + (1 : Int))) kx0 kr)
    else
    none)
    else
    kx0)
noncomputable def slices_IndexFunc_impl_Func (K : Nat) (x : ((List dq0) × ((dq0 × Unit) → Option Bool) × Unit)) : Option Int :=
    slices_IndexFunc_impl_Func_l2 K K x.1 x.2.1 (x.1.length : Int) (0 : Int) (some (-1 : Int)) (fun z2 =>
    some z2)
noncomputable def X0_slices_IndexFunc_impl_Func : Lv := []
noncomputable def rv_slices_IndexFunc_impl_Func : Lv := [(4, (.v (.int .i64)))]
noncomputable def D_slices_IndexFunc_impl_Func (K : Nat) : List (PD (den (.int .i64))) := [.L 2 [(0, (.v (.sl tq0))), (1, (.v (.fn (.pair tq0 .unit) .bool))), (7, (.v (.int .i64))), (8, (.v (.int .i64)))] [] (fun k x kx kr => slices_IndexFunc_impl_Func_l2 K k x.1 x.2.1 x.2.2.1 x.2.2.2.1 (kx 0 (mkSt X0_slices_IndexFunc_impl_Func ())) (fun z0 => kr (mkSt rv_slices_IndexFunc_impl_Func (z0, ()))))]
theorem ok_slices_IndexFunc_impl_Func (K : Nat) : FnOk Try.prog 64 (sp_slices_IndexFunc_impl_Func (slices_IndexFunc_impl_Func K)) :=
  fn_okD tysOk [] 0 (D_slices_IndexFunc_impl_Func K) [(0, X0_slices_IndexFunc_impl_Func)] rv_slices_IndexFunc_impl_Func K Try.func64 (by kernel_rfl) ⟨⟨fun _ _ _ _ => by kernel_rfl, fun _ _ _ => rfl⟩, trivial⟩ (fun _ => by kernel_rfl)
noncomputable def C_slices_IndexFunc_impl_Func (K : Nat) : CB Try.prog := .f _ _ (ok_slices_IndexFunc_impl_Func K)
noncomputable def as_slices_ContainsFunc_impl_Func : Ty := (.pair (.sl tq0) (.pair (.fn (.pair tq0 .unit) .bool) .unit))
noncomputable def sp_slices_ContainsFunc_impl_Func (F : ((List dq0) × ((dq0 × Unit) → Option Bool) × Unit) → Option Bool) : FnSpec := ⟨as_slices_ContainsFunc_impl_Func, [false, false], .bool, F⟩
noncomputable def slices_ContainsFunc_impl_Func (K : Nat) (x : ((List dq0) × ((dq0 × Unit) → Option Bool) × Unit)) : Option Bool :=
    (slices_IndexFunc_impl_Func K (x.1, x.2.1, ())).bind fun y1 =>
    some (decide (y1 ≥ (0 : Int)))
noncomputable def rv_slices_ContainsFunc_impl_Func : Lv := [(4, (.v .bool))]
theorem ok_slices_ContainsFunc_impl_Func (K : Nat) : FnOk Try.prog 127 (sp_slices_ContainsFunc_impl_Func (slices_ContainsFunc_impl_Func K)) :=
  fn_okD tysOk [C_slices_IndexFunc_impl_Func K] 0 [] [] rv_slices_ContainsFunc_impl_Func K Try.func127 (by kernel_rfl) trivial (fun _ => by kernel_rfl)
noncomputable def C_slices_ContainsFunc_impl_Func (K : Nat) : CB Try.prog := .f _ _ (ok_slices_ContainsFunc_impl_Func K)
noncomputable def as_i_areFuncs_c1 : Ty := (.pair tq0 .unit)
noncomputable def sp_i_areFuncs_c1 (F : (dq0 × Unit) → Option Bool) : FnSpec := ⟨as_i_areFuncs_c1, [false], .bool, F⟩
noncomputable def i_areFuncs_c1 (K : Nat) (x : (dq0 × Unit)) : Option Bool :=
    (i_IsFunc K (x.1, ())).bind fun y1 =>
    some (!y1)
noncomputable def rv_i_areFuncs_c1 : Lv := [(2, (.v .bool))]
theorem ok_i_areFuncs_c1 (K : Nat) : FnOk Try.prog 128 (sp_i_areFuncs_c1 (i_areFuncs_c1 K)) :=
  fn_okD tysOk [C_i_IsFunc K] 0 [] [] rv_i_areFuncs_c1 K Try.func128 (by kernel_rfl) trivial (fun _ => by kernel_rfl)
noncomputable def C_i_areFuncs_c1 (K : Nat) : CB Try.prog := .f _ _ (ok_i_areFuncs_c1 K)
noncomputable def as_i_areFuncs : Ty := (.pair (.sl tq0) .unit)
noncomputable def sp_i_areFuncs (F : ((List dq0) × Unit) → Option Bool) : FnSpec := ⟨as_i_areFuncs, [false], .bool, F⟩
noncomputable def i_areFuncs (K : Nat) (x : ((List dq0) × Unit)) : Option Bool :=
    (slices_ContainsFunc_impl_Func K (x.1, (fun y2 => i_areFuncs_c1 K (y2.1, ())), ())).bind fun y1 =>
    some (!y1)
noncomputable def rv_i_areFuncs : Lv := [(2, (.v .bool))]
theorem ok_i_areFuncs (K : Nat) : FnOk Try.prog 61 (sp_i_areFuncs (i_areFuncs K)) :=
  fn_okD tysOk [C_slices_ContainsFunc_impl_Func K, C_i_areFuncs_c1 K] 0 [] [] rv_i_areFuncs K Try.func61 (by kernel_rfl) trivial (fun _ => by kernel_rfl)
noncomputable def C_i_areFuncs (K : Nat) : CB Try.prog := .f _ _ (ok_i_areFuncs K)
noncomputable def as_i_funcBy : Ty := (.pair (.int .i64) (.pair (.fn (.pair (.int .i64) .unit) (.int .i64)) .unit))
noncomputable def sp_i_funcBy (F : (Int × ((Int × Unit) → Option Int) × Unit) → Option dq0) : FnSpec := ⟨as_i_funcBy, [false, false], tq0, F⟩
noncomputable def i_funcBy_l3 {R : Type} (K : Nat) : Nat → ((Int × Unit) → Option Int) → dq0 → dq0 → Int → Int → (dq0 → dq0 → Option R) → Option R
  | 0, _, _, _, _, _, _ => none
  | k + 1, v1, v4, v5, v10, v11, kx0 =>
    (if (decide (v11 < v10)) = true then
    (v1 (v11, ())).bind fun y2 =>
    (if (decide ((0 : Int) ≤ v11)) = true then
    i_funcBy_l3 K k v1 v4 (v5.1, (bitI .or .i64 v5.2.1 (shlI .i64 y2 v11)), ()) v10 (IntKind.i64.wrap (v11 + (1 : Int))) kx0
    else
    none)
    else
    kx0 v4 v5)
noncomputable def i_funcBy (K : Nat) (x : (Int × ((Int × Unit) → Option Int) × Unit)) : Option dq0 :=
    (i_rowsOf K (x.1, ())).bind fun y1 =>
    i_funcBy_l3 K K x.2.1 ((0 : Int), (0 : Int), ()) (x.1, ((0 : Int), (0 : Int), ()).2.1, ()) y1 (0 : Int) (fun z3 z4 =>
    some z4)
noncomputable def X0_i_funcBy : Lv := [(4, (.bx (.v tq0))), (5, (.bx (.v tq0)))]
noncomputable def rv_i_funcBy : Lv := [(4, (.bx (.v tq0)))]
noncomputable def D_i_funcBy (K : Nat) : List (PD (den tq0)) := [.L 3 [(1, (.v (.fn (.pair (.int .i64) .unit) (.int .i64)))), (4, (.bx (.v tq0))), (5, (.bx (.v tq0))), (10, (.v (.int .i64))), (11, (.v (.int .i64)))] [] (fun k x kx kr => i_funcBy_l3 K k x.1 x.2.1 x.2.2.1 x.2.2.2.1 x.2.2.2.2.1 (fun z0 z1 => kx 0 (mkSt X0_i_funcBy (z0, z1, ()))))]
theorem ok_i_funcBy (K : Nat) : FnOk Try.prog 139 (sp_i_funcBy (i_funcBy K)) :=
  fn_okD tysOk [C_i_rowsOf K] 0 (D_i_funcBy K) [(0, X0_i_funcBy)] rv_i_funcBy K Try.func139 (by kernel_rfl) ⟨⟨fun _ _ _ _ => by kernel_rfl, fun _ _ _ => rfl⟩, trivial⟩ (fun _ => by kernel_rfl)
noncomputable def C_i_funcBy (K : Nat) : CB Try.prog := .f _ _ (ok_i_funcBy K)
noncomputable def as_i_one : Ty := (.pair .bool .unit)
noncomputable def sp_i_one (F : (Bool × Unit) → Option Int) : FnSpec := ⟨as_i_one, [false], (.int .i64), F⟩
noncomputable def i_one (K : Nat) (x : (Bool × Unit)) : Option Int :=
    (if x.1 = true then
    some (1 : Int)
    else
    some (0 : Int))
noncomputable def rv_i_one : Lv := [(2, (.v (.int .i64)))]
theorem ok_i_one (K : Nat) : FnOk Try.prog 141 (sp_i_one (i_one K)) :=
  fn_okD tysOk [] 0 [] [] rv_i_one K Try.func141 (by kernel_rfl) trivial (fun _ => by kernel_rfl)
noncomputable def C_i_one (K : Nat) : CB Try.prog := .f _ _ (ok_i_one K)
noncomputable def as_i_relationBy_c1 : Ty := (.pair (.int .i64) (.pair (.ptr (.fn (.pair (.int .i64) .unit) .bool)) .unit))
noncomputable def sp_i_relationBy_c1 (F : (Int × ((Int × Unit) → Option Bool) × Unit) → Option Int) : FnSpec := ⟨as_i_relationBy_c1, [false, false], (.int .i64), F⟩
noncomputable def i_relationBy_c1 (K : Nat) (x : (Int × ((Int × Unit) → Option Bool) × Unit)) : Option Int :=
    (x.2.1 (x.1, ())).bind fun y1 =>
    (i_one K (y1, ())).bind fun y2 =>
    some y2
noncomputable def rv_i_relationBy_c1 : Lv := [(3, (.v (.int .i64)))]
theorem ok_i_relationBy_c1 (K : Nat) : FnOk Try.prog 140 (sp_i_relationBy_c1 (i_relationBy_c1 K)) :=
  fn_okD tysOk [C_i_one K] 0 [] [] rv_i_relationBy_c1 K Try.func140 (by kernel_rfl) trivial (fun _ => by kernel_rfl)
noncomputable def C_i_relationBy_c1 (K : Nat) : CB Try.prog := .f _ _ (ok_i_relationBy_c1 K)
noncomputable def as_i_relationBy : Ty := (.pair (.int .i64) (.pair (.fn (.pair (.int .i64) .unit) .bool) .unit))
noncomputable def sp_i_relationBy (F : (Int × ((Int × Unit) → Option Bool) × Unit) → Option dq0) : FnSpec := ⟨as_i_relationBy, [false, false], tq0, F⟩
noncomputable def i_relationBy (K : Nat) (x : (Int × ((Int × Unit) → Option Bool) × Unit)) : Option dq0 :=
    (i_funcBy K (x.1, (fun y2 => i_relationBy_c1 K (y2.1, x.2.1, ())), ())).bind fun y1 =>
    some ((x.1, ((0 : Int), (0 : Int), ()).2.1, ()).1, y1.2.1, ())
noncomputable def rv_i_relationBy : Lv := [(4, (.bx (.v tq0)))]
theorem ok_i_relationBy (K : Nat) : FnOk Try.prog 73 (sp_i_relationBy (i_relationBy K)) :=
  fn_okD tysOk [C_i_funcBy K, C_i_relationBy_c1 K] 0 [] [] rv_i_relationBy K Try.func73 (by kernel_rfl) trivial (fun _ => by kernel_rfl)
noncomputable def C_i_relationBy (K : Nat) : CB Try.prog := .f _ _ (ok_i_relationBy K)
noncomputable def as_s_l01Rows : Ty := (.pair (.int .i64) .unit)
noncomputable def sp_s_l01Rows (F : (Int × Unit) → Option Int) : FnSpec := ⟨as_s_l01Rows, [false], (.int .i64), F⟩
noncomputable def s_l01Rows (K : Nat) (x : (Int × Unit)) : Option Int :=
    (if (decide ((0 : Int) ≤ (IntKind.u64.wrap x.1))) = true then
    some (shlI .i64 (1 : Int) (IntKind.u64.wrap x.1))
    else
    none)
noncomputable def rv_s_l01Rows : Lv := [(2, (.v (.int .i64)))]
theorem ok_s_l01Rows (K : Nat) : FnOk Try.prog 90 (sp_s_l01Rows (s_l01Rows K)) :=
  fn_okD tysOk [] 0 [] [] rv_s_l01Rows K Try.func90 (by kernel_rfl) trivial (fun _ => by kernel_rfl)
noncomputable def C_s_l01Rows (K : Nat) : CB Try.prog := .f _ _ (ok_s_l01Rows K)
noncomputable def as_s_l01All : Ty := (.pair (.int .i64) .unit)
noncomputable def sp_s_l01All (F : (Int × Unit) → Option Int) : FnSpec := ⟨as_s_l01All, [false], (.int .i64), F⟩
noncomputable def s_l01All (K : Nat) (x : (Int × Unit)) : Option Int :=
    (s_l01Rows K (x.1, ())).bind fun y1 =>
    (if (decide ((0 : Int) ≤ (IntKind.u64.wrap y1))) = true then
    let x2 := (IntKind.i64.wrap ((shlI .i64 (1 : Int) (IntKind.u64.wrap y1)) - (1 : Int)))
    some x2
    else
    none)
noncomputable def rv_s_l01All : Lv := [(2, (.v (.int .i64)))]
theorem ok_s_l01All (K : Nat) : FnOk Try.prog 123 (sp_s_l01All (s_l01All K)) :=
  fn_okD tysOk [C_s_l01Rows K] 0 [] [] rv_s_l01All K Try.func123 (by kernel_rfl) trivial (fun _ => by kernel_rfl)
noncomputable def C_s_l01All (K : Nat) : CB Try.prog := .f _ _ (ok_s_l01All K)
noncomputable def as_s_l01At : Ty := (.pair tq0 (.pair (.int .i64) .unit))
noncomputable def sp_s_l01At (F : (dq0 × Int × Unit) → Option Int) : FnSpec := ⟨as_s_l01At, [false, false], (.int .i64), F⟩
noncomputable def s_l01At (K : Nat) (x : (dq0 × Int × Unit)) : Option Int :=
    (if (decide ((0 : Int) ≤ (IntKind.u64.wrap x.2.1))) = true then
    let x1 := (bitI .and .i64 (shrI .i64 x.1.2.1 (IntKind.u64.wrap x.2.1)) (1 : Int))
    some x1
    else
    none)
noncomputable def rv_s_l01At : Lv := [(4, (.v (.int .i64)))]
theorem ok_s_l01At (K : Nat) : FnOk Try.prog 91 (sp_s_l01At (s_l01At K)) :=
  fn_okD tysOk [] 0 [] [] rv_s_l01At K Try.func91 (by kernel_rfl) trivial (fun _ => by kernel_rfl)
noncomputable def C_s_l01At (K : Nat) : CB Try.prog := .f _ _ (ok_s_l01At K)
noncomputable def ps_s_l01Next : Lv := [(0, (.bx (.v tq1))), (1, (.v (.int .i64)))]
noncomputable def rl_s_l01Next : Lv := [(0, (.v (.int .i64)))]
noncomputable def sp_s_l01Next (F : (dq1 × Int × Unit) → Option ((Int × Unit) × (dq1 × Unit))) : ShSpec := ⟨ps_s_l01Next, rl_s_l01Next, F⟩
noncomputable def s_l01Next (K : Nat) (x : (dq1 × Int × Unit)) : Option ((Int × Unit) × (dq1 × Unit)) :=
    (if (decide (x.2.1 < (1 : Int))) = true then
    some (((0 : Int), ()), (x.1, ()))
    else
    let x1 := (IntKind.u64.wrap ((IntKind.u64.wrap (x.1.2.2.1 * (6364136223846793005 : Int))) + (1442695040888963407 : Int)))
    let x2 := (bitI .and .u64 (shrI .u64 ((x.1.1, x.1.2.1, x1, ()).2.2.1) (33 : Int)) (16777215 : Int))
    let x3 := (decide ((x.1.1, x.1.2.1, x1, ()).2.1 < (((x.1.1, x.1.2.1, x1, ()).1).length : Int)))
    (if x3 = true then
    (if (bnds ((x.1.1, x.1.2.1, x1, ()).2.1) (((x.1.1, x.1.2.1, x1, ()).1).length : Int)) = true then
    let x4 := (((x.1.1, x.1.2.1, x1, ()).1).getD ((x.1.1, x.1.2.1, x1, ()).2.1).toNat (0 : Int))
    let x5 := (IntKind.i64.wrap ((IntKind.i64.wrap x2) + (IntKind.i64.wrap x4)))
    let x6 := (IntKind.i64.wrap ((x.1.1, x.1.2.1, x1, ()).2.1 + (1 : Int)))
    (if (!decide (x.2.1 = 0)) = true then
    some (((Int.tmod x5 x.2.1), ()), (((x.1.1, x.1.2.1, x1, ()).1, x6, (x.1.1, x.1.2.1, x1, ()).2.2.1, ()), ()))
    else
    none)
    else
    none)
    else
    (if (!decide (x.2.1 = 0)) = true then
    some (((Int.tmod (IntKind.i64.wrap x2) x.2.1), ()), ((x.1.1, x.1.2.1, x1, ()), ()))
    else
    none)))
noncomputable def rv_s_l01Next : Lv := [(0, (.bx (.v tq1))), (4, (.v (.int .i64)))]
theorem ok_s_l01Next (K : Nat) : ShOk Try.prog 78 (sp_s_l01Next (s_l01Next K)) :=
  sh_okD tysOk [] 1 [] [] rv_s_l01Next K Try.func78 (by kernel_rfl) trivial (fun _ => by kernel_rfl)
noncomputable def C_s_l01Next (K : Nat) : CB Try.prog := .s _ _ (ok_s_l01Next K)
noncomputable def ps_s_l01Pick : Lv := [(0, (.bx (.v tq1))), (1, (.v (.sl (.int .i64))))]
noncomputable def rl_s_l01Pick : Lv := [(0, (.v (.int .i64)))]
noncomputable def sp_s_l01Pick (F : (dq1 × (List Int) × Unit) → Option ((Int × Unit) × (dq1 × Unit))) : ShSpec := ⟨ps_s_l01Pick, rl_s_l01Pick, F⟩
noncomputable def s_l01Pick (K : Nat) (x : (dq1 × (List Int) × Unit)) : Option ((Int × Unit) × (dq1 × Unit)) :=
    (s_l01Next K (x.1, (x.2.1.length : Int), ())).bind fun y1 =>
    (if (bnds y1.1.1 (x.2.1.length : Int)) = true then
    some (((x.2.1.getD y1.1.1.toNat (0 : Int)), ()), (y1.2.1, ()))
    else
    none)
noncomputable def rv_s_l01Pick : Lv := [(0, (.bx (.v tq1))), (4, (.v (.int .i64)))]
theorem ok_s_l01Pick (K : Nat) : ShOk Try.prog 70 (sp_s_l01Pick (s_l01Pick K)) :=
  sh_okD tysOk [C_s_l01Next K] 1 [] [] rv_s_l01Pick K Try.func70 (by kernel_rfl) trivial (fun _ => by kernel_rfl)
noncomputable def C_s_l01Pick (K : Nat) : CB Try.prog := .s _ _ (ok_s_l01Pick K)
noncomputable def ps_s_l01Bad : Lv := [(0, (.bx (.v tq1))), (1, (.v tq0))]
noncomputable def rl_s_l01Bad : Lv := [(0, (.v tq0))]
noncomputable def sp_s_l01Bad (F : (dq1 × dq0 × Unit) → Option ((dq0 × Unit) × (dq1 × Unit))) : ShSpec := ⟨ps_s_l01Bad, rl_s_l01Bad, F⟩
noncomputable def s_l01Bad (K : Nat) (x : (dq1 × dq0 × Unit)) : Option ((dq0 × Unit) × (dq1 × Unit)) :=
    (s_l01Next K (x.1, (50 : Int), ())).bind fun y1 =>
    (if (decide (y1.1.1 = (0 : Int))) = true then
    let l2 := [(-1 : Int), (5 : Int), (1099511627776 : Int)]
    (s_l01Pick K (y1.2.1, l2, ())).bind fun y3 =>
    let x4 := ((y3.1.1, ((0 : Int), (0 : Int), ()).2.1, ()).1, x.2.1.2.1, ())
    some ((x4, ()), (y3.2.1, ()))
    else
    (if (decide (y1.1.1 = (1 : Int))) = true then
    (s_l01All K (x.2.1.1, ())).bind fun y5 =>
    let l6 := [(-1 : Int), (IntKind.i64.wrap (y5 + (1 : Int))), (1099511627776 : Int)]
    (s_l01Pick K (y1.2.1, l6, ())).bind fun y7 =>
    let x8 := ((x.2.1.1, ((0 : Int), (0 : Int), ()).2.1, ()).1, y7.1.1, ())
    some ((x8, ()), (y7.2.1, ()))
    else
    some ((x.2.1, ()), (y1.2.1, ()))))
noncomputable def rv_s_l01Bad : Lv := [(0, (.bx (.v tq1))), (4, (.bx (.v tq0)))]
theorem ok_s_l01Bad (K : Nat) : ShOk Try.prog 152 (sp_s_l01Bad (s_l01Bad K)) :=
  sh_okD tysOk [C_s_l01Pick K, C_s_l01Next K, C_s_l01All K] 1 [] [] rv_s_l01Bad K Try.func152 (by kernel_rfl) trivial (fun _ => by kernel_rfl)
noncomputable def C_s_l01Bad (K : Nat) : CB Try.prog := .s _ _ (ok_s_l01Bad K)
noncomputable def as_s_l01In : Ty := (.pair (.int .i64) (.pair (.int .i64) (.pair (.int .i64) .unit)))
noncomputable def sp_s_l01In (F : (Int × Int × Int × Unit) → Option Bool) : FnSpec := ⟨as_s_l01In, [false, false, false], .bool, F⟩
noncomputable def s_l01In (K : Nat) (x : (Int × Int × Int × Unit)) : Option Bool :=
    (if (decide (x.1 ≥ x.2.1)) = true then
    some (decide (x.1 ≤ x.2.2.1))
    else
    some false)
noncomputable def rv_s_l01In : Lv := [(6, (.v .bool))]
theorem ok_s_l01In (K : Nat) : FnOk Try.prog 48 (sp_s_l01In (s_l01In K)) :=
  fn_okD tysOk [] 0 [] [] rv_s_l01In K Try.func48 (by kernel_rfl) trivial (fun _ => by kernel_rfl)
noncomputable def C_s_l01In (K : Nat) : CB Try.prog := .f _ _ (ok_s_l01In K)
noncomputable def as_s_l01Bits : Ty := (.pair (.sl (.int .i64)) .unit)
noncomputable def sp_s_l01Bits (F : ((List Int) × Unit) → Option Bool) : FnSpec := ⟨as_s_l01Bits, [false], .bool, F⟩
noncomputable def s_l01Bits_l2 {R : Type} (K : Nat) : Nat → (List Int) → Int → (Option R) → (Bool → Option R) → Option R
  | 0, _, _, _, _ => none
  | k + 1, v0, v3, kx0, kr =>
    (if (decide (v3 < (v0.length : Int))) = true then
    (if (bnds v3 (v0.length : Int)) = true then
    (s_l01In K ((v0.getD v3.toNat (0 : Int)), (0 : Int), (1 : Int), ())).bind fun y1 =>
    (if (!y1) = true then
    kr false
    else
    s_l01Bits_l2 K k v0 (IntKind.i64.wrap (v3 + (1 : Int))) kx0 kr)
    else
    none)
    else
    kx0)
noncomputable def s_l01Bits (K : Nat) (x : ((List Int) × Unit)) : Option Bool :=
    s_l01Bits_l2 K K x.1 (0 : Int) (some true) (fun z2 =>
    some z2)
noncomputable def X0_s_l01Bits : Lv := []
noncomputable def rv_s_l01Bits : Lv := [(2, (.v .bool))]
noncomputable def D_s_l01Bits (K : Nat) : List (PD (den .bool)) := [.L 2 [(0, (.v (.sl (.int .i64)))), (3, (.v (.int .i64)))] [] (fun k x kx kr => s_l01Bits_l2 K k x.1 x.2.1 (kx 0 (mkSt X0_s_l01Bits ())) (fun z0 => kr (mkSt rv_s_l01Bits (z0, ()))))]
theorem ok_s_l01Bits (K : Nat) : FnOk Try.prog 181 (sp_s_l01Bits (s_l01Bits K)) :=
  fn_okD tysOk [C_s_l01In K] 0 (D_s_l01Bits K) [(0, X0_s_l01Bits)] rv_s_l01Bits K Try.func181 (by kernel_rfl) ⟨⟨fun _ _ _ _ => by kernel_rfl, fun _ _ _ => rfl⟩, trivial⟩ (fun _ => by kernel_rfl)
noncomputable def C_s_l01Bits (K : Nat) : CB Try.prog := .f _ _ (ok_s_l01Bits K)
noncomputable def as_s_l01Constant : Ty := (.pair (.int .i64) (.pair (.int .i64) .unit))
noncomputable def sp_s_l01Constant (F : (Int × Int × Unit) → Option dq0) : FnSpec := ⟨as_s_l01Constant, [false, false], tq0, F⟩
noncomputable def s_l01Constant (K : Nat) (x : (Int × Int × Unit)) : Option dq0 :=
    (s_l01All K (x.1, ())).bind fun y1 =>
    let x2 := ((x.1, ((0 : Int), (0 : Int), ()).2.1, ()).1, (IntKind.i64.wrap (x.2.1 * y1)), ())
    some x2
noncomputable def rv_s_l01Constant : Lv := [(4, (.bx (.v tq0)))]
theorem ok_s_l01Constant (K : Nat) : FnOk Try.prog 109 (sp_s_l01Constant (s_l01Constant K)) :=
  fn_okD tysOk [C_s_l01All K] 0 [] [] rv_s_l01Constant K Try.func109 (by kernel_rfl) trivial (fun _ => by kernel_rfl)
noncomputable def C_s_l01Constant (K : Nat) : CB Try.prog := .f _ _ (ok_s_l01Constant K)
noncomputable def as_s_l01Of : Ty := (.pair (.int .i64) (.pair (.sl (.int .i64)) .unit))
noncomputable def sp_s_l01Of (F : (Int × (List Int) × Unit) → Option dq0) : FnSpec := ⟨as_s_l01Of, [false, false], tq0, F⟩
noncomputable def s_l01Of_l3 {R : Type} (K : Nat) : Nat → Int → (List Int) → dq0 → dq0 → Int → (dq0 → dq0 → Option R) → Option R
  | 0, _, _, _, _, _, _ => none
  | k + 1, v0, v1, v4, v5, v6, kx0 =>
    (s_l01Rows K (v0, ())).bind fun y1 =>
    (if (decide (v6 < y1)) = true then
    (if (bnds v6 (v1.length : Int)) = true then
    (if (decide ((0 : Int) ≤ (IntKind.u64.wrap v6))) = true then
    let x2 := (shlI .i64 (v1.getD v6.toNat (0 : Int)) (IntKind.u64.wrap v6))
    s_l01Of_l3 K k v0 v1 v4 (v5.1, (IntKind.i64.wrap (v5.2.1 + x2)), ()) (IntKind.i64.wrap (v6 + (1 : Int))) kx0
    else
    none)
    else
    none)
    else
    kx0 v4 v5)
noncomputable def s_l01Of (K : Nat) (x : (Int × (List Int) × Unit)) : Option dq0 :=
    s_l01Of_l3 K K x.1 x.2.1 ((0 : Int), (0 : Int), ()) (x.1, ((0 : Int), (0 : Int), ()).2.1, ()) (0 : Int) (fun z3 z4 =>
    some z4)
noncomputable def X0_s_l01Of : Lv := [(4, (.bx (.v tq0))), (5, (.bx (.v tq0)))]
noncomputable def rv_s_l01Of : Lv := [(4, (.bx (.v tq0)))]
noncomputable def D_s_l01Of (K : Nat) : List (PD (den tq0)) := [.L 3 [(0, (.v (.int .i64))), (1, (.v (.sl (.int .i64)))), (4, (.bx (.v tq0))), (5, (.bx (.v tq0))), (6, (.v (.int .i64)))] [] (fun k x kx kr => s_l01Of_l3 K k x.1 x.2.1 x.2.2.1 x.2.2.2.1 x.2.2.2.2.1 (fun z0 z1 => kx 0 (mkSt X0_s_l01Of (z0, z1, ()))))]
theorem ok_s_l01Of (K : Nat) : FnOk Try.prog 147 (sp_s_l01Of (s_l01Of K)) :=
  fn_okD tysOk [C_s_l01Rows K] 0 (D_s_l01Of K) [(0, X0_s_l01Of)] rv_s_l01Of K Try.func147 (by kernel_rfl) ⟨⟨fun _ _ _ _ => by kernel_rfl, fun _ _ _ => rfl⟩, trivial⟩ (fun _ => by kernel_rfl)
noncomputable def C_s_l01Of (K : Nat) : CB Try.prog := .f _ _ (ok_s_l01Of K)
noncomputable def as_s_l01Projection : Ty := (.pair (.int .i64) (.pair (.int .i64) .unit))
noncomputable def sp_s_l01Projection (F : (Int × Int × Unit) → Option dq0) : FnSpec := ⟨as_s_l01Projection, [false, false], tq0, F⟩
noncomputable def s_l01Projection_l3 {R : Type} (K : Nat) : Nat → Int → Int → dq0 → (List Int) → Int → (Int → dq0 → (List Int) → Option R) → Option R
  | 0, _, _, _, _, _, _ => none
  | k + 1, v0, v1, v4, v5, v6, kx0 =>
    (s_l01Rows K (v0, ())).bind fun y2 =>
    (if (decide (v6 < y2)) = true then
    (if (decide ((0 : Int) ≤ (IntKind.u64.wrap v1))) = true then
    let x3 := (bitI .and .i64 (shrI .i64 v6 (IntKind.u64.wrap v1)) (1 : Int))
    (if (decide (v5.length + ([x3]).length ≤ lim)) = true then
    let l4 := (v5 ++ [x3])
    s_l01Projection_l3 K k v0 v1 v4 l4 (IntKind.i64.wrap (v6 + (1 : Int))) kx0
    else
    none)
    else
    none)
    else
    kx0 v0 v4 v5)
noncomputable def s_l01Projection (K : Nat) (x : (Int × Int × Unit)) : Option dq0 :=
    let l1 := ([] : List Int)
    s_l01Projection_l3 K K x.1 x.2.1 ((0 : Int), (0 : Int), ()) l1 (0 : Int) (fun z5 z6 z7 =>
    (s_l01Of K (z5, z7, ())).bind fun y8 =>
    some y8)
noncomputable def X0_s_l01Projection : Lv := [(0, (.v (.int .i64))), (4, (.bx (.v tq0))), (5, (.r (.int .i64)))]
noncomputable def rv_s_l01Projection : Lv := [(4, (.bx (.v tq0)))]
noncomputable def D_s_l01Projection (K : Nat) : List (PD (den tq0)) := [.L 3 [(0, (.v (.int .i64))), (1, (.v (.int .i64))), (4, (.bx (.v tq0))), (5, (.r (.int .i64))), (6, (.v (.int .i64)))] [] (fun k x kx kr => s_l01Projection_l3 K k x.1 x.2.1 x.2.2.1 x.2.2.2.1 x.2.2.2.2.1 (fun z0 z1 z2 => kx 0 (mkSt X0_s_l01Projection (z0, z1, z2, ()))))]
theorem ok_s_l01Projection (K : Nat) : FnOk Try.prog 111 (sp_s_l01Projection (s_l01Projection K)) :=
  fn_okD tysOk [C_s_l01Rows K, C_s_l01Of K] 0 (D_s_l01Projection K) [(0, X0_s_l01Projection)] rv_s_l01Projection K Try.func111 (by kernel_rfl) ⟨⟨fun _ _ _ _ => by kernel_rfl, fun _ _ _ => rfl⟩, trivial⟩ (fun _ => by kernel_rfl)
noncomputable def C_s_l01Projection (K : Nat) : CB Try.prog := .f _ _ (ok_s_l01Projection K)
noncomputable def as_s_l01Weight : Ty := (.pair tq0 .unit)
noncomputable def sp_s_l01Weight (F : (dq0 × Unit) → Option Int) : FnSpec := ⟨as_s_l01Weight, [false], (.int .i64), F⟩
noncomputable def s_l01Weight_l3 {R : Type} (K : Nat) : Nat → dq0 → Int → Int → (Int → Option R) → Option R
  | 0, _, _, _, _ => none
  | k + 1, v1, v3, v4, kx0 =>
    (s_l01Rows K (v1.1, ())).bind fun y1 =>
    (if (decide (v4 < y1)) = true then
    (s_l01At K (v1, v4, ())).bind fun y2 =>
    s_l01Weight_l3 K k v1 (IntKind.i64.wrap (v3 + y2)) (IntKind.i64.wrap (v4 + (1 : Int))) kx0
    else
    kx0 v3)
noncomputable def s_l01Weight (K : Nat) (x : (dq0 × Unit)) : Option Int :=
    s_l01Weight_l3 K K x.1 (0 : Int) (0 : Int) (fun z3 =>
    some z3)
noncomputable def X0_s_l01Weight : Lv := [(3, (.v (.int .i64)))]
noncomputable def rv_s_l01Weight : Lv := [(2, (.v (.int .i64)))]
noncomputable def D_s_l01Weight (K : Nat) : List (PD (den (.int .i64))) := [.L 3 [(1, (.bx (.v tq0))), (3, (.v (.int .i64))), (4, (.v (.int .i64)))] [] (fun k x kx kr => s_l01Weight_l3 K k x.1 x.2.1 x.2.2.1 (fun z0 => kx 0 (mkSt X0_s_l01Weight (z0, ()))))]
theorem ok_s_l01Weight (K : Nat) : FnOk Try.prog 146 (sp_s_l01Weight (s_l01Weight K)) :=
  fn_okD tysOk [C_s_l01Rows K, C_s_l01At K] 0 (D_s_l01Weight K) [(0, X0_s_l01Weight)] rv_s_l01Weight K Try.func146 (by kernel_rfl) ⟨⟨fun _ _ _ _ => by kernel_rfl, fun _ _ _ => rfl⟩, trivial⟩ (fun _ => by kernel_rfl)
noncomputable def C_s_l01Weight (K : Nat) : CB Try.prog := .f _ _ (ok_s_l01Weight K)
noncomputable def as_s_l01Known : Ty := .unit
noncomputable def sp_s_l01Known (F : Unit → Option (List ByteArray)) : FnSpec := ⟨as_s_l01Known, [], (.sl .str), F⟩
noncomputable def s_l01Known (K : Nat) (x : Unit) : Option (List ByteArray) :=
    let l1 := [(⟨#[48, 58, 48]⟩ : ByteArray), (⟨#[48, 58, 49]⟩ : ByteArray), (⟨#[49, 58, 48, 49]⟩ : ByteArray), (⟨#[49, 58, 49, 48]⟩ : ByteArray), (⟨#[50, 58, 48, 48, 48, 49]⟩ : ByteArray), (⟨#[50, 58, 48, 49, 49, 49]⟩ : ByteArray), (⟨#[50, 58, 48, 49, 49, 48]⟩ : ByteArray), (⟨#[50, 58, 49, 49, 49, 48]⟩ : ByteArray), (⟨#[50, 58, 49, 48, 48, 48]⟩ : ByteArray), (⟨#[50, 58, 49, 48, 48, 49]⟩ : ByteArray), (⟨#[50, 58, 49, 48, 49, 49]⟩ : ByteArray), (⟨#[51, 58, 48, 48, 48, 49, 48, 49, 49, 49]⟩ : ByteArray), (⟨#[51, 58, 48, 49, 49, 48, 49, 48, 48, 49]⟩ : ByteArray), (⟨#[51, 58, 48, 48, 48, 49, 49, 48, 49, 49]⟩ : ByteArray)]
    some l1
noncomputable def rv_s_l01Known : Lv := [(0, (.r .str))]
theorem ok_s_l01Known (K : Nat) : FnOk Try.prog 148 (sp_s_l01Known (s_l01Known K)) :=
  fn_okD tysOk [] 0 [] [] rv_s_l01Known K Try.func148 (by kernel_rfl) trivial (fun _ => by kernel_rfl)
noncomputable def C_s_l01Known (K : Nat) : CB Try.prog := .f _ _ (ok_s_l01Known K)
noncomputable def as_s_l01Read : Ty := (.pair .str .unit)
noncomputable def sp_s_l01Read (F : (ByteArray × Unit) → Option (dq0 × Bool × Unit)) : FnSpec := ⟨as_s_l01Read, [false], (.tup (.pair tq0 (.pair .bool .unit))), F⟩
noncomputable def s_l01Read_l7 {R : Type} (K : Nat) : Nat → ByteArray → dq0 → Int → (List Int) → Int → (dq0 → Int → (List Int) → Option R) → Option R
  | 0, _, _, _, _, _, _ => none
  | k + 1, v0, v2, v4, v5, v6, kx0 =>
    (if (decide (v6 < (v0.size : Int))) = true then
    (if (bnds v6 (v0.size : Int)) = true then
    let x6 := (IntKind.i64.wrap ((IntKind.i64.wrap (byteAt v0 v6)) - (48 : Int)))
    (if (decide (v5.length + ([x6]).length ≤ lim)) = true then
    let l7 := (v5 ++ [x6])
    s_l01Read_l7 K k v0 v2 v4 l7 (IntKind.i64.wrap (v6 + (1 : Int))) kx0
    else
    none)
    else
    none)
    else
    kx0 v2 v4 v5)
noncomputable def s_l01Read_j6 {R : Type} (K : Nat) (k : Nat) (v0 : ByteArray) (v2 : dq0) (v4 : Int) (v5 : (List Int)) (kn : Option R) (kr : (dq0 → Bool → Option R)) : Option R :=
    s_l01Read_l7 K k v0 v2 v4 v5 (2 : Int) (fun z8 z9 z10 =>
    (s_l01Bits K (z10, ())).bind fun y11 =>
    (if (!y11) = true then
    kr ((0 : Int), (0 : Int), ()) false
    else
    (s_l01Of K (z9, z10, ())).bind fun y12 =>
    kr y12 true))
noncomputable def s_l01Read_j3 {R : Type} (K : Nat) (k : Nat) (v0 : ByteArray) (v2 : dq0) (kn : Option R) (kr : (dq0 → Bool → Option R)) : Option R :=
    (if (bnds (0 : Int) (v0.size : Int)) = true then
    let x1 := (IntKind.i64.wrap ((IntKind.i64.wrap (byteAt v0 (0 : Int))) - (48 : Int)))
    let l2 := ([] : List Int)
    (s_l01In K (x1, (0 : Int), (4 : Int), ())).bind fun y3 =>
    (if (!y3) = true then
    kr ((0 : Int), (0 : Int), ()) false
    else
    (s_l01Rows K (x1, ())).bind fun y4 =>
    let x5 := (!decide ((v0.size : Int) = (IntKind.i64.wrap ((2 : Int) + y4))))
    (if x5 = true then
    kr ((0 : Int), (0 : Int), ()) false
    else
    s_l01Read_j6 K k v0 v2 x1 l2 none (fun z13 z14 =>
    kr z13 z14)))
    else
    none)
noncomputable def s_l01Read (K : Nat) (x : (ByteArray × Unit)) : Option (dq0 × Bool × Unit) :=
    (if (decide ((x.1.size : Int) < (3 : Int))) = true then
    some (((0 : Int), (0 : Int), ()), false, ())
    else
    (if (bnds (1 : Int) (x.1.size : Int)) = true then
    (if (!decide ((byteAt x.1 (1 : Int)) = (58 : Int))) = true then
    some (((0 : Int), (0 : Int), ()), false, ())
    else
    s_l01Read_j3 K K x.1 ((0 : Int), (0 : Int), ()) none (fun z15 z16 =>
    some (z15, z16, ())))
    else
    none))
noncomputable def X0_s_l01Read : Lv := [(2, (.bx (.v tq0))), (4, (.v (.int .i64))), (5, (.r (.int .i64)))]
noncomputable def rv_s_l01Read : Lv := [(2, (.bx (.v tq0))), (3, (.v .bool))]
noncomputable def D_s_l01Read (K : Nat) : List (PD (den (.tup (.pair tq0 (.pair .bool .unit))))) := [.J 3 [(0, (.v .str)), (2, (.bx (.v tq0)))] [] 0 (fun k x kn kx kr => s_l01Read_j3 K k x.1 x.2.1 (kn ()) (fun z0 z1 => kr (mkSt rv_s_l01Read (z0, z1, ())))),
  .J 6 [(0, (.v .str)), (2, (.bx (.v tq0))), (4, (.v (.int .i64))), (5, (.r (.int .i64)))] [] 0 (fun k x kn kx kr => s_l01Read_j6 K k x.1 x.2.1 x.2.2.1 x.2.2.2.1 (kn ()) (fun z0 z1 => kr (mkSt rv_s_l01Read (z0, z1, ())))),
  .L 7 [(0, (.v .str)), (2, (.bx (.v tq0))), (4, (.v (.int .i64))), (5, (.r (.int .i64))), (6, (.v (.int .i64)))] [] (fun k x kx kr => s_l01Read_l7 K k x.1 x.2.1 x.2.2.1 x.2.2.2.1 x.2.2.2.2.1 (fun z0 z1 z2 => kx 0 (mkSt X0_s_l01Read (z0, z1, z2, ()))))]
theorem ok_s_l01Read (K : Nat) : FnOk Try.prog 149 (sp_s_l01Read (s_l01Read K)) :=
  fn_okD tysOk [C_s_l01In K, C_s_l01Rows K, C_s_l01Of K, C_s_l01Bits K] 0 (D_s_l01Read K) [(0, X0_s_l01Read)] rv_s_l01Read K Try.func149 (by kernel_rfl) ⟨fun _ _ _ _ _ => by kernel_rfl, ⟨fun _ _ _ _ _ => by kernel_rfl, ⟨⟨fun _ _ _ _ => by kernel_rfl, fun _ _ _ => rfl⟩, trivial⟩⟩⟩ (fun _ => by kernel_rfl)
noncomputable def C_s_l01Read (K : Nat) : CB Try.prog := .f _ _ (ok_s_l01Read K)
noncomputable def as_s_l01Fix : Ty := (.pair tq0 (.pair (.int .i64) (.pair (.int .i64) .unit)))
noncomputable def sp_s_l01Fix (F : (dq0 × Int × Int × Unit) → Option dq0) : FnSpec := ⟨as_s_l01Fix, [false, false, false], tq0, F⟩
noncomputable def s_l01Fix_l3 {R : Type} (K : Nat) : Nat → Int → Int → dq0 → dq0 → (List Int) → Int → (dq0 → dq0 → (List Int) → Option R) → Option R
  | 0, _, _, _, _, _, _, _ => none
  | k + 1, v1, v2, v3, v6, v7, v8, kx0 =>
    (s_l01Rows K (v3.1, ())).bind fun y2 =>
    (if (decide (v8 < y2)) = true then
    (if (decide ((0 : Int) ≤ (IntKind.u64.wrap v1))) = true then
    let x3 := (bitI .and .i64 (shrI .i64 v8 (IntKind.u64.wrap v1)) (1 : Int))
    (if (decide (x3 = v2)) = true then
    (s_l01At K (v3, v8, ())).bind fun y4 =>
    (if (decide (v7.length + ([y4]).length ≤ lim)) = true then
    let l5 := (v7 ++ [y4])
    s_l01Fix_l3 K k v1 v2 v3 v6 l5 (IntKind.i64.wrap (v8 + (1 : Int))) kx0
    else
    none)
    else
    s_l01Fix_l3 K k v1 v2 v3 v6 v7 (IntKind.i64.wrap (v8 + (1 : Int))) kx0)
    else
    none)
    else
    kx0 v3 v6 v7)
noncomputable def s_l01Fix (K : Nat) (x : (dq0 × Int × Int × Unit)) : Option dq0 :=
    let l1 := ([] : List Int)
    s_l01Fix_l3 K K x.2.1 x.2.2.1 x.1 ((0 : Int), (0 : Int), ()) l1 (0 : Int) (fun z6 z7 z8 =>
    (s_l01Of K ((IntKind.i64.wrap (z6.1 - (1 : Int))), z8, ())).bind fun y9 =>
    some y9)
noncomputable def X0_s_l01Fix : Lv := [(3, (.bx (.v tq0))), (6, (.bx (.v tq0))), (7, (.r (.int .i64)))]
noncomputable def rv_s_l01Fix : Lv := [(6, (.bx (.v tq0)))]
noncomputable def D_s_l01Fix (K : Nat) : List (PD (den tq0)) := [.L 3 [(1, (.v (.int .i64))), (2, (.v (.int .i64))), (3, (.bx (.v tq0))), (6, (.bx (.v tq0))), (7, (.r (.int .i64))), (8, (.v (.int .i64)))] [] (fun k x kx kr => s_l01Fix_l3 K k x.1 x.2.1 x.2.2.1 x.2.2.2.1 x.2.2.2.2.1 x.2.2.2.2.2.1 (fun z0 z1 z2 => kx 0 (mkSt X0_s_l01Fix (z0, z1, z2, ()))))]
theorem ok_s_l01Fix (K : Nat) : FnOk Try.prog 150 (sp_s_l01Fix (s_l01Fix K)) :=
  fn_okD tysOk [C_s_l01Rows K, C_s_l01At K, C_s_l01Of K] 0 (D_s_l01Fix K) [(0, X0_s_l01Fix)] rv_s_l01Fix K Try.func150 (by kernel_rfl) ⟨⟨fun _ _ _ _ => by kernel_rfl, fun _ _ _ => rfl⟩, trivial⟩ (fun _ => by kernel_rfl)
noncomputable def C_s_l01Fix (K : Nat) : CB Try.prog := .f _ _ (ok_s_l01Fix K)
noncomputable def as_s_l01Dual : Ty := (.pair tq0 .unit)
noncomputable def sp_s_l01Dual (F : (dq0 × Unit) → Option dq0) : FnSpec := ⟨as_s_l01Dual, [false], tq0, F⟩
noncomputable def s_l01Dual_l3 {R : Type} (K : Nat) : Nat → dq0 → dq0 → (List Int) → Int → Int → (dq0 → dq0 → (List Int) → Option R) → Option R
  | 0, _, _, _, _, _, _ => none
  | k + 1, v1, v2, v3, v4, v5, kx0 =>
    (if (decide (v5 < v4)) = true then
    let x3 := (IntKind.i64.wrap ((IntKind.i64.wrap (v4 - (1 : Int))) - v5))
    (s_l01At K (v1, x3, ())).bind fun y4 =>
    let l5 := [(IntKind.i64.wrap ((1 : Int) - y4))]
    (if (decide (v3.length + l5.length ≤ lim)) = true then
    let l6 := (v3 ++ l5)
    s_l01Dual_l3 K k v1 v2 l6 v4 (IntKind.i64.wrap (v5 + (1 : Int))) kx0
    else
    none)
    else
    kx0 v1 v2 v3)
noncomputable def s_l01Dual (K : Nat) (x : (dq0 × Unit)) : Option dq0 :=
    let l1 := ([] : List Int)
    (s_l01Rows K (x.1.1, ())).bind fun y2 =>
    s_l01Dual_l3 K K x.1 ((0 : Int), (0 : Int), ()) l1 y2 (0 : Int) (fun z7 z8 z9 =>
    (s_l01Of K (z7.1, z9, ())).bind fun y10 =>
    some y10)
noncomputable def X0_s_l01Dual : Lv := [(1, (.bx (.v tq0))), (2, (.bx (.v tq0))), (3, (.r (.int .i64)))]
noncomputable def rv_s_l01Dual : Lv := [(2, (.bx (.v tq0)))]
noncomputable def D_s_l01Dual (K : Nat) : List (PD (den tq0)) := [.L 3 [(1, (.bx (.v tq0))), (2, (.bx (.v tq0))), (3, (.r (.int .i64))), (4, (.v (.int .i64))), (5, (.v (.int .i64)))] [] (fun k x kx kr => s_l01Dual_l3 K k x.1 x.2.1 x.2.2.1 x.2.2.2.1 x.2.2.2.2.1 (fun z0 z1 z2 => kx 0 (mkSt X0_s_l01Dual (z0, z1, z2, ()))))]
theorem ok_s_l01Dual (K : Nat) : FnOk Try.prog 151 (sp_s_l01Dual (s_l01Dual K)) :=
  fn_okD tysOk [C_s_l01Rows K, C_s_l01At K, C_s_l01Of K] 0 (D_s_l01Dual K) [(0, X0_s_l01Dual)] rv_s_l01Dual K Try.func151 (by kernel_rfl) ⟨⟨fun _ _ _ _ => by kernel_rfl, fun _ _ _ => rfl⟩, trivial⟩ (fun _ => by kernel_rfl)
noncomputable def C_s_l01Dual (K : Nat) : CB Try.prog := .f _ _ (ok_s_l01Dual K)
noncomputable def ps_s_l01DrawOf : Lv := [(0, (.bx (.v tq1))), (1, (.v (.int .i64)))]
noncomputable def rl_s_l01DrawOf : Lv := [(0, (.v tq0))]
noncomputable def sp_s_l01DrawOf (F : (dq1 × Int × Unit) → Option ((dq0 × Unit) × (dq1 × Unit))) : ShSpec := ⟨ps_s_l01DrawOf, rl_s_l01DrawOf, F⟩
noncomputable def s_l01DrawOf_j33 {R : Type} (K : Nat) (k : Nat) (v0 : dq1) (v4 : dq0) (v5 : dq0) (kn : Option R) (kr : (dq1 → dq0 → Option R)) : Option R :=
    kr v0 v5
noncomputable def s_l01DrawOf_l11 {R : Type} (K : Nat) : Nat → dq1 → Int → dq0 → Int → (List Int) → Int → Int → (dq1 → Int → dq0 → (List Int) → Option R) → Option R
  | 0, _, _, _, _, _, _, _, _ => none
  | k + 1, v0, v1, v4, v6, v7, v8, v9, kx1 =>
    (s_l01Rows K (v1, ())).bind fun y14 =>
    (if (decide (v9 < y14)) = true then
    let x15 := (((4 : Int), ((0 : Int), (0 : Int), ()).2.1, ()).1, (bitI .and .i64 v9 v6), ())
    (s_l01Weight K (x15, ())).bind fun y16 =>
    let l17 := [(Int.tmod (IntKind.i64.wrap (y16 + v8)) (2 : Int))]
    (if (decide (v7.length + l17.length ≤ lim)) = true then
    let l18 := (v7 ++ l17)
    s_l01DrawOf_l11 K k v0 v1 v4 v6 l18 v8 (IntKind.i64.wrap (v9 + (1 : Int))) kx1
    else
    none)
    else
    kx1 v0 v1 v4 v7)
noncomputable def s_l01DrawOf_j19 {R : Type} (K : Nat) (k : Nat) (v0 : dq1) (v1 : Int) (v4 : dq0) (v10 : (List Int)) (v11 : Int) (v12 : Int) (v13 : Int) (kn : dq1 → Int → dq0 → (List Int) → Int → Int → Int → Option R)  : Option R :=
    kn v0 v1 v4 v10 v11 v12 (IntKind.i64.wrap (v13 + (1 : Int)))
noncomputable def s_l01DrawOf_l18 {R : Type} (K : Nat) : Nat → dq1 → Int → dq0 → (List Int) → Int → Int → Int → (dq1 → Int → dq0 → (List Int) → Option R) → Option R
  | 0, _, _, _, _, _, _, _, _ => none
  | k + 1, v0, v1, v4, v10, v11, v12, v13, kx3 =>
    (s_l01Rows K (v1, ())).bind fun y29 =>
    (if (decide (v13 < y29)) = true then
    (if (decide ((bitI .and .i64 v13 v11) = v11)) = true then
    let l30 := [(1 : Int)]
    (if (decide (v10.length + l30.length ≤ lim)) = true then
    let l31 := (v10 ++ l30)
    s_l01DrawOf_j19 K k v0 v1 v4 l31 v11 v12 v13 (fun z32 z33 z34 z35 z36 z37 z38 =>
    s_l01DrawOf_l18 K k z32 z33 z34 z35 z36 z37 z38 kx3)
    else
    none)
    else
    (if (decide ((bitI .and .i64 v13 v12) = v12)) = true then
    let l39 := [(1 : Int)]
    (if (decide (v10.length + l39.length ≤ lim)) = true then
    let l40 := (v10 ++ l39)
    s_l01DrawOf_j19 K k v0 v1 v4 l40 v11 v12 v13 (fun z41 z42 z43 z44 z45 z46 z47 =>
    s_l01DrawOf_l18 K k z41 z42 z43 z44 z45 z46 z47 kx3)
    else
    none)
    else
    let l48 := [(0 : Int)]
    (if (decide (v10.length + l48.length ≤ lim)) = true then
    let l49 := (v10 ++ l48)
    s_l01DrawOf_j19 K k v0 v1 v4 l49 v11 v12 v13 (fun z50 z51 z52 z53 z54 z55 z56 =>
    s_l01DrawOf_l18 K k z50 z51 z52 z53 z54 z55 z56 kx3)
    else
    none)))
    else
    kx3 v0 v1 v4 v10)
noncomputable def s_l01DrawOf (K : Nat) (x : (dq1 × Int × Unit)) : Option ((dq0 × Unit) × (dq1 × Unit)) :=
    (s_l01All K (x.2.1, ())).bind fun y1 =>
    (s_l01Next K (x.1, (IntKind.i64.wrap (y1 + (1 : Int))), ())).bind fun y2 =>
    (s_l01Next K (y2.2.1, (8 : Int), ())).bind fun y3 =>
    (if (decide (y3.1.1 = (0 : Int))) = true then
    (if (decide (x.2.1 > (0 : Int))) = true then
    (s_l01Next K (y3.2.1, x.2.1, ())).bind fun y4 =>
    (s_l01Projection K (x.2.1, y4.1.1, ())).bind fun y5 =>
    some ((y5, ()), (y4.2.1, ()))
    else
    s_l01DrawOf_j33 K K y3.2.1 ((0 : Int), (0 : Int), ()) ((x.2.1, ((0 : Int), (0 : Int), ()).2.1, ()).1, y2.1.1, ()) none (fun z6 z7 =>
    some ((z7, ()), (z6, ()))))
    else
    (if (decide (y3.1.1 = (1 : Int))) = true then
    (s_l01Next K (y3.2.1, (2 : Int), ())).bind fun y8 =>
    (s_l01Constant K (x.2.1, y8.1.1, ())).bind fun y9 =>
    some ((y9, ()), (y8.2.1, ()))
    else
    (if (decide (y3.1.1 = (2 : Int))) = true then
    (s_l01Rows K (x.2.1, ())).bind fun y10 =>
    (s_l01Next K (y3.2.1, y10, ())).bind fun y11 =>
    let l12 := ([] : List Int)
    (s_l01Next K (y11.2.1, (2 : Int), ())).bind fun y13 =>
    s_l01DrawOf_l11 K K y13.2.1 x.2.1 ((0 : Int), (0 : Int), ()) y11.1.1 l12 y13.1.1 (0 : Int) (fun z19 z20 z21 z22 =>
    (s_l01Of K (z20, z22, ())).bind fun y23 =>
    some ((y23, ()), (z19, ())))
    else
    (if (decide (y3.1.1 = (3 : Int))) = true then
    let l24 := ([] : List Int)
    (s_l01Rows K (x.2.1, ())).bind fun y25 =>
    (s_l01Next K (y3.2.1, y25, ())).bind fun y26 =>
    (s_l01Rows K (x.2.1, ())).bind fun y27 =>
    (s_l01Next K (y26.2.1, y27, ())).bind fun y28 =>
    s_l01DrawOf_l18 K K y28.2.1 x.2.1 ((0 : Int), (0 : Int), ()) l24 y26.1.1 y28.1.1 (0 : Int) (fun z57 z58 z59 z60 =>
    (s_l01Of K (z58, z60, ())).bind fun y61 =>
    some ((y61, ()), (z57, ())))
    else
    (if (decide (y3.1.1 = (4 : Int))) = true then
    (s_l01Known K ()).bind fun y62 =>
    (s_l01Next K (y3.2.1, (y62.length : Int), ())).bind fun y63 =>
    (if (bnds y63.1.1 (y62.length : Int)) = true then
    (s_l01Read K ((y62.getD y63.1.1.toNat ByteArray.empty), ())).bind fun y64 =>
    (if (decide (y64.1.1 = x.2.1)) = true then
    some ((y64.1, ()), (y63.2.1, ()))
    else
    s_l01DrawOf_j33 K K y63.2.1 ((0 : Int), (0 : Int), ()) ((x.2.1, ((0 : Int), (0 : Int), ()).2.1, ()).1, y2.1.1, ()) none (fun z65 z66 =>
    some ((z66, ()), (z65, ()))))
    else
    none)
    else
    (if (decide (y3.1.1 = (5 : Int))) = true then
    (if (decide (x.2.1 > (0 : Int))) = true then
    (s_l01Fix K (((x.2.1, ((0 : Int), (0 : Int), ()).2.1, ()).1, y2.1.1, ()), (IntKind.i64.wrap (x.2.1 - (1 : Int))), (0 : Int), ())).bind fun y67 =>
    (s_l01Dual K (y67, ())).bind fun y68 =>
    (s_l01Rows K ((IntKind.i64.wrap (x.2.1 - (1 : Int))), ())).bind fun y69 =>
    (if (decide ((0 : Int) ≤ (IntKind.u64.wrap y69))) = true then
    let x70 := (IntKind.i64.wrap (y67.2.1 + (shlI .i64 y68.2.1 (IntKind.u64.wrap y69))))
    some ((((x.2.1, ((0 : Int), (0 : Int), ()).2.1, ()).1, x70, ()), ()), (y3.2.1, ()))
    else
    none)
    else
    s_l01DrawOf_j33 K K y3.2.1 ((0 : Int), (0 : Int), ()) ((x.2.1, ((0 : Int), (0 : Int), ()).2.1, ()).1, y2.1.1, ()) none (fun z71 z72 =>
    some ((z72, ()), (z71, ()))))
    else
    s_l01DrawOf_j33 K K y3.2.1 ((0 : Int), (0 : Int), ()) ((x.2.1, ((0 : Int), (0 : Int), ()).2.1, ()).1, y2.1.1, ()) none (fun z73 z74 =>
    some ((z74, ()), (z73, ())))))))))
noncomputable def X1_s_l01DrawOf : Lv := [(0, (.bx (.v tq1))), (1, (.v (.int .i64))), (4, (.bx (.v tq0))), (7, (.r (.int .i64)))]
noncomputable def X3_s_l01DrawOf : Lv := [(0, (.bx (.v tq1))), (1, (.v (.int .i64))), (4, (.bx (.v tq0))), (10, (.r (.int .i64)))]
noncomputable def rv_s_l01DrawOf : Lv := [(0, (.bx (.v tq1))), (4, (.bx (.v tq0)))]
noncomputable def D_s_l01DrawOf (K : Nat) : List (PD (den rl_s_l01DrawOf.ty × den (outL ps_s_l01DrawOf).ty)) := [.L 11 [(0, (.bx (.v tq1))), (1, (.v (.int .i64))), (4, (.bx (.v tq0))), (6, (.v (.int .i64))), (7, (.r (.int .i64))), (8, (.v (.int .i64))), (9, (.v (.int .i64)))] [] (fun k x kx kr => s_l01DrawOf_l11 K k x.1 x.2.1 x.2.2.1 x.2.2.2.1 x.2.2.2.2.1 x.2.2.2.2.2.1 x.2.2.2.2.2.2.1 (fun z0 z1 z2 z3 => kx 1 (mkSt X1_s_l01DrawOf (z0, z1, z2, z3, ())))),
  .L 18 [(0, (.bx (.v tq1))), (1, (.v (.int .i64))), (4, (.bx (.v tq0))), (10, (.r (.int .i64))), (11, (.v (.int .i64))), (12, (.v (.int .i64))), (13, (.v (.int .i64)))] [] (fun k x kx kr => s_l01DrawOf_l18 K k x.1 x.2.1 x.2.2.1 x.2.2.2.1 x.2.2.2.2.1 x.2.2.2.2.2.1 x.2.2.2.2.2.2.1 (fun z0 z1 z2 z3 => kx 3 (mkSt X3_s_l01DrawOf (z0, z1, z2, z3, ())))),
  .J 19 [(0, (.bx (.v tq1))), (1, (.v (.int .i64))), (4, (.bx (.v tq0))), (10, (.r (.int .i64))), (11, (.v (.int .i64))), (12, (.v (.int .i64))), (13, (.v (.int .i64)))] [(0, (.bx (.v tq1))), (1, (.v (.int .i64))), (4, (.bx (.v tq0))), (10, (.r (.int .i64))), (11, (.v (.int .i64))), (12, (.v (.int .i64))), (13, (.v (.int .i64)))] 0 (fun k x kn kx kr => s_l01DrawOf_j19 K k x.1 x.2.1 x.2.2.1 x.2.2.2.1 x.2.2.2.2.1 x.2.2.2.2.2.1 x.2.2.2.2.2.2.1 (fun z0 z1 z2 z3 z4 z5 z6 => kn (z0, z1, z2, z3, z4, z5, z6, ()))),
  .J 33 [(0, (.bx (.v tq1))), (4, (.bx (.v tq0))), (5, (.bx (.v tq0)))] [] 0 (fun k x kn kx kr => s_l01DrawOf_j33 K k x.1 x.2.1 x.2.2.1 (kn ()) (fun z0 z1 => kr (mkSt rv_s_l01DrawOf (z0, z1, ()))))]
theorem ok_s_l01DrawOf (K : Nat) : ShOk Try.prog 97 (sp_s_l01DrawOf (s_l01DrawOf K)) :=
  sh_okD tysOk [C_s_l01Next K, C_s_l01Rows K, C_s_l01Constant K, C_s_l01Projection K, C_s_l01All K, C_s_l01Weight K, C_s_l01Of K, C_s_l01Known K, C_s_l01Read K, C_s_l01Fix K, C_s_l01Dual K] 1 (D_s_l01DrawOf K) [(1, X1_s_l01DrawOf), (3, X3_s_l01DrawOf)] rv_s_l01DrawOf K Try.func97 (by kernel_rfl) ⟨⟨fun _ _ _ _ => by kernel_rfl, fun _ _ _ => rfl⟩, ⟨⟨fun _ _ _ _ => by kernel_rfl, fun _ _ _ => rfl⟩, ⟨fun _ _ _ _ _ => by kernel_rfl, ⟨fun _ _ _ _ _ => by kernel_rfl, trivial⟩⟩⟩⟩ (fun _ => by kernel_rfl)
noncomputable def C_s_l01DrawOf (K : Nat) : CB Try.prog := .s _ _ (ok_s_l01DrawOf K)
noncomputable def ps_s_l01Draw : Lv := [(0, (.bx (.v tq1)))]
noncomputable def rl_s_l01Draw : Lv := [(0, (.v tq0))]
noncomputable def sp_s_l01Draw (F : (dq1 × Unit) → Option ((dq0 × Unit) × (dq1 × Unit))) : ShSpec := ⟨ps_s_l01Draw, rl_s_l01Draw, F⟩
noncomputable def s_l01Draw (K : Nat) (x : (dq1 × Unit)) : Option ((dq0 × Unit) × (dq1 × Unit)) :=
    let l1 := [(0 : Int), (1 : Int), (1 : Int), (2 : Int), (2 : Int), (2 : Int), (3 : Int), (3 : Int), (3 : Int), (4 : Int), (4 : Int)]
    (s_l01Pick K (x.1, l1, ())).bind fun y2 =>
    (s_l01DrawOf K (y2.2.1, y2.1.1, ())).bind fun y3 =>
    some ((y3.1.1, ()), (y3.2.1, ()))
noncomputable def rv_s_l01Draw : Lv := [(0, (.bx (.v tq1))), (2, (.bx (.v tq0)))]
theorem ok_s_l01Draw (K : Nat) : ShOk Try.prog 153 (sp_s_l01Draw (s_l01Draw K)) :=
  sh_okD tysOk [C_s_l01Pick K, C_s_l01DrawOf K] 1 [] [] rv_s_l01Draw K Try.func153 (by kernel_rfl) trivial (fun _ => by kernel_rfl)
noncomputable def C_s_l01Draw (K : Nat) : CB Try.prog := .s _ _ (ok_s_l01Draw K)
noncomputable def ps_s_l01From : Lv := [(0, (.v (.sl (.int .u8))))]
noncomputable def rl_s_l01From : Lv := [(0, (.bx (.v tq1)))]
noncomputable def sp_s_l01From (F : ((List Int) × Unit) → Option ((dq1 × Unit) × Unit)) : ShSpec := ⟨ps_s_l01From, rl_s_l01From, F⟩
noncomputable def s_l01From_j5 {R : Type} (K : Nat) (k : Nat) (v0 : (List Int)) (v3 : dq1) (v4 : Int) (kn : (List Int) → dq1 → Int → Option R)  : Option R :=
    (if (bnds v4 (v0.length : Int)) = true then
    let x3 := (IntKind.u64.wrap ((IntKind.u64.wrap (v3.2.2.1 * (1099511628211 : Int))) + (IntKind.u64.wrap (v0.getD v4.toNat (0 : Int)))))
    kn v0 (v3.1, v3.2.1, (IntKind.u64.wrap (x3 + (149 : Int))), ()) (IntKind.i64.wrap (v4 + (1 : Int)))
    else
    none)
noncomputable def s_l01From_l3 {R : Type} (K : Nat) : Nat → (List Int) → dq1 → Int → (dq1 → Option R) → Option R
  | 0, _, _, _, _ => none
  | k + 1, v0, v3, v4, kx0 =>
    (if (decide (v4 < (v0.length : Int))) = true then
    (if (decide (v4 < (4096 : Int))) = true then
    s_l01From_j5 K k v0 v3 v4 (fun z4 z5 z6 =>
    s_l01From_l3 K k z4 z5 z6 kx0)
    else
    kx0 v3)
    else
    kx0 v3)
noncomputable def s_l01From (K : Nat) (x : ((List Int) × Unit)) : Option ((dq1 × Unit) × Unit) :=
    let x1 := (IntKind.u64.wrap ((13231 : Int) + (IntKind.u64.wrap (x.1.length : Int))))
    let x2 := ((x.1, (0 : Int), (0 : Int), ()).1, (x.1, (0 : Int), (0 : Int), ()).2.1, x1, ())
    s_l01From_l3 K K x.1 x2 (0 : Int) (fun z7 =>
    some ((z7, ()), ()))
noncomputable def X0_s_l01From : Lv := [(3, (.bx (.v tq1)))]
noncomputable def rv_s_l01From : Lv := [(2, (.bx (.v tq1)))]
noncomputable def D_s_l01From (K : Nat) : List (PD (den rl_s_l01From.ty × den (outL ps_s_l01From).ty)) := [.L 3 [(0, (.v (.sl (.int .u8)))), (3, (.bx (.v tq1))), (4, (.v (.int .i64)))] [] (fun k x kx kr => s_l01From_l3 K k x.1 x.2.1 x.2.2.1 (fun z0 => kx 0 (mkSt X0_s_l01From (z0, ())))),
  .J 5 [(0, (.v (.sl (.int .u8)))), (3, (.bx (.v tq1))), (4, (.v (.int .i64)))] [(0, (.v (.sl (.int .u8)))), (3, (.bx (.v tq1))), (4, (.v (.int .i64)))] 0 (fun k x kn kx kr => s_l01From_j5 K k x.1 x.2.1 x.2.2.1 (fun z0 z1 z2 => kn (z0, z1, z2, ())))]
theorem ok_s_l01From (K : Nat) : ShOk Try.prog 67 (sp_s_l01From (s_l01From K)) :=
  sh_okD tysOk [] 0 (D_s_l01From K) [(0, X0_s_l01From)] rv_s_l01From K Try.func67 (by kernel_rfl) ⟨⟨fun _ _ _ _ => by kernel_rfl, fun _ _ _ => rfl⟩, ⟨fun _ _ _ _ _ => by kernel_rfl, trivial⟩⟩ (fun _ => by kernel_rfl)
noncomputable def C_s_l01From (K : Nat) : CB Try.prog := .s _ _ (ok_s_l01From K)
noncomputable def as_s_l01Is : Ty := (.pair tq0 .unit)
noncomputable def sp_s_l01Is (F : (dq0 × Unit) → Option Bool) : FnSpec := ⟨as_s_l01Is, [false], .bool, F⟩
noncomputable def s_l01Is (K : Nat) (x : (dq0 × Unit)) : Option Bool :=
    (s_l01In K (x.1.1, (0 : Int), (4 : Int), ())).bind fun y1 =>
    (if y1 = true then
    (s_l01All K (x.1.1, ())).bind fun y2 =>
    (s_l01In K (x.1.2.1, (0 : Int), y2, ())).bind fun y3 =>
    some y3
    else
    some false)
noncomputable def rv_s_l01Is : Lv := [(2, (.v .bool))]
theorem ok_s_l01Is (K : Nat) : FnOk Try.prog 89 (sp_s_l01Is (s_l01Is K)) :=
  fn_okD tysOk [C_s_l01In K, C_s_l01All K] 0 [] [] rv_s_l01Is K Try.func89 (by kernel_rfl) trivial (fun _ => by kernel_rfl)
noncomputable def C_s_l01Is (K : Nat) : CB Try.prog := .f _ _ (ok_s_l01Is K)
noncomputable def ps_s_l01Spoil : Lv := [(0, (.bx (.v tq1)))]
noncomputable def rl_s_l01Spoil : Lv := [(0, (.v tq0))]
noncomputable def sp_s_l01Spoil (F : (dq1 × Unit) → Option ((dq0 × Unit) × (dq1 × Unit))) : ShSpec := ⟨ps_s_l01Spoil, rl_s_l01Spoil, F⟩
noncomputable def s_l01Spoil (K : Nat) (x : (dq1 × Unit)) : Option ((dq0 × Unit) × (dq1 × Unit)) :=
    (s_l01Draw K (x.1, ())).bind fun y1 =>
    (s_l01Bad K (y1.2.1, y1.1.1, ())).bind fun y2 =>
    some ((y2.1.1, ()), (y2.2.1, ()))
noncomputable def rv_s_l01Spoil : Lv := [(0, (.bx (.v tq1))), (2, (.bx (.v tq0)))]
theorem ok_s_l01Spoil (K : Nat) : ShOk Try.prog 98 (sp_s_l01Spoil (s_l01Spoil K)) :=
  sh_okD tysOk [C_s_l01Bad K, C_s_l01Draw K] 1 [] [] rv_s_l01Spoil K Try.func98 (by kernel_rfl) trivial (fun _ => by kernel_rfl)
noncomputable def C_s_l01Spoil (K : Nat) : CB Try.prog := .s _ _ (ok_s_l01Spoil K)
noncomputable def ps_s_l02DrawIn : Lv := [(0, (.bx (.v tq1)))]
noncomputable def rl_s_l02DrawIn : Lv := [(0, (.v tq0))]
noncomputable def sp_s_l02DrawIn (F : (dq1 × Unit) → Option ((dq0 × Unit) × (dq1 × Unit))) : ShSpec := ⟨ps_s_l02DrawIn, rl_s_l02DrawIn, F⟩
noncomputable def s_l02DrawIn_l13 {R : Type} (K : Nat) : Nat → dq1 → dq0 → Int → Int → Int → Int → Int → Int → (dq1 → dq0 → Int → Int → Int → Int → Int → Option R) → Option R
  | 0, _, _, _, _, _, _, _, _, _ => none
  | k + 1, v0, v2, v3, v5, v6, v7, v8, v9, kx3 =>
    (if (decide (v9 < v3)) = true then
    (if (decide ((0 : Int) ≤ (IntKind.u64.wrap v9))) = true then
    let x8 := (bitI .and .i64 (shrI .i64 v7 (IntKind.u64.wrap v9)) (1 : Int))
    (if (decide (x8 = (1 : Int))) = true then
    (if (decide ((0 : Int) ≤ (IntKind.u64.wrap (IntKind.i64.wrap (v9 + (1 : Int)))))) = true then
    let x9 := (shrI .i64 v6 (IntKind.u64.wrap (IntKind.i64.wrap (v9 + (1 : Int)))))
    s_l02DrawIn_l13 K k v0 v2 v3 v5 v6 v7 (IntKind.i64.wrap (v8 + x9)) (IntKind.i64.wrap (v9 + (1 : Int))) kx3
    else
    none)
    else
    s_l02DrawIn_l13 K k v0 v2 v3 v5 v6 v7 v8 (IntKind.i64.wrap (v9 + (1 : Int))) kx3)
    else
    none)
    else
    kx3 v0 v2 v3 v5 v6 v7 v8)
noncomputable def s_l02DrawIn_l9 {R : Type} (K : Nat) : Nat → dq1 → dq0 → Int → Int → Int → Int → (dq1 → dq0 → Int → Int → Option R) → Option R
  | 0, _, _, _, _, _, _, _ => none
  | k + 1, v0, v2, v3, v5, v6, v7, kx1 =>
    (s_l01Rows K (v3, ())).bind fun y7 =>
    (if (decide (v7 < y7)) = true then
    s_l02DrawIn_l13 K k v0 v2 v3 v5 v6 v7 v6 (0 : Int) (fun z10 z11 z12 z13 z14 z15 z16 =>
    (if (decide ((0 : Int) ≤ (IntKind.u64.wrap z15))) = true then
    let x17 := (shlI .i64 (bitI .and .i64 z16 (1 : Int)) (IntKind.u64.wrap z15))
    s_l02DrawIn_l9 K k z10 z11 z12 (bitI .or .i64 z13 x17) z14 (IntKind.i64.wrap (z15 + (1 : Int))) kx1
    else
    none))
    else
    kx1 v0 v2 v3 v5)
noncomputable def s_l02DrawIn_l26 {R : Type} (K : Nat) : Nat → dq1 → dq0 → Int → Int → Int → Int → Int → Int → (dq1 → dq0 → Int → Int → Int → Int → Int → Option R) → Option R
  | 0, _, _, _, _, _, _, _, _, _ => none
  | k + 1, v0, v2, v3, v10, v11, v12, v13, v14, kx7 =>
    (if (decide (v14 < v3)) = true then
    (if (decide ((0 : Int) ≤ (IntKind.u64.wrap v14))) = true then
    let x24 := (bitI .and .i64 (shrI .i64 v12 (IntKind.u64.wrap v14)) (1 : Int))
    s_l02DrawIn_l26 K k v0 v2 v3 v10 v11 v12 (IntKind.i64.wrap (v13 + x24)) (IntKind.i64.wrap (v14 + (1 : Int))) kx7
    else
    none)
    else
    kx7 v0 v2 v3 v10 v11 v12 v13)
noncomputable def s_l02DrawIn_l22 {R : Type} (K : Nat) : Nat → dq1 → dq0 → Int → Int → Int → Int → (dq1 → dq0 → Int → Int → Option R) → Option R
  | 0, _, _, _, _, _, _, _ => none
  | k + 1, v0, v2, v3, v10, v11, v12, kx5 =>
    (s_l01Rows K (v3, ())).bind fun y23 =>
    (if (decide (v12 < y23)) = true then
    s_l02DrawIn_l26 K k v0 v2 v3 v10 v11 v12 (0 : Int) (0 : Int) (fun z25 z26 z27 z28 z29 z30 z31 =>
    (if (decide (z31 ≥ z29)) = true then
    (if (decide ((0 : Int) ≤ (IntKind.u64.wrap z30))) = true then
    let x32 := (bitI .or .i64 z28 (shlI .i64 (1 : Int) (IntKind.u64.wrap z30)))
    s_l02DrawIn_l22 K k z25 z26 z27 x32 z29 (IntKind.i64.wrap (z30 + (1 : Int))) kx5
    else
    none)
    else
    s_l02DrawIn_l22 K k z25 z26 z27 z28 z29 (IntKind.i64.wrap (z30 + (1 : Int))) kx5))
    else
    kx5 v0 v2 v3 v10)
noncomputable def s_l02DrawIn_j36 {R : Type} (K : Nat) (k : Nat) (v0 : dq1) (v2 : dq0) (v3 : Int) (v4 : dq0) (v15 : Int) (v16 : Int) (kn : dq1 → dq0 → Int → dq0 → Int → Int → Option R)  : Option R :=
    kn v0 v2 v3 v4 v15 (IntKind.i64.wrap (v16 + (1 : Int)))
noncomputable def s_l02DrawIn_l35 {R : Type} (K : Nat) : Nat → dq1 → dq0 → Int → dq0 → Int → Int → (dq1 → dq0 → Int → Int → Option R) → Option R
  | 0, _, _, _, _, _, _, _ => none
  | k + 1, v0, v2, v3, v4, v15, v16, kx9 =>
    (s_l01Rows K (v3, ())).bind fun y37 =>
    (if (decide (v16 < y37)) = true then
    (s_l01Rows K (v3, ())).bind fun y38 =>
    let x39 := (IntKind.i64.wrap ((IntKind.i64.wrap (y38 - (1 : Int))) - v16))
    (if (decide (v16 < x39)) = true then
    (s_l01At K (v4, v16, ())).bind fun y40 =>
    (if (decide (y40 = (1 : Int))) = true then
    (if (decide ((0 : Int) ≤ (IntKind.u64.wrap v16))) = true then
    let x41 := (bitI .or .i64 v15 (shlI .i64 (1 : Int) (IntKind.u64.wrap v16)))
    s_l02DrawIn_j36 K k v0 v2 v3 v4 x41 v16 (fun z42 z43 z44 z45 z46 z47 =>
    s_l02DrawIn_l35 K k z42 z43 z44 z45 z46 z47 kx9)
    else
    none)
    else
    (if (decide (v16 > x39)) = true then
    (s_l01At K (v4, x39, ())).bind fun y48 =>
    (if (decide (y48 = (0 : Int))) = true then
    (if (decide ((0 : Int) ≤ (IntKind.u64.wrap v16))) = true then
    let x49 := (bitI .or .i64 v15 (shlI .i64 (1 : Int) (IntKind.u64.wrap v16)))
    s_l02DrawIn_j36 K k v0 v2 v3 v4 x49 v16 (fun z50 z51 z52 z53 z54 z55 =>
    s_l02DrawIn_l35 K k z50 z51 z52 z53 z54 z55 kx9)
    else
    none)
    else
    s_l02DrawIn_j36 K k v0 v2 v3 v4 v15 v16 (fun z56 z57 z58 z59 z60 z61 =>
    s_l02DrawIn_l35 K k z56 z57 z58 z59 z60 z61 kx9))
    else
    s_l02DrawIn_j36 K k v0 v2 v3 v4 v15 v16 (fun z62 z63 z64 z65 z66 z67 =>
    s_l02DrawIn_l35 K k z62 z63 z64 z65 z66 z67 kx9)))
    else
    (if (decide (v16 > x39)) = true then
    (s_l01At K (v4, x39, ())).bind fun y68 =>
    (if (decide (y68 = (0 : Int))) = true then
    (if (decide ((0 : Int) ≤ (IntKind.u64.wrap v16))) = true then
    let x69 := (bitI .or .i64 v15 (shlI .i64 (1 : Int) (IntKind.u64.wrap v16)))
    s_l02DrawIn_j36 K k v0 v2 v3 v4 x69 v16 (fun z70 z71 z72 z73 z74 z75 =>
    s_l02DrawIn_l35 K k z70 z71 z72 z73 z74 z75 kx9)
    else
    none)
    else
    s_l02DrawIn_j36 K k v0 v2 v3 v4 v15 v16 (fun z76 z77 z78 z79 z80 z81 =>
    s_l02DrawIn_l35 K k z76 z77 z78 z79 z80 z81 kx9))
    else
    s_l02DrawIn_j36 K k v0 v2 v3 v4 v15 v16 (fun z82 z83 z84 z85 z86 z87 =>
    s_l02DrawIn_l35 K k z82 z83 z84 z85 z86 z87 kx9)))
    else
    kx9 v0 v2 v3 v15)
noncomputable def s_l02DrawIn (K : Nat) (x : (dq1 × Unit)) : Option ((dq0 × Unit) × (dq1 × Unit)) :=
    let l1 := [(0 : Int), (1 : Int), (2 : Int), (2 : Int), (3 : Int), (3 : Int), (4 : Int)]
    (s_l01Pick K (x.1, l1, ())).bind fun y2 =>
    (s_l01DrawOf K (y2.2.1, y2.1.1, ())).bind fun y3 =>
    (s_l01Next K (y3.2.1, (6 : Int), ())).bind fun y4 =>
    (if (decide (y4.1.1 = (0 : Int))) = true then
    (s_l01Spoil K (y4.2.1, ())).bind fun y5 =>
    some ((y5.1.1, ()), (y5.2.1, ()))
    else
    (if (decide (y4.1.1 = (1 : Int))) = true then
    (s_l01Next K (y4.2.1, (32 : Int), ())).bind fun y6 =>
    s_l02DrawIn_l9 K K y6.2.1 ((0 : Int), (0 : Int), ()) y2.1.1 (0 : Int) y6.1.1 (0 : Int) (fun z18 z19 z20 z21 =>
    some ((((z20, ((0 : Int), (0 : Int), ()).2.1, ()).1, z21, ()), ()), (z18, ())))
    else
    (if (decide (y4.1.1 = (2 : Int))) = true then
    (s_l01Next K (y4.2.1, (IntKind.i64.wrap (y2.1.1 + (2 : Int))), ())).bind fun y22 =>
    s_l02DrawIn_l22 K K y22.2.1 ((0 : Int), (0 : Int), ()) y2.1.1 (0 : Int) y22.1.1 (0 : Int) (fun z33 z34 z35 z36 =>
    some ((((z35, ((0 : Int), (0 : Int), ()).2.1, ()).1, z36, ()), ()), (z33, ())))
    else
    (if (decide (y4.1.1 = (3 : Int))) = true then
    s_l02DrawIn_l35 K K y4.2.1 ((0 : Int), (0 : Int), ()) y2.1.1 y3.1.1 (0 : Int) (0 : Int) (fun z88 z89 z90 z91 =>
    some ((((z90, ((0 : Int), (0 : Int), ()).2.1, ()).1, z91, ()), ()), (z88, ())))
    else
    some ((y3.1.1, ()), (y4.2.1, ()))))))
noncomputable def X1_s_l02DrawIn : Lv := [(0, (.bx (.v tq1))), (2, (.bx (.v tq0))), (3, (.v (.int .i64))), (5, (.v (.int .i64)))]
noncomputable def X3_s_l02DrawIn : Lv := [(0, (.bx (.v tq1))), (2, (.bx (.v tq0))), (3, (.v (.int .i64))), (5, (.v (.int .i64))), (6, (.v (.int .i64))), (7, (.v (.int .i64))), (8, (.v (.int .i64)))]
noncomputable def X5_s_l02DrawIn : Lv := [(0, (.bx (.v tq1))), (2, (.bx (.v tq0))), (3, (.v (.int .i64))), (10, (.v (.int .i64)))]
noncomputable def X7_s_l02DrawIn : Lv := [(0, (.bx (.v tq1))), (2, (.bx (.v tq0))), (3, (.v (.int .i64))), (10, (.v (.int .i64))), (11, (.v (.int .i64))), (12, (.v (.int .i64))), (13, (.v (.int .i64)))]
noncomputable def X9_s_l02DrawIn : Lv := [(0, (.bx (.v tq1))), (2, (.bx (.v tq0))), (3, (.v (.int .i64))), (15, (.v (.int .i64)))]
noncomputable def rv_s_l02DrawIn : Lv := [(0, (.bx (.v tq1))), (2, (.bx (.v tq0)))]
noncomputable def D_s_l02DrawIn (K : Nat) : List (PD (den rl_s_l02DrawIn.ty × den (outL ps_s_l02DrawIn).ty)) := [.L 9 [(0, (.bx (.v tq1))), (2, (.bx (.v tq0))), (3, (.v (.int .i64))), (5, (.v (.int .i64))), (6, (.v (.int .i64))), (7, (.v (.int .i64)))] [] (fun k x kx kr => s_l02DrawIn_l9 K k x.1 x.2.1 x.2.2.1 x.2.2.2.1 x.2.2.2.2.1 x.2.2.2.2.2.1 (fun z0 z1 z2 z3 => kx 1 (mkSt X1_s_l02DrawIn (z0, z1, z2, z3, ())))),
  .L 13 [(0, (.bx (.v tq1))), (2, (.bx (.v tq0))), (3, (.v (.int .i64))), (5, (.v (.int .i64))), (6, (.v (.int .i64))), (7, (.v (.int .i64))), (8, (.v (.int .i64))), (9, (.v (.int .i64)))] [] (fun k x kx kr => s_l02DrawIn_l13 K k x.1 x.2.1 x.2.2.1 x.2.2.2.1 x.2.2.2.2.1 x.2.2.2.2.2.1 x.2.2.2.2.2.2.1 x.2.2.2.2.2.2.2.1 (fun z0 z1 z2 z3 z4 z5 z6 => kx 3 (mkSt X3_s_l02DrawIn (z0, z1, z2, z3, z4, z5, z6, ())))),
  .L 22 [(0, (.bx (.v tq1))), (2, (.bx (.v tq0))), (3, (.v (.int .i64))), (10, (.v (.int .i64))), (11, (.v (.int .i64))), (12, (.v (.int .i64)))] [] (fun k x kx kr => s_l02DrawIn_l22 K k x.1 x.2.1 x.2.2.1 x.2.2.2.1 x.2.2.2.2.1 x.2.2.2.2.2.1 (fun z0 z1 z2 z3 => kx 5 (mkSt X5_s_l02DrawIn (z0, z1, z2, z3, ())))),
  .L 26 [(0, (.bx (.v tq1))), (2, (.bx (.v tq0))), (3, (.v (.int .i64))), (10, (.v (.int .i64))), (11, (.v (.int .i64))), (12, (.v (.int .i64))), (13, (.v (.int .i64))), (14, (.v (.int .i64)))] [] (fun k x kx kr => s_l02DrawIn_l26 K k x.1 x.2.1 x.2.2.1 x.2.2.2.1 x.2.2.2.2.1 x.2.2.2.2.2.1 x.2.2.2.2.2.2.1 x.2.2.2.2.2.2.2.1 (fun z0 z1 z2 z3 z4 z5 z6 => kx 7 (mkSt X7_s_l02DrawIn (z0, z1, z2, z3, z4, z5, z6, ())))),
  .L 35 [(0, (.bx (.v tq1))), (2, (.bx (.v tq0))), (3, (.v (.int .i64))), (4, (.bx (.v tq0))), (15, (.v (.int .i64))), (16, (.v (.int .i64)))] [] (fun k x kx kr => s_l02DrawIn_l35 K k x.1 x.2.1 x.2.2.1 x.2.2.2.1 x.2.2.2.2.1 x.2.2.2.2.2.1 (fun z0 z1 z2 z3 => kx 9 (mkSt X9_s_l02DrawIn (z0, z1, z2, z3, ())))),
  .J 36 [(0, (.bx (.v tq1))), (2, (.bx (.v tq0))), (3, (.v (.int .i64))), (4, (.bx (.v tq0))), (15, (.v (.int .i64))), (16, (.v (.int .i64)))] [(0, (.bx (.v tq1))), (2, (.bx (.v tq0))), (3, (.v (.int .i64))), (4, (.bx (.v tq0))), (15, (.v (.int .i64))), (16, (.v (.int .i64)))] 0 (fun k x kn kx kr => s_l02DrawIn_j36 K k x.1 x.2.1 x.2.2.1 x.2.2.2.1 x.2.2.2.2.1 x.2.2.2.2.2.1 (fun z0 z1 z2 z3 z4 z5 => kn (z0, z1, z2, z3, z4, z5, ())))]
theorem ok_s_l02DrawIn (K : Nat) : ShOk Try.prog 85 (sp_s_l02DrawIn (s_l02DrawIn K)) :=
  sh_okD tysOk [C_s_l01Pick K, C_s_l01Next K, C_s_l01Rows K, C_s_l01At K, C_s_l01DrawOf K, C_s_l01Spoil K] 1 (D_s_l02DrawIn K) [(1, X1_s_l02DrawIn), (3, X3_s_l02DrawIn), (5, X5_s_l02DrawIn), (7, X7_s_l02DrawIn), (9, X9_s_l02DrawIn)] rv_s_l02DrawIn K Try.func85 (by kernel_rfl) ⟨⟨fun _ _ _ _ => by kernel_rfl, fun _ _ _ => rfl⟩, ⟨⟨fun _ _ _ _ => by kernel_rfl, fun _ _ _ => rfl⟩, ⟨⟨fun _ _ _ _ => by kernel_rfl, fun _ _ _ => rfl⟩, ⟨⟨fun _ _ _ _ => by kernel_rfl, fun _ _ _ => rfl⟩, ⟨⟨fun _ _ _ _ => by kernel_rfl, fun _ _ _ => rfl⟩, ⟨fun _ _ _ _ _ => by kernel_rfl, trivial⟩⟩⟩⟩⟩⟩ (fun _ => by kernel_rfl)
noncomputable def C_s_l02DrawIn (K : Nat) : CB Try.prog := .s _ _ (ok_s_l02DrawIn K)
noncomputable def ps_s_l06DrawOf : Lv := [(0, (.bx (.v tq1))), (1, (.v (.int .i64)))]
noncomputable def rl_s_l06DrawOf : Lv := [(0, (.v tq0))]
noncomputable def sp_s_l06DrawOf (F : (dq1 × Int × Unit) → Option ((dq0 × Unit) × (dq1 × Unit))) : ShSpec := ⟨ps_s_l06DrawOf, rl_s_l06DrawOf, F⟩
noncomputable def s_l06DrawOf_j10 {R : Type} (K : Nat) (k : Nat) (v0 : dq1) (v1 : Int) (v4 : dq0) (v5 : Int) (kn : Option R) (kr : (dq1 → dq0 → Option R)) : Option R :=
    kr v0 ((v1, ((0 : Int), (0 : Int), ()).2.1, ()).1, v5, ())
noncomputable def s_l06DrawOf_j8 {R : Type} (K : Nat) (k : Nat) (v0 : dq1) (v1 : Int) (v4 : dq0) (v5 : Int) (kn : dq1 → Int → dq0 → Int → Option R)  : Option R :=
    (if (decide (v1 = (3 : Int))) = true then
    let l13 := [(150 : Int), (105 : Int), (127 : Int), (254 : Int), (232 : Int)]
    (s_l01Pick K (v0, l13, ())).bind fun y14 =>
    kn y14.2.1 v1 v4 y14.1.1
    else
    kn v0 v1 v4 v5)
noncomputable def s_l06DrawOf (K : Nat) (x : (dq1 × Int × Unit)) : Option ((dq0 × Unit) × (dq1 × Unit)) :=
    (s_l01All K (x.2.1, ())).bind fun y1 =>
    (s_l01Next K (x.1, (IntKind.i64.wrap (y1 + (1 : Int))), ())).bind fun y2 =>
    (s_l01Next K (y2.2.1, (5 : Int), ())).bind fun y3 =>
    (if (decide (y3.1.1 = (0 : Int))) = true then
    (s_l01Rows K (x.2.1, ())).bind fun y4 =>
    (s_l01Next K (y3.2.1, y4, ())).bind fun y5 =>
    (if (decide ((0 : Int) ≤ (IntKind.u64.wrap y5.1.1))) = true then
    (s_l01Rows K (x.2.1, ())).bind fun y6 =>
    (s_l01Next K (y5.2.1, y6, ())).bind fun y7 =>
    (if (decide ((0 : Int) ≤ (IntKind.u64.wrap y7.1.1))) = true then
    let x8 := (bitI .or .i64 (shlI .i64 (1 : Int) (IntKind.u64.wrap y5.1.1)) (shlI .i64 (1 : Int) (IntKind.u64.wrap y7.1.1)))
    s_l06DrawOf_j10 K K y7.2.1 x.2.1 ((0 : Int), (0 : Int), ()) x8 none (fun z9 z10 =>
    some ((z10, ()), (z9, ())))
    else
    none)
    else
    none)
    else
    (if (decide (y3.1.1 = (1 : Int))) = true then
    (if (decide (x.2.1 = (2 : Int))) = true then
    let l11 := [(9 : Int), (11 : Int), (13 : Int), (14 : Int), (7 : Int), (6 : Int)]
    (s_l01Pick K (y3.2.1, l11, ())).bind fun y12 =>
    s_l06DrawOf_j8 K K y12.2.1 x.2.1 ((0 : Int), (0 : Int), ()) y12.1.1 (fun z15 z16 z17 z18 =>
    s_l06DrawOf_j10 K K z15 z16 z17 z18 none (fun z19 z20 =>
    some ((z20, ()), (z19, ()))))
    else
    s_l06DrawOf_j8 K K y3.2.1 x.2.1 ((0 : Int), (0 : Int), ()) y2.1.1 (fun z21 z22 z23 z24 =>
    s_l06DrawOf_j10 K K z21 z22 z23 z24 none (fun z25 z26 =>
    some ((z26, ()), (z25, ())))))
    else
    s_l06DrawOf_j10 K K y3.2.1 x.2.1 ((0 : Int), (0 : Int), ()) y2.1.1 none (fun z27 z28 =>
    some ((z28, ()), (z27, ())))))
noncomputable def rv_s_l06DrawOf : Lv := [(0, (.bx (.v tq1))), (4, (.bx (.v tq0)))]
noncomputable def D_s_l06DrawOf (K : Nat) : List (PD (den rl_s_l06DrawOf.ty × den (outL ps_s_l06DrawOf).ty)) := [.J 8 [(0, (.bx (.v tq1))), (1, (.v (.int .i64))), (4, (.bx (.v tq0))), (5, (.v (.int .i64)))] [(0, (.bx (.v tq1))), (1, (.v (.int .i64))), (4, (.bx (.v tq0))), (5, (.v (.int .i64)))] 0 (fun k x kn kx kr => s_l06DrawOf_j8 K k x.1 x.2.1 x.2.2.1 x.2.2.2.1 (fun z0 z1 z2 z3 => kn (z0, z1, z2, z3, ()))),
  .J 10 [(0, (.bx (.v tq1))), (1, (.v (.int .i64))), (4, (.bx (.v tq0))), (5, (.v (.int .i64)))] [] 0 (fun k x kn kx kr => s_l06DrawOf_j10 K k x.1 x.2.1 x.2.2.1 x.2.2.2.1 (kn ()) (fun z0 z1 => kr (mkSt rv_s_l06DrawOf (z0, z1, ()))))]
theorem ok_s_l06DrawOf (K : Nat) : ShOk Try.prog 69 (sp_s_l06DrawOf (s_l06DrawOf K)) :=
  sh_okD tysOk [C_s_l01Pick K, C_s_l01Next K, C_s_l01Rows K, C_s_l01All K] 1 (D_s_l06DrawOf K) [] rv_s_l06DrawOf K Try.func69 (by kernel_rfl) ⟨fun _ _ _ _ _ => by kernel_rfl, ⟨fun _ _ _ _ _ => by kernel_rfl, trivial⟩⟩ (fun _ => by kernel_rfl)
noncomputable def C_s_l06DrawOf (K : Nat) : CB Try.prog := .s _ _ (ok_s_l06DrawOf K)
noncomputable def ps_s_l06Draw : Lv := [(0, (.bx (.v tq1)))]
noncomputable def rl_s_l06Draw : Lv := [(0, (.v tq0))]
noncomputable def sp_s_l06Draw (F : (dq1 × Unit) → Option ((dq0 × Unit) × (dq1 × Unit))) : ShSpec := ⟨ps_s_l06Draw, rl_s_l06Draw, F⟩
noncomputable def s_l06Draw (K : Nat) (x : (dq1 × Unit)) : Option ((dq0 × Unit) × (dq1 × Unit)) :=
    let l1 := [(1 : Int), (2 : Int), (2 : Int), (3 : Int), (3 : Int), (4 : Int)]
    (s_l01Pick K (x.1, l1, ())).bind fun y2 =>
    (s_l06DrawOf K (y2.2.1, y2.1.1, ())).bind fun y3 =>
    (s_l01Next K (y3.2.1, (40 : Int), ())).bind fun y4 =>
    (if (decide (y4.1.1 = (0 : Int))) = true then
    let l5 := [(0 : Int), (5 : Int), (-1 : Int)]
    (s_l01Pick K (y4.2.1, l5, ())).bind fun y6 =>
    some (((y6.1.1, y3.1.1.2.1, ()), ()), (y6.2.1, ()))
    else
    (if (decide (y4.1.1 = (1 : Int))) = true then
    let l7 := [(-1 : Int), (65536 : Int)]
    (s_l01Pick K (y4.2.1, l7, ())).bind fun y8 =>
    some (((y3.1.1.1, y8.1.1, ()), ()), (y8.2.1, ()))
    else
    some ((y3.1.1, ()), (y4.2.1, ()))))
noncomputable def rv_s_l06Draw : Lv := [(0, (.bx (.v tq1))), (2, (.bx (.v tq0)))]
theorem ok_s_l06Draw (K : Nat) : ShOk Try.prog 68 (sp_s_l06Draw (s_l06Draw K)) :=
  sh_okD tysOk [C_s_l06DrawOf K, C_s_l01Pick K, C_s_l01Next K] 1 [] [] rv_s_l06Draw K Try.func68 (by kernel_rfl) trivial (fun _ => by kernel_rfl)
noncomputable def C_s_l06Draw (K : Nat) : CB Try.prog := .s _ _ (ok_s_l06Draw K)
noncomputable def as_s_l06Is : Ty := (.pair tq0 .unit)
noncomputable def sp_s_l06Is (F : (dq0 × Unit) → Option Bool) : FnSpec := ⟨as_s_l06Is, [false], .bool, F⟩
noncomputable def s_l06Is (K : Nat) (x : (dq0 × Unit)) : Option Bool :=
    (s_l01In K (x.1.1, (1 : Int), (4 : Int), ())).bind fun y1 =>
    (if y1 = true then
    (s_l01All K (x.1.1, ())).bind fun y2 =>
    (s_l01In K (x.1.2.1, (0 : Int), y2, ())).bind fun y3 =>
    some y3
    else
    some false)
noncomputable def rv_s_l06Is : Lv := [(2, (.v .bool))]
theorem ok_s_l06Is (K : Nat) : FnOk Try.prog 76 (sp_s_l06Is (s_l06Is K)) :=
  fn_okD tysOk [C_s_l01In K, C_s_l01All K] 0 [] [] rv_s_l06Is K Try.func76 (by kernel_rfl) trivial (fun _ => by kernel_rfl)
noncomputable def C_s_l06Is (K : Nat) : CB Try.prog := .f _ _ (ok_s_l06Is K)
noncomputable def as_s_l06List : Ty := (.pair tq0 .unit)
noncomputable def sp_s_l06List (F : (dq0 × Unit) → Option (List Int)) : FnSpec := ⟨as_s_l06List, [false], (.sl (.int .i64)), F⟩
noncomputable def s_l06List_l3 {R : Type} (K : Nat) : Nat → dq0 → (List Int) → Int → ((List Int) → Option R) → Option R
  | 0, _, _, _, _ => none
  | k + 1, v1, v3, v4, kx0 =>
    (s_l01Rows K (v1.1, ())).bind fun y2 =>
    (if (decide (v4 < y2)) = true then
    (if (decide ((0 : Int) ≤ (IntKind.u64.wrap v4))) = true then
    let x3 := (bitI .and .i64 (shrI .i64 v1.2.1 (IntKind.u64.wrap v4)) (1 : Int))
    (if (decide (x3 = (1 : Int))) = true then
    (if (decide (v3.length + ([v4]).length ≤ lim)) = true then
    let l4 := (v3 ++ [v4])
    s_l06List_l3 K k v1 l4 (IntKind.i64.wrap (v4 + (1 : Int))) kx0
    else
    none)
    else
    s_l06List_l3 K k v1 v3 (IntKind.i64.wrap (v4 + (1 : Int))) kx0)
    else
    none)
    else
    kx0 v3)
noncomputable def s_l06List (K : Nat) (x : (dq0 × Unit)) : Option (List Int) :=
    let l1 := ([] : List Int)
    s_l06List_l3 K K x.1 l1 (0 : Int) (fun z5 =>
    some z5)
noncomputable def X0_s_l06List : Lv := [(3, (.r (.int .i64)))]
noncomputable def rv_s_l06List : Lv := [(2, (.r (.int .i64)))]
noncomputable def D_s_l06List (K : Nat) : List (PD (den (.sl (.int .i64)))) := [.L 3 [(1, (.bx (.v tq0))), (3, (.r (.int .i64))), (4, (.v (.int .i64)))] [] (fun k x kx kr => s_l06List_l3 K k x.1 x.2.1 x.2.2.1 (fun z0 => kx 0 (mkSt X0_s_l06List (z0, ()))))]
theorem ok_s_l06List (K : Nat) : FnOk Try.prog 77 (sp_s_l06List (s_l06List K)) :=
  fn_okD tysOk [C_s_l01Rows K] 0 (D_s_l06List K) [(0, X0_s_l06List)] rv_s_l06List K Try.func77 (by kernel_rfl) ⟨⟨fun _ _ _ _ => by kernel_rfl, fun _ _ _ => rfl⟩, trivial⟩ (fun _ => by kernel_rfl)
noncomputable def C_s_l06List (K : Nat) : CB Try.prog := .f _ _ (ok_s_l06List K)
noncomputable def as_slices_Index_int64 : Ty := (.pair (.sl (.int .i64)) (.pair (.int .i64) .unit))
noncomputable def sp_slices_Index_int64 (F : ((List Int) × Int × Unit) → Option Int) : FnSpec := ⟨as_slices_Index_int64, [false, false], (.int .i64), F⟩
noncomputable def slices_Index_int64_l2 {R : Type} (K : Nat) : Nat → (List Int) → Int → Int → Int → (Option R) → (Int → Option R) → Option R
  | 0, _, _, _, _, _, _ => none
  | k + 1, v0, v1, v7, v8, kx0, kr =>
    (if (decide (v8 < v7)) = true then
    (if (bnds v8 (v0.length : Int)) = true then
    (if (decide (v1 = (v0.getD v8.toNat (0 : Int)))) = true then
    kr v8
    else
    slices_Index_int64_l2 K k v0 v1 v7 (IntKind.i64.wrap (v8 + (1 : Int))) kx0 kr)
    else
    none)
    else
    kx0)
noncomputable def slices_Index_int64 (K : Nat) (x : ((List Int) × Int × Unit)) : Option Int :=
    slices_Index_int64_l2 K K x.1 x.2.1 (x.1.length : Int) (0 : Int) (some (-1 : Int)) (fun z1 =>
    some z1)
noncomputable def X0_slices_Index_int64 : Lv := []
noncomputable def rv_slices_Index_int64 : Lv := [(4, (.v (.int .i64)))]
noncomputable def D_slices_Index_int64 (K : Nat) : List (PD (den (.int .i64))) := [.L 2 [(0, (.v (.sl (.int .i64)))), (1, (.v (.int .i64))), (7, (.v (.int .i64))), (8, (.v (.int .i64)))] [] (fun k x kx kr => slices_Index_int64_l2 K k x.1 x.2.1 x.2.2.1 x.2.2.2.1 (kx 0 (mkSt X0_slices_Index_int64 ())) (fun z0 => kr (mkSt rv_slices_Index_int64 (z0, ()))))]
theorem ok_slices_Index_int64 (K : Nat) : FnOk Try.prog 142 (sp_slices_Index_int64 (slices_Index_int64 K)) :=
  fn_okD tysOk [] 0 (D_slices_Index_int64 K) [(0, X0_slices_Index_int64)] rv_slices_Index_int64 K Try.func142 (by kernel_rfl) ⟨⟨fun _ _ _ _ => by kernel_rfl, fun _ _ _ => rfl⟩, trivial⟩ (fun _ => by kernel_rfl)
noncomputable def C_slices_Index_int64 (K : Nat) : CB Try.prog := .f _ _ (ok_slices_Index_int64 K)
end Go.Proofs.Ytpohjacoemoijaa.E
