/-
  Contracts of slices.Clone over any element that leads to no memory, and of the library's search for a byte. Conditions: those of each theorem.
-/
import Derived.Test.YtckkagmccbkfbaaCFnExactEasyClasses3
namespace Go.Proofs.Ytckkagmccbkfbaa.E
open Go Go.RowKit Go.Shelf
set_option linter.unusedVariables false
set_option linter.unusedSimpArgs false
theorem cellAt {w : World} {b o : Nat} {arr : Array Value} {t : TypeId} {fz : Nat × Nat} (h : w.heap[b]? = some (.cells arr t fz)) (j : Nat) : w.cell? ⟨b, o + j, none⟩ = arr[o + j]? := by
  simp [World.cell?, h]
set_option maxHeartbeats 2000000 in
set_option maxRecDepth 100000 in
/-- slices.Clone of a slice that is not nil, whatever its address. -/
theorem clone_calls {P : Program} {ρ : Ren} (L : SlLaysE0.n41 P ρ) (i0 : TypeInfo) (z : Value) (size bytes : Nat) (hi : P.info? (ρ.t 23) = some i0) (hz0 : i0.zero = some z) (hz1 : i0.size = size) (hz2 : i0.bytes = bytes) (hzs : z.cells.size = size) (hsz : 0 < size)
    (z23 : ∀ w, (Go.sizeOf (ρ.t 23)).run P w = .ok size w) (a : Addr) (n c : Nat) (news : List Value) (w : World) (hl : news.length = n * size) (hn : n ≤ maxLen) (hbig : n * bytes ≤ 140737488355328)
    (hc : ∀ j u, news[j]? = some u → w.cell? (a.add j) = some u) (h1 : ∀ u ∈ news, u.oneCell' = true) :
    Calls P (ρ.f 41) #[.slice (some a) n c] w fun e w' => ∃ v', e = .returned v' ∧ w'.ownsRow w.heap.size (ρ.t 23) size v' n news ∧ Below w.heap.size w w' := by
  have mixed := L.mixed; have t4 := L.t4; have a4 := L.a4; have z4 := L.z4; have v4 := L.v4; have t22 := L.t22; have a22 := L.a22; have z22 := L.z22; have v22 := L.v22
  have q22 : ∀ (w : World) (a : Option Addr) (n c n' c' : Nat), (binOp .eql (ρ.t 22) (.slice a n c) (.slice none n' c')).run P w = .ok (.bool a.isNone) w := fun w a n c n' c' => Lib.run_eql_slice_nil w _ _ a n c n' c' L.t22
  have u22 : ∀ w, Sem.run P (underlying (ρ.t 22)) w = .ok (TypeDesc.slice (ρ.t 23)) w := run_underlying t22
  have A : Aside (∀ j u, news[j]? = some u → w.cell? (a.add j) = some u) := hc
  clear hc
  obtain ⟨_, _, FG⟩ := L.f41
  go_enter FG, SlBodyN.n41_ntmps ρ
  go_wp2_with (at_builtin; refine wpList_append_own _ rfl _ _ (ρ.t 22) rfl w.heap.size (ρ.t 23) i0 z size bytes t22 hi hz0 hz1 hz2 hzs hsz _ _ _ rfl (World.ownsRow_made w #[] 0 (Nat.le_refl _) (Nat.zero_le _) (by simp)) a n c news rfl ?qc1 ?qc2 ?qc3 ?qc4 ?qc5 ?qc6 ?_)
  case qc1 => exact hl
  case qc2 =>
    intro j u hj
    exact Lib.cell?_alloc_some _ (A.out j u hj)
  case qc3 => exact h1
  case qc4 => rw [Nat.zero_add]; exact hn
  case qc5 => rw [Nat.zero_add]; exact hbig
  case qc6 => simp
  intro v' w1 hown hgrow hnil
  go_wp2
  go_ret
  refine ⟨v', rfl, by simpa using hown, ?_⟩
  exact ((Below.refl _ w).alloc (Nat.le_refl _) _).grown hgrow (by simp) (by intro k hk; simp [Value.ownBlock] at hk; omega)
theorem clone_ok {P : Program} {ρ : Ren} (L : SlLaysE0.n41 P ρ) {ty : Nat → Option Ty} {e : Ty} (ht : TyOk P ty (ρ.t 23) e) (hm : e.mem = false) {z : SV} (hz : zeroSV e = some z) (hw : e.ownable = true) (hs : 0 < e.sz) :
    FnOk P (ρ.f 41) ⟨.pair (.sl e) .unit, [false], .sl e, fun x => if (x.1 : List (den e)).length ≤ lim then some x.1 else none⟩ := by
  refine ⟨fun _ => ?_, fun h => by cases h⟩
  intro w vs x y hx hy
  obtain ⟨c, r, rfl, hc, hr⟩ := hx
  have hr : r = [] := hr
  subst hr
  obtain ⟨a, n, cp, rfl, hn, hcp, hl⟩ := hc
  have hy : (if (x.1 : List (den e)).length ≤ lim then some x.1 else none) = some y := hy
  split at hy
  case isFalse => cases hy
  rename_i hlim
  cases hy
  obtain ⟨nm, hnm, hf⟩ := L.f41
  obtain ⟨i, hi, hsz, hb1, hb2, hzz⟩ := zero_val ht hz hw
  refine cf_of_calls hf hnm rfl ?_
  have nil_case : x.1 = [] → Calls P (ρ.f 41) #[.slice none n cp] w fun e' w' => ∃ v, e' = .returned v ∧ Ret (.sl e) x.1 w v w' := fun h0 => by
    refine (AnyE.slices_Clone_nil L n cp w).mono ?_
    rintro e' w' ⟨rfl, rfl⟩
    exact ⟨_, rfl, [], ⟨_, rfl, .inl ⟨rfl, h0, rfl⟩⟩, List.nodup_nil, fun b hb => (by cases hb), Below.refl _ _⟩
  cases a with
  | none =>
    rcases hl with h0 | ⟨b, o, arr, t, fz, h1, _⟩
    · exact nil_case h0
    · cases h1
  | some a =>
    have hcl : ∃ news : List Value, news.length = n * e.sz ∧ (∀ j u, news[j]? = some u → w.cell? (a.add j) = some u) ∧ (∀ u ∈ news, u.oneCell' = true) ∧
        ∀ (i : Nat) y, (x.1 : List (den e))[i]? = some y → TC e w (seg news (i * e.sz) e.sz) y [] := by
      rcases hl with h0 | ⟨b, o, arr, t, fz, h1, hb, hh, ho, hel⟩
      · have h0 : (x.1 : List (den e)) = [] := h0
        have hn0 : n = 0 := by rw [hn, h0]; rfl
        exact ⟨[], by rw [hn0]; simp, fun j u h => (by simp at h), fun u h => (by cases h), fun i y h => by rw [h0] at h; simp at h⟩
      · cases h1
        have hal : arr.toList.length = arr.size := Array.length_toList
        have hlen : (seg arr.toList o (n * e.sz)).length = n * e.sz := seg_len (by rw [hal]; exact ho)
        have hel' : ∀ (i : Nat) y, (x.1 : List (den e))[i]? = some y → TC e w (seg (seg arr.toList o (n * e.sz)) (i * e.sz) e.sz) y [] := fun i y hy => by
          have hi : i < n := by rw [hn]; exact (List.getElem?_eq_some_iff.1 hy).1
          have hm1 : (i + 1) * e.sz ≤ n * e.sz := Nat.mul_le_mul_right _ hi
          rw [Nat.succ_mul] at hm1
          rw [seg_seg _ hm1]
          exact TC_of_RX P e hm (hel i y hy)
        refine ⟨seg arr.toList o (n * e.sz), hlen, fun j u hj => ?_, fun u hu => ?_, hel'⟩
        · rw [seg_get] at hj
          split at hj
          case isFalse => cases hj
          rw [show (⟨b, o, none⟩ : Addr).add j = ⟨b, o + j, none⟩ from Addr.add_lit .., cellAt hh, ← Array.getElem?_toList]
          exact hj
        · obtain ⟨k, hk⟩ := List.getElem?_of_mem hu
          have hk2 := (List.getElem?_eq_some_iff.1 hk).1
          rw [hlen] at hk2
          have hi : k / e.sz < n := Nat.div_lt_of_lt_mul (by rw [Nat.mul_comm]; exact hk2)
          have hmod := Nat.mod_lt k hs
          have hi2 : k / e.sz < (x.1 : List (den e)).length := by rw [← hn]; exact hi
          have := TC_one (hel' (k / e.sz) _ (List.getElem?_eq_getElem hi2)) u (by
            refine List.mem_of_getElem? (i := k % e.sz) ?_
            rw [seg_get, if_pos hmod, Nat.mul_comm (k / e.sz), Nat.div_add_mod]; exact hk)
          exact this
    obtain ⟨news, hl1, hl2, hl3, hl4⟩ := hcl
    have hn40 : n ≤ 1099511627776 := by rw [hn]; exact hlim
    refine (clone_calls L i _ e.sz i.bytes hi hzz.1 hsz rfl (by rw [hzz.2]; simp; exact TC_len _ _ _ _ _ (TC_zero e (w := w) hz hw)) hs (fun w => ht.sizeOf w) a n cp news w hl1 (by unfold maxLen; omega) ?_ hl2 hl3).mono ?_
    · have := Nat.mul_le_mul hn40 hb1; omega
    rintro e' w' ⟨v', rfl, hown, hbel⟩
    refine ⟨v', rfl, ?_⟩
    obtain ⟨ho1, ho2⟩ := hown
    rcases ho2 with ⟨rfl, h0⟩ | ⟨g, cap, cur, rfl, hg, hcur, hle, hmx, hcs, htk⟩
    · have h0' : (x.1 : List (den e)) = [] := List.length_eq_zero_iff.1 (by rw [← hn]; exact h0)
      exact ⟨[], ⟨_, rfl, .inl ⟨rfl, h0', rfl⟩⟩, List.nodup_nil, fun b hb => (by cases hb), hbel⟩
    · refine ⟨[g], ⟨_, rfl, .inr ⟨g, 0, n, cap, cur, _, List.replicate n [], rfl, ?_, hn, hcur, hle, by rw [hcs]; omega, by simp, fun j y bi hy hbi => ?_⟩⟩, by simp, fun b hb => ?_, hbel⟩
      · congr 1; simp
      · have hbi' : bi = [] := List.eq_of_mem_replicate (List.mem_of_getElem? hbi)
        subst hbi'
        have hj : j < n := by rw [hn]; exact (List.getElem?_eq_some_iff.1 hy).1
        have hm1 : (j + 1) * e.sz ≤ n * e.sz := Nat.mul_le_mul_right _ hj
        rw [Nat.succ_mul] at hm1
        have e1 : seg cur.toList (0 + j * e.sz) e.sz = seg news (j * e.sz) e.sz := by
          rw [Nat.zero_add, ← htk]
          apply List.ext_getElem?
          intro k
          rw [seg_get, seg_get]
          by_cases hk : k < e.sz
          · rw [if_pos hk, if_pos hk, List.getElem?_take, if_pos (by omega)]
          · rw [if_neg hk, if_neg hk]
        rw [e1]
        exact TC_congr e (fun b hb => by cases hb) (hl4 j y hy)
      · simp only [List.mem_singleton] at hb; subst hb
        exact ⟨hg, (Array.getElem?_eq_some_iff.1 hcur).1⟩
/-- The library's search for a byte in a string. -/
theorem indexByte_ok {P : Program} {f : FuncId} {fn : Func} (hf : P.funcs[f]? = some fn) (hname : (fn.name == "runtime.NumGoroutine") = false) (hb : fn.body.isNone = true) (hn : Extern.findNext fn = none) (he : Extern.find fn = some Extern.BytealgIndexByte.indexByte) :
    FnOk P f ⟨.pair .str (.pair (.int .u8) .unit), [false, false], .int .i64, fun x => some (Lib.indexByte (x.1 : ByteArray).data.toList (x.2.1 : Int).toNat.toUInt8)⟩ := by
  refine ⟨fun _ => ?_, fun h => by cases h⟩
  intro w vs x y hx hy
  obtain ⟨c, r, rfl, hc, c2, r2, rfl, hc2, hr⟩ := hx
  have hr : r2 = [] := hr
  subst hr
  have hc : c = [.string x.1] := hc
  have hc2 : c2 = [.int .u8 x.2.1] := hc2
  subst hc; subst hc2
  cases hy
  refine cf_of_value (by
    rw [run_callFunc_extern hf hname hb hn he]
    show ((Extern.BytealgIndexByte.indexByte #[.string x.1, .int .u8 x.2.1]).run P w).andThen _ = _
    rw [Lib.run_indexByteString]; rfl) ?_
  exact ⟨[], ⟨_, rfl, rfl, rfl⟩, List.nodup_nil, fun b hb => (by cases hb), Below.refl _ _⟩
end Go.Proofs.Ytckkagmccbkfbaa.E
namespace Go.Proofs.Ytckkagmccbkfbaa.E
open Go Go.RowKit Go.ChangeShapes Go.WideShapes Go.ChangeAt
set_option linter.unusedVariables false
set_option linter.unusedSimpArgs false
theorem ok_valOf {P : Program} {ty : Nat → Option Ty} {w : World} {base t : Nat} {T : Ty} (h : TyOk P ty t T) (hd : dataB T = true) {v : Value} (hv : Value.okWide P w .any base t v) : v = valOf T v.cells.toList := by
  obtain ⟨d, hu, hok⟩ := h.und
  cases T with
  | st f =>
    cases d <;> simp only [UnOk] at hok
    simp only [Value.okWide, hu] at hv
    obtain ⟨cs, rfl, _⟩ := hv
    simp [Value.cells, valOf]
  | int k =>
    cases d <;> simp only [UnOk] at hok
    simp only [Value.okWide, Cell.okWide, hu] at hv
    cases v <;> simp_all [Cell.ok, Value.cells, valOf]
  | bool =>
    cases d <;> simp only [UnOk] at hok
    simp only [Value.okWide, Cell.okWide, hu] at hv
    cases v <;> simp_all [Cell.ok, Value.cells, valOf]
  | str =>
    cases d <;> simp only [UnOk] at hok
    simp only [Value.okWide, Cell.okWide, hu] at hv
    cases v <;> simp_all [Cell.ok, Value.cells, valOf]
  | sl e =>
    cases d <;> simp only [UnOk] at hok
    simp only [Value.okWide, Cell.okWide, hu] at hv
    cases v <;> simp_all [Cell.ok, Value.cells, valOf]
  | unit => exact (no_unit h).elim
  | pair a b => exact (no_pair h).elim
  | tup _ => cases hd
  | arr _ _ => cases hd
  | ptr _ => cases hd
  | fn _ _ => cases hd
/-- One argument: what it reads as, its cells, what is known of it. -/
theorem arg_open {P : Program} {ty : Nat → Option Ty} {w : World} {base t : Nat} {T : Ty} (O : ∀ t T, ty t = some T → TyOk P ty t T) (ht : ty t = some T) (hd : dataB T = true) {v : Value} (hv : Value.okWide P w .any base t v)
    {H : Type} {enc : TypeId × Value → H} {spare : Nat → Bool} {held : Bool} {d : DataW H} {ps : List MemPlace} (h : DataW.Trod enc P w 0 spare held t v d ps) :
    ∃ y : den T, v = valOf T v.cells.toList ∧ RX P T false w (fun b => b < w.heap.size) v.cells.toList y ∧ okD T y := by
  obtain ⟨m, hm⟩ := h
  obtain ⟨y, y1, y2⟩ := (opensAll (w := w) O T).1 t ht hd H enc spare held m _ _ hm
  exact ⟨y, ok_valOf (O t T ht) hd hv, y1, y2⟩
theorem ret_bool {w w' : World} {v : Value} {b : Bool} (h : Ret .bool b w v w') : v = .bool b ∧ Below w.heap.size w w' := by
  obtain ⟨bs, ⟨cs, e, h1, h2⟩, _, _, h3⟩ := h
  refine ⟨?_, h3⟩
  have h1 : cs = [.bool b] := h1
  subst h1
  simpa [valOf] using e
end Go.Proofs.Ytckkagmccbkfbaa.E
namespace Go.Proofs.Ytckkagmccbkfbaa.E
open Go Go.Proofs Go.Proofs.Ytckkagmccbkfbaa
set_option maxRecDepth 100000
noncomputable def tys : List (Nat × Ty) := [(2, (.int .i64)), (3, (.int .i64)), (4, .bool), (5, (.int .u8)), (9, .str), (23, (.st (.pair (.int .i64) (.pair (.int .i64) .unit)))), (28, (.sl .str)), (33, (.sl (.st (.pair (.int .i64) (.pair (.int .i64) .unit))))), (36, (.sl (.st (.pair (.int .i64) (.pair (.int .i64) .unit))))), (40, (.sl (.st (.pair (.st (.pair (.int .i64) (.pair (.int .i64) .unit))) (.pair (.sl (.int .i64)) .unit))))), (42, (.st (.pair (.int .i64) (.pair (.sl (.st (.pair (.st (.pair (.int .i64) (.pair (.int .i64) .unit))) (.pair (.sl (.int .i64)) .unit)))) .unit)))), (44, (.sl (.int .i64))), (47, (.sl (.st (.pair (.st (.pair (.int .i64) (.pair (.int .i64) .unit))) (.pair (.sl (.int .i64)) .unit))))), (49, (.st (.pair (.int .i64) (.pair (.sl (.st (.pair (.st (.pair (.int .i64) (.pair (.int .i64) .unit))) (.pair (.sl (.int .i64)) .unit)))) .unit)))), (56, (.sl (.int .u8))), (65, (.int .u64)), (90, (.st (.pair (.int .i64) (.pair (.int .i64) .unit)))), (100, (.st (.pair (.int .i64) (.pair (.int .i64) .unit)))), (102, (.st (.pair (.st (.pair (.int .i64) (.pair (.int .i64) .unit))) (.pair (.sl (.int .i64)) .unit)))), (114, (.int .u64)), (141, (.ptr (.st (.pair (.sl (.st (.pair (.int .i64) (.pair (.int .i64) .unit)))) (.pair (.int .i64) (.pair (.sl (.int .i64)) .unit)))))), (145, (.st (.pair (.int .i64) (.pair (.int .i64) .unit)))), (147, (.st (.pair (.st (.pair (.int .i64) (.pair (.int .i64) .unit))) (.pair (.sl (.int .i64)) .unit)))), (191, (.int .u32)), (195, (.sl (.sl (.st (.pair (.int .i64) (.pair (.int .i64) .unit)))))), (200, (.st (.pair (.sl (.st (.pair (.int .i64) (.pair (.int .i64) .unit)))) (.pair (.int .i64) (.pair (.sl (.int .i64)) .unit))))), (209, (.sl (.st (.pair .str (.pair .str .unit))))), (212, (.st (.pair .str (.pair .str .unit)))), (216, (.int .u64))]
theorem tysOk : ∀ t T, lk tys t = some T → TyOk Try.prog (lk tys) t T := tys_ok (by kernel_rfl)
noncomputable def as_s_l08Apart : Ty := (.pair (.sl (.int .i64)) (.pair (.int .i64) (.pair (.int .i64) (.pair (.int .i64) (.pair (.int .i64) (.pair (.int .i64) .unit))))))
noncomputable def sp_s_l08Apart (F : ((List Int) × Int × Int × Int × Int × Int × Unit) → Option Bool) : FnSpec := ⟨as_s_l08Apart, [false, false, false, false, false, false], .bool, F⟩
noncomputable def as_s_l05End : Ty := (.pair .str (.pair (.int .i64) .unit))
noncomputable def sp_s_l05End (F : (ByteArray × Int × Unit) → Option Int) : FnSpec := ⟨as_s_l05End, [false, false], (.int .i64), F⟩
noncomputable def as_s_l06Made : Ty := (.pair (.st (.pair (.int .i64) (.pair (.int .i64) .unit))) (.pair (.st (.pair (.int .i64) (.pair (.int .i64) .unit))) (.pair (.sl (.int .i64)) (.pair (.sl (.int .i64)) .unit))))
noncomputable def sp_s_l06Made (F : ((Int × Int × Unit) × (Int × Int × Unit) × (List Int) × (List Int) × Unit) → Option Int) : FnSpec := ⟨as_s_l06Made, [false, false, false, false], (.int .i64), F⟩
noncomputable def as_i_Func_made : Ty := (.pair (.st (.pair (.int .i64) (.pair (.int .i64) .unit))) (.pair (.int .i64) (.pair (.sl (.int .i64)) (.pair (.sl (.int .i64)) (.pair (.int .i64) (.pair (.fn (.pair (.int .i64) .unit) .bool) .unit))))))
noncomputable def sp_i_Func_made (F : ((Int × Int × Unit) × Int × (List Int) × (List Int) × Int × ((Int × Unit) → Option Bool) × Unit) → Option Bool) : FnSpec := ⟨as_i_Func_made, [false, false, false, false, false, false], .bool, F⟩
noncomputable def as_s_l05Func : Ty := (.pair (.int .i64) (.pair .str .unit))
noncomputable def sp_s_l05Func (F : (Int × ByteArray × Unit) → Option (Int × Int × Unit)) : FnSpec := ⟨as_s_l05Func, [false, false], (.st (.pair (.int .i64) (.pair (.int .i64) .unit))), F⟩
end Go.Proofs.Ytckkagmccbkfbaa.E
namespace Go.Proofs.Ytckkagmccbkfbaa.E
open Go Go.Proofs Go.Proofs.Ytckkagmccbkfbaa
set_option maxRecDepth 100000
set_option linter.unusedVariables false
noncomputable def as_i_within : Ty := (.pair (.int .i64) (.pair (.int .i64) (.pair (.int .i64) .unit)))
noncomputable def sp_i_within (F : (Int × Int × Int × Unit) → Option Bool) : FnSpec := ⟨as_i_within, [false, false, false], .bool, F⟩
noncomputable def i_within (K : Nat) (x : (Int × Int × Int × Unit)) : Option Bool :=
    (if (decide (x.1 ≥ x.2.1)) = true then
    some (decide (x.1 ≤ x.2.2.1))
    else
    some false)
noncomputable def rv_i_within : Lv := [(6, (.v .bool))]
noncomputable def sg_i_within {R : Type} (K : Nat) (k : Nat) : List (Nat × SegS R) := []
noncomputable def su_i_within : List (Nat × Unit) := []
noncomputable def en_i_within {R : Type} (K : Nat) (k : Nat) : Env R := { L := lk [], X := lk [], S := lk (sg_i_within K k), rv := rv_i_within }
noncomputable def cf_i_within (K : Nat) : Cfg := { ty := lk tys, fn := lk [], prot := 0, nt := Try.f114.ntmps }
theorem e_i_within (K : Nat) (x : den as_i_within) : i_within K x = evFn (cf_i_within K) as_i_within [false, false, false] .bool (en_i_within K K) Try.f114.results.toList (bodyOf Try.f114) x := by kernel_rfl
theorem ok_i_within (K : Nat) : FnOk Try.prog 114 (sp_i_within (i_within K)) :=
  fn_ok (cf := cf_i_within K) (en := en_i_within K K) (c := bodyOf Try.f114) Try.func114 (by kernel_rfl) (by kernel_rfl) tysOk (fns_ok (l := []) trivial) (by kernel_rfl) rfl (Nat.le_of_ble_eq_true (by kernel_rfl)) (by kernel_rfl) (of_decide_eq_true (by kernel_rfl)) (by decide) (fun C hP O => lpOk_of (en := en_i_within K K) (S := hasK su_i_within) (fun i => hasK_lk (sg_i_within K K) i) _ (by rw [show partsOf (hasK su_i_within) (bodyOf Try.f114) = [] from by kernel_rfl]; exact trivial)) (fun x y h => by rw [← e_i_within]; exact h)
noncomputable def as_slices_IndexFunc_impl_Clause : Ty := (.pair (.sl (.st (.pair (.st (.pair (.int .i64) (.pair (.int .i64) .unit))) (.pair (.sl (.int .i64)) .unit)))) (.pair (.fn (.pair (.st (.pair (.st (.pair (.int .i64) (.pair (.int .i64) .unit))) (.pair (.sl (.int .i64)) .unit))) .unit) .bool) .unit))
noncomputable def sp_slices_IndexFunc_impl_Clause (F : ((List ((Int × Int × Unit) × (List Int) × Unit)) × ((((Int × Int × Unit) × (List Int) × Unit) × Unit) → Option Bool) × Unit) → Option Int) : FnSpec := ⟨as_slices_IndexFunc_impl_Clause, [false, false], (.int .i64), F⟩
noncomputable def slices_IndexFunc_impl_Clause_l2 {R : Type} (K : Nat) : Nat → (List ((Int × Int × Unit) × (List Int) × Unit)) → ((((Int × Int × Unit) × (List Int) × Unit) × Unit) → Option Bool) → Int → Int → (Option R) → (Int → Option R) → Option R
  | 0, _, _, _, _, _, _ => none
  | k + 1, v0, v1, v7, v8, kx0, kr =>
    (if (decide (v8 < v7)) = true then
    (if (bnds v8 (v0.length : Int)) = true then
    let x1 := (v0.getD v8.toNat (((0 : Int), (0 : Int), ()), ([] : List Int), ()))
    (v1 (x1, ())).bind fun y2 =>
    (if y2 = true then
    kr v8
    else
    slices_IndexFunc_impl_Clause_l2 K k v0 v1 v7 (IntKind.i64.wrap (v8 + (1 : Int))) kx0 kr)
    else
    none)
    else
    kx0)
noncomputable def slices_IndexFunc_impl_Clause (K : Nat) (x : ((List ((Int × Int × Unit) × (List Int) × Unit)) × ((((Int × Int × Unit) × (List Int) × Unit) × Unit) → Option Bool) × Unit)) : Option Int :=
    slices_IndexFunc_impl_Clause_l2 K K x.1 x.2.1 (x.1.length : Int) (0 : Int) (some (-1 : Int)) (fun z3 =>
    some z3)
noncomputable def lv_slices_IndexFunc_impl_Clause_L2 : Lv := [(0, (.v (.sl (.st (.pair (.st (.pair (.int .i64) (.pair (.int .i64) .unit))) (.pair (.sl (.int .i64)) .unit)))))), (1, (.v (.fn (.pair (.st (.pair (.st (.pair (.int .i64) (.pair (.int .i64) .unit))) (.pair (.sl (.int .i64)) .unit))) .unit) .bool))), (7, (.v (.int .i64))), (8, (.v (.int .i64)))]
noncomputable def lv_slices_IndexFunc_impl_Clause_X0 : Lv := []
noncomputable def rv_slices_IndexFunc_impl_Clause : Lv := [(4, (.v (.int .i64)))]
noncomputable def gslices_IndexFunc_impl_Clause_l2 {R : Type} (K : Nat) (k : Nat) (x : den lv_slices_IndexFunc_impl_Clause_L2.ty) (kx : Nat → St → Option R) (kr : St → Option R) : Option R := slices_IndexFunc_impl_Clause_l2 K k x.1 x.2.1 x.2.2.1 x.2.2.2.1 (kx 0 (mkSt lv_slices_IndexFunc_impl_Clause_X0 ())) (fun z0 => kr (mkSt rv_slices_IndexFunc_impl_Clause (z0, ())))
noncomputable def sg_slices_IndexFunc_impl_Clause {R : Type} (K : Nat) (k : Nat) : List (Nat × SegS R) := []
noncomputable def su_slices_IndexFunc_impl_Clause : List (Nat × Unit) := []
noncomputable def en_slices_IndexFunc_impl_Clause {R : Type} (K : Nat) (k : Nat) : Env R := { L := lk [(2, mkLoop lv_slices_IndexFunc_impl_Clause_L2 (gslices_IndexFunc_impl_Clause_l2 K k))], X := lk [(0, lv_slices_IndexFunc_impl_Clause_X0)], S := lk (sg_slices_IndexFunc_impl_Clause K k), rv := rv_slices_IndexFunc_impl_Clause }
noncomputable def cf_slices_IndexFunc_impl_Clause (K : Nat) : Cfg := { ty := lk tys, fn := lk [], prot := 0, nt := Try.f227.ntmps }
noncomputable def c_slices_IndexFunc_impl_Clause_L2 : Code := nthC (partsOf (hasK su_slices_IndexFunc_impl_Clause) (bodyOf Try.f227)) 0
theorem eslices_IndexFunc_impl_Clause_l2 {R : Type} (K : Nat) (k : Nat) (x : den lv_slices_IndexFunc_impl_Clause_L2.ty) (kx : Nat → St → Option R) (kr : St → Option R) : gslices_IndexFunc_impl_Clause_l2 K (k + 1) x kx kr = evC (cf_slices_IndexFunc_impl_Clause K) (en_slices_IndexFunc_impl_Clause K k) c_slices_IndexFunc_impl_Clause_L2 (mkSt lv_slices_IndexFunc_impl_Clause_L2 x) (fun s => mkLoop lv_slices_IndexFunc_impl_Clause_L2 (gslices_IndexFunc_impl_Clause_l2 K k) s kx kr) kx kr := by kernel_rfl
theorem sslices_IndexFunc_impl_Clause_l2 {R : Type} (K : Nat) (C : Cx) (hP : C.P = Try.prog) (O : CfgOk C (cf_slices_IndexFunc_impl_Clause K)) (k : Nat) : LpS C (R := R) (mkLoop lv_slices_IndexFunc_impl_Clause_L2 (gslices_IndexFunc_impl_Clause_l2 K k)) c_slices_IndexFunc_impl_Clause_L2 :=
  loop_sound O (by rw [hP]; kernel_rfl) (fun x kx kr => rfl) (eslices_IndexFunc_impl_Clause_l2 K) (fun k => lpOk_of (en := en_slices_IndexFunc_impl_Clause K k) (S := hasK su_slices_IndexFunc_impl_Clause) (fun i => hasK_lk (sg_slices_IndexFunc_impl_Clause K k) i) _ (by rw [show partsOf (hasK su_slices_IndexFunc_impl_Clause) c_slices_IndexFunc_impl_Clause_L2 = [] from by kernel_rfl]; exact trivial)) k
theorem e_slices_IndexFunc_impl_Clause (K : Nat) (x : den as_slices_IndexFunc_impl_Clause) : slices_IndexFunc_impl_Clause K x = evFn (cf_slices_IndexFunc_impl_Clause K) as_slices_IndexFunc_impl_Clause [false, false] (.int .i64) (en_slices_IndexFunc_impl_Clause K K) Try.f227.results.toList (bodyOf Try.f227) x := by kernel_rfl
theorem ok_slices_IndexFunc_impl_Clause (K : Nat) : FnOk Try.prog 227 (sp_slices_IndexFunc_impl_Clause (slices_IndexFunc_impl_Clause K)) :=
  fn_ok (cf := cf_slices_IndexFunc_impl_Clause K) (en := en_slices_IndexFunc_impl_Clause K K) (c := bodyOf Try.f227) Try.func227 (by kernel_rfl) (by kernel_rfl) tysOk (fns_ok (l := []) trivial) (by kernel_rfl) rfl (Nat.le_of_ble_eq_true (by kernel_rfl)) (by kernel_rfl) (of_decide_eq_true (by kernel_rfl)) (by decide) (fun C hP O => lpOk_of (en := en_slices_IndexFunc_impl_Clause K K) (S := hasK su_slices_IndexFunc_impl_Clause) (fun i => hasK_lk (sg_slices_IndexFunc_impl_Clause K K) i) _ (by rw [show partsOf (hasK su_slices_IndexFunc_impl_Clause) (bodyOf Try.f227) = [(true, c_slices_IndexFunc_impl_Clause_L2)] from by kernel_rfl]; exact (lpL_loop (f := mkLoop lv_slices_IndexFunc_impl_Clause_L2 (gslices_IndexFunc_impl_Clause_l2 K K)) (by kernel_rfl) (sslices_IndexFunc_impl_Clause_l2 K C hP O K) trivial))) (fun x y h => by rw [← e_slices_IndexFunc_impl_Clause]; exact h)
noncomputable def as_slices_ContainsFunc_impl_Clause : Ty := (.pair (.sl (.st (.pair (.st (.pair (.int .i64) (.pair (.int .i64) .unit))) (.pair (.sl (.int .i64)) .unit)))) (.pair (.fn (.pair (.st (.pair (.st (.pair (.int .i64) (.pair (.int .i64) .unit))) (.pair (.sl (.int .i64)) .unit))) .unit) .bool) .unit))
noncomputable def sp_slices_ContainsFunc_impl_Clause (F : ((List ((Int × Int × Unit) × (List Int) × Unit)) × ((((Int × Int × Unit) × (List Int) × Unit) × Unit) → Option Bool) × Unit) → Option Bool) : FnSpec := ⟨as_slices_ContainsFunc_impl_Clause, [false, false], .bool, F⟩
noncomputable def slices_ContainsFunc_impl_Clause (K : Nat) (x : ((List ((Int × Int × Unit) × (List Int) × Unit)) × ((((Int × Int × Unit) × (List Int) × Unit) × Unit) → Option Bool) × Unit)) : Option Bool :=
    (slices_IndexFunc_impl_Clause K (x.1, x.2.1, ())).bind fun y1 =>
    some (decide (y1 ≥ (0 : Int)))
noncomputable def rv_slices_ContainsFunc_impl_Clause : Lv := [(4, (.v .bool))]
noncomputable def sg_slices_ContainsFunc_impl_Clause {R : Type} (K : Nat) (k : Nat) : List (Nat × SegS R) := []
noncomputable def su_slices_ContainsFunc_impl_Clause : List (Nat × Unit) := []
noncomputable def en_slices_ContainsFunc_impl_Clause {R : Type} (K : Nat) (k : Nat) : Env R := { L := lk [], X := lk [], S := lk (sg_slices_ContainsFunc_impl_Clause K k), rv := rv_slices_ContainsFunc_impl_Clause }
noncomputable def cf_slices_ContainsFunc_impl_Clause (K : Nat) : Cfg := { ty := lk tys, fn := lk [(227, sp_slices_IndexFunc_impl_Clause (slices_IndexFunc_impl_Clause K))], prot := 0, nt := Try.f158.ntmps }
theorem e_slices_ContainsFunc_impl_Clause (K : Nat) (x : den as_slices_ContainsFunc_impl_Clause) : slices_ContainsFunc_impl_Clause K x = evFn (cf_slices_ContainsFunc_impl_Clause K) as_slices_ContainsFunc_impl_Clause [false, false] .bool (en_slices_ContainsFunc_impl_Clause K K) Try.f158.results.toList (bodyOf Try.f158) x := by kernel_rfl
theorem ok_slices_ContainsFunc_impl_Clause (K : Nat) : FnOk Try.prog 158 (sp_slices_ContainsFunc_impl_Clause (slices_ContainsFunc_impl_Clause K)) :=
  fn_ok (cf := cf_slices_ContainsFunc_impl_Clause K) (en := en_slices_ContainsFunc_impl_Clause K K) (c := bodyOf Try.f158) Try.func158 (by kernel_rfl) (by kernel_rfl) tysOk (fns_ok (l := [(227, sp_slices_IndexFunc_impl_Clause (slices_IndexFunc_impl_Clause K))]) ⟨ok_slices_IndexFunc_impl_Clause K, trivial⟩) (by kernel_rfl) rfl (Nat.le_of_ble_eq_true (by kernel_rfl)) (by kernel_rfl) (of_decide_eq_true (by kernel_rfl)) (by decide) (fun C hP O => lpOk_of (en := en_slices_ContainsFunc_impl_Clause K K) (S := hasK su_slices_ContainsFunc_impl_Clause) (fun i => hasK_lk (sg_slices_ContainsFunc_impl_Clause K K) i) _ (by rw [show partsOf (hasK su_slices_ContainsFunc_impl_Clause) (bodyOf Try.f158) = [] from by kernel_rfl]; exact trivial)) (fun x y h => by rw [← e_slices_ContainsFunc_impl_Clause]; exact h)
noncomputable def as_i_rowsOf : Ty := (.pair (.int .i64) .unit)
noncomputable def sp_i_rowsOf (F : (Int × Unit) → Option Int) : FnSpec := ⟨as_i_rowsOf, [false], (.int .i64), F⟩
noncomputable def i_rowsOf (K : Nat) (x : (Int × Unit)) : Option Int :=
    (if (decide ((0 : Int) ≤ x.1)) = true then
    some (shlI .i64 (1 : Int) x.1)
    else
    none)
noncomputable def rv_i_rowsOf : Lv := [(2, (.v (.int .i64)))]
noncomputable def sg_i_rowsOf {R : Type} (K : Nat) (k : Nat) : List (Nat × SegS R) := []
noncomputable def su_i_rowsOf : List (Nat × Unit) := []
noncomputable def en_i_rowsOf {R : Type} (K : Nat) (k : Nat) : Env R := { L := lk [], X := lk [], S := lk (sg_i_rowsOf K k), rv := rv_i_rowsOf }
noncomputable def cf_i_rowsOf (K : Nat) : Cfg := { ty := lk tys, fn := lk [], prot := 0, nt := Try.f164.ntmps }
theorem e_i_rowsOf (K : Nat) (x : den as_i_rowsOf) : i_rowsOf K x = evFn (cf_i_rowsOf K) as_i_rowsOf [false] (.int .i64) (en_i_rowsOf K K) Try.f164.results.toList (bodyOf Try.f164) x := by kernel_rfl
theorem ok_i_rowsOf (K : Nat) : FnOk Try.prog 164 (sp_i_rowsOf (i_rowsOf K)) :=
  fn_ok (cf := cf_i_rowsOf K) (en := en_i_rowsOf K K) (c := bodyOf Try.f164) Try.func164 (by kernel_rfl) (by kernel_rfl) tysOk (fns_ok (l := []) trivial) (by kernel_rfl) rfl (Nat.le_of_ble_eq_true (by kernel_rfl)) (by kernel_rfl) (of_decide_eq_true (by kernel_rfl)) (by decide) (fun C hP O => lpOk_of (en := en_i_rowsOf K K) (S := hasK su_i_rowsOf) (fun i => hasK_lk (sg_i_rowsOf K K) i) _ (by rw [show partsOf (hasK su_i_rowsOf) (bodyOf Try.f164) = [] from by kernel_rfl]; exact trivial)) (fun x y h => by rw [← e_i_rowsOf]; exact h)
noncomputable def as_i_funcsOf : Ty := (.pair (.int .i64) .unit)
noncomputable def sp_i_funcsOf (F : (Int × Unit) → Option Int) : FnSpec := ⟨as_i_funcsOf, [false], (.int .i64), F⟩
noncomputable def i_funcsOf (K : Nat) (x : (Int × Unit)) : Option Int :=
    (i_rowsOf K (x.1, ())).bind fun y1 =>
    (if (decide ((0 : Int) ≤ y1)) = true then
    some (shlI .i64 (1 : Int) y1)
    else
    none)
noncomputable def rv_i_funcsOf : Lv := [(2, (.v (.int .i64)))]
noncomputable def sg_i_funcsOf {R : Type} (K : Nat) (k : Nat) : List (Nat × SegS R) := []
noncomputable def su_i_funcsOf : List (Nat × Unit) := []
noncomputable def en_i_funcsOf {R : Type} (K : Nat) (k : Nat) : Env R := { L := lk [], X := lk [], S := lk (sg_i_funcsOf K k), rv := rv_i_funcsOf }
noncomputable def cf_i_funcsOf (K : Nat) : Cfg := { ty := lk tys, fn := lk [(164, sp_i_rowsOf (i_rowsOf K))], prot := 0, nt := Try.f109.ntmps }
theorem e_i_funcsOf (K : Nat) (x : den as_i_funcsOf) : i_funcsOf K x = evFn (cf_i_funcsOf K) as_i_funcsOf [false] (.int .i64) (en_i_funcsOf K K) Try.f109.results.toList (bodyOf Try.f109) x := by kernel_rfl
theorem ok_i_funcsOf (K : Nat) : FnOk Try.prog 109 (sp_i_funcsOf (i_funcsOf K)) :=
  fn_ok (cf := cf_i_funcsOf K) (en := en_i_funcsOf K K) (c := bodyOf Try.f109) Try.func109 (by kernel_rfl) (by kernel_rfl) tysOk (fns_ok (l := [(164, sp_i_rowsOf (i_rowsOf K))]) ⟨ok_i_rowsOf K, trivial⟩) (by kernel_rfl) rfl (Nat.le_of_ble_eq_true (by kernel_rfl)) (by kernel_rfl) (of_decide_eq_true (by kernel_rfl)) (by decide) (fun C hP O => lpOk_of (en := en_i_funcsOf K K) (S := hasK su_i_funcsOf) (fun i => hasK_lk (sg_i_funcsOf K K) i) _ (by rw [show partsOf (hasK su_i_funcsOf) (bodyOf Try.f109) = [] from by kernel_rfl]; exact trivial)) (fun x y h => by rw [← e_i_funcsOf]; exact h)
noncomputable def as_i_IsRelation : Ty := (.pair (.st (.pair (.int .i64) (.pair (.int .i64) .unit))) .unit)
noncomputable def sp_i_IsRelation (F : ((Int × Int × Unit) × Unit) → Option Bool) : FnSpec := ⟨as_i_IsRelation, [false], .bool, F⟩
noncomputable def i_IsRelation (K : Nat) (x : ((Int × Int × Unit) × Unit)) : Option Bool :=
    (i_within K (x.1.1, (1 : Int), (4 : Int), ())).bind fun y1 =>
    (if y1 = true then
    (i_funcsOf K (x.1.1, ())).bind fun y2 =>
    (i_within K (x.1.2.1, (0 : Int), (IntKind.i64.wrap (y2 - (1 : Int))), ())).bind fun y3 =>
    some y3
    else
    some false)
noncomputable def rv_i_IsRelation : Lv := [(2, (.v .bool))]
noncomputable def sg_i_IsRelation {R : Type} (K : Nat) (k : Nat) : List (Nat × SegS R) := []
noncomputable def su_i_IsRelation : List (Nat × Unit) := []
noncomputable def en_i_IsRelation {R : Type} (K : Nat) (k : Nat) : Env R := { L := lk [], X := lk [], S := lk (sg_i_IsRelation K k), rv := rv_i_IsRelation }
noncomputable def cf_i_IsRelation (K : Nat) : Cfg := { ty := lk tys, fn := lk [(109, sp_i_funcsOf (i_funcsOf K)), (114, sp_i_within (i_within K))], prot := 0, nt := Try.f160.ntmps }
theorem e_i_IsRelation (K : Nat) (x : den as_i_IsRelation) : i_IsRelation K x = evFn (cf_i_IsRelation K) as_i_IsRelation [false] .bool (en_i_IsRelation K K) Try.f160.results.toList (bodyOf Try.f160) x := by kernel_rfl
theorem ok_i_IsRelation (K : Nat) : FnOk Try.prog 160 (sp_i_IsRelation (i_IsRelation K)) :=
  fn_ok (cf := cf_i_IsRelation K) (en := en_i_IsRelation K K) (c := bodyOf Try.f160) Try.func160 (by kernel_rfl) (by kernel_rfl) tysOk (fns_ok (l := [(109, sp_i_funcsOf (i_funcsOf K)), (114, sp_i_within (i_within K))]) ⟨ok_i_funcsOf K, ⟨ok_i_within K, trivial⟩⟩) (by kernel_rfl) rfl (Nat.le_of_ble_eq_true (by kernel_rfl)) (by kernel_rfl) (of_decide_eq_true (by kernel_rfl)) (by decide) (fun C hP O => lpOk_of (en := en_i_IsRelation K K) (S := hasK su_i_IsRelation) (fun i => hasK_lk (sg_i_IsRelation K K) i) _ (by rw [show partsOf (hasK su_i_IsRelation) (bodyOf Try.f160) = [] from by kernel_rfl]; exact trivial)) (fun x y h => by rw [← e_i_IsRelation]; exact h)
noncomputable def as_slices_IndexFunc_int64 : Ty := (.pair (.sl (.int .i64)) (.pair (.fn (.pair (.int .i64) .unit) .bool) .unit))
noncomputable def sp_slices_IndexFunc_int64 (F : ((List Int) × ((Int × Unit) → Option Bool) × Unit) → Option Int) : FnSpec := ⟨as_slices_IndexFunc_int64, [false, false], (.int .i64), F⟩
noncomputable def slices_IndexFunc_int64_l2 {R : Type} (K : Nat) : Nat → (List Int) → ((Int × Unit) → Option Bool) → Int → Int → (Option R) → (Int → Option R) → Option R
  | 0, _, _, _, _, _, _ => none
  | k + 1, v0, v1, v7, v8, kx0, kr =>
    (if (decide (v8 < v7)) = true then
    (if (bnds v8 (v0.length : Int)) = true then
    (v1 ((v0.getD v8.toNat (0 : Int)), ())).bind fun y1 =>
    (if y1 = true then
    kr v8
    else
    slices_IndexFunc_int64_l2 K k v0 v1 v7 (IntKind.i64.wrap (v8 + (1 : Int))) kx0 kr)
    else
    none)
    else
    kx0)
noncomputable def slices_IndexFunc_int64 (K : Nat) (x : ((List Int) × ((Int × Unit) → Option Bool) × Unit)) : Option Int :=
    slices_IndexFunc_int64_l2 K K x.1 x.2.1 (x.1.length : Int) (0 : Int) (some (-1 : Int)) (fun z2 =>
    some z2)
noncomputable def lv_slices_IndexFunc_int64_L2 : Lv := [(0, (.v (.sl (.int .i64)))), (1, (.v (.fn (.pair (.int .i64) .unit) .bool))), (7, (.v (.int .i64))), (8, (.v (.int .i64)))]
noncomputable def lv_slices_IndexFunc_int64_X0 : Lv := []
noncomputable def rv_slices_IndexFunc_int64 : Lv := [(4, (.v (.int .i64)))]
noncomputable def gslices_IndexFunc_int64_l2 {R : Type} (K : Nat) (k : Nat) (x : den lv_slices_IndexFunc_int64_L2.ty) (kx : Nat → St → Option R) (kr : St → Option R) : Option R := slices_IndexFunc_int64_l2 K k x.1 x.2.1 x.2.2.1 x.2.2.2.1 (kx 0 (mkSt lv_slices_IndexFunc_int64_X0 ())) (fun z0 => kr (mkSt rv_slices_IndexFunc_int64 (z0, ())))
noncomputable def sg_slices_IndexFunc_int64 {R : Type} (K : Nat) (k : Nat) : List (Nat × SegS R) := []
noncomputable def su_slices_IndexFunc_int64 : List (Nat × Unit) := []
noncomputable def en_slices_IndexFunc_int64 {R : Type} (K : Nat) (k : Nat) : Env R := { L := lk [(2, mkLoop lv_slices_IndexFunc_int64_L2 (gslices_IndexFunc_int64_l2 K k))], X := lk [(0, lv_slices_IndexFunc_int64_X0)], S := lk (sg_slices_IndexFunc_int64 K k), rv := rv_slices_IndexFunc_int64 }
noncomputable def cf_slices_IndexFunc_int64 (K : Nat) : Cfg := { ty := lk tys, fn := lk [], prot := 0, nt := Try.f228.ntmps }
noncomputable def c_slices_IndexFunc_int64_L2 : Code := nthC (partsOf (hasK su_slices_IndexFunc_int64) (bodyOf Try.f228)) 0
theorem eslices_IndexFunc_int64_l2 {R : Type} (K : Nat) (k : Nat) (x : den lv_slices_IndexFunc_int64_L2.ty) (kx : Nat → St → Option R) (kr : St → Option R) : gslices_IndexFunc_int64_l2 K (k + 1) x kx kr = evC (cf_slices_IndexFunc_int64 K) (en_slices_IndexFunc_int64 K k) c_slices_IndexFunc_int64_L2 (mkSt lv_slices_IndexFunc_int64_L2 x) (fun s => mkLoop lv_slices_IndexFunc_int64_L2 (gslices_IndexFunc_int64_l2 K k) s kx kr) kx kr := by kernel_rfl
theorem sslices_IndexFunc_int64_l2 {R : Type} (K : Nat) (C : Cx) (hP : C.P = Try.prog) (O : CfgOk C (cf_slices_IndexFunc_int64 K)) (k : Nat) : LpS C (R := R) (mkLoop lv_slices_IndexFunc_int64_L2 (gslices_IndexFunc_int64_l2 K k)) c_slices_IndexFunc_int64_L2 :=
  loop_sound O (by rw [hP]; kernel_rfl) (fun x kx kr => rfl) (eslices_IndexFunc_int64_l2 K) (fun k => lpOk_of (en := en_slices_IndexFunc_int64 K k) (S := hasK su_slices_IndexFunc_int64) (fun i => hasK_lk (sg_slices_IndexFunc_int64 K k) i) _ (by rw [show partsOf (hasK su_slices_IndexFunc_int64) c_slices_IndexFunc_int64_L2 = [] from by kernel_rfl]; exact trivial)) k
theorem e_slices_IndexFunc_int64 (K : Nat) (x : den as_slices_IndexFunc_int64) : slices_IndexFunc_int64 K x = evFn (cf_slices_IndexFunc_int64 K) as_slices_IndexFunc_int64 [false, false] (.int .i64) (en_slices_IndexFunc_int64 K K) Try.f228.results.toList (bodyOf Try.f228) x := by kernel_rfl
theorem ok_slices_IndexFunc_int64 (K : Nat) : FnOk Try.prog 228 (sp_slices_IndexFunc_int64 (slices_IndexFunc_int64 K)) :=
  fn_ok (cf := cf_slices_IndexFunc_int64 K) (en := en_slices_IndexFunc_int64 K K) (c := bodyOf Try.f228) Try.func228 (by kernel_rfl) (by kernel_rfl) tysOk (fns_ok (l := []) trivial) (by kernel_rfl) rfl (Nat.le_of_ble_eq_true (by kernel_rfl)) (by kernel_rfl) (of_decide_eq_true (by kernel_rfl)) (by decide) (fun C hP O => lpOk_of (en := en_slices_IndexFunc_int64 K K) (S := hasK su_slices_IndexFunc_int64) (fun i => hasK_lk (sg_slices_IndexFunc_int64 K K) i) _ (by rw [show partsOf (hasK su_slices_IndexFunc_int64) (bodyOf Try.f228) = [(true, c_slices_IndexFunc_int64_L2)] from by kernel_rfl]; exact (lpL_loop (f := mkLoop lv_slices_IndexFunc_int64_L2 (gslices_IndexFunc_int64_l2 K K)) (by kernel_rfl) (sslices_IndexFunc_int64_l2 K C hP O K) trivial))) (fun x y h => by rw [← e_slices_IndexFunc_int64]; exact h)
noncomputable def as_slices_ContainsFunc_int64 : Ty := (.pair (.sl (.int .i64)) (.pair (.fn (.pair (.int .i64) .unit) .bool) .unit))
noncomputable def sp_slices_ContainsFunc_int64 (F : ((List Int) × ((Int × Unit) → Option Bool) × Unit) → Option Bool) : FnSpec := ⟨as_slices_ContainsFunc_int64, [false, false], .bool, F⟩
noncomputable def slices_ContainsFunc_int64 (K : Nat) (x : ((List Int) × ((Int × Unit) → Option Bool) × Unit)) : Option Bool :=
    (slices_IndexFunc_int64 K (x.1, x.2.1, ())).bind fun y1 =>
    some (decide (y1 ≥ (0 : Int)))
noncomputable def rv_slices_ContainsFunc_int64 : Lv := [(4, (.v .bool))]
noncomputable def sg_slices_ContainsFunc_int64 {R : Type} (K : Nat) (k : Nat) : List (Nat × SegS R) := []
noncomputable def su_slices_ContainsFunc_int64 : List (Nat × Unit) := []
noncomputable def en_slices_ContainsFunc_int64 {R : Type} (K : Nat) (k : Nat) : Env R := { L := lk [], X := lk [], S := lk (sg_slices_ContainsFunc_int64 K k), rv := rv_slices_ContainsFunc_int64 }
noncomputable def cf_slices_ContainsFunc_int64 (K : Nat) : Cfg := { ty := lk tys, fn := lk [(228, sp_slices_IndexFunc_int64 (slices_IndexFunc_int64 K))], prot := 0, nt := Try.f161.ntmps }
theorem e_slices_ContainsFunc_int64 (K : Nat) (x : den as_slices_ContainsFunc_int64) : slices_ContainsFunc_int64 K x = evFn (cf_slices_ContainsFunc_int64 K) as_slices_ContainsFunc_int64 [false, false] .bool (en_slices_ContainsFunc_int64 K K) Try.f161.results.toList (bodyOf Try.f161) x := by kernel_rfl
theorem ok_slices_ContainsFunc_int64 (K : Nat) : FnOk Try.prog 161 (sp_slices_ContainsFunc_int64 (slices_ContainsFunc_int64 K)) :=
  fn_ok (cf := cf_slices_ContainsFunc_int64 K) (en := en_slices_ContainsFunc_int64 K K) (c := bodyOf Try.f161) Try.func161 (by kernel_rfl) (by kernel_rfl) tysOk (fns_ok (l := [(228, sp_slices_IndexFunc_int64 (slices_IndexFunc_int64 K))]) ⟨ok_slices_IndexFunc_int64 K, trivial⟩) (by kernel_rfl) rfl (Nat.le_of_ble_eq_true (by kernel_rfl)) (by kernel_rfl) (of_decide_eq_true (by kernel_rfl)) (by decide) (fun C hP O => lpOk_of (en := en_slices_ContainsFunc_int64 K K) (S := hasK su_slices_ContainsFunc_int64) (fun i => hasK_lk (sg_slices_ContainsFunc_int64 K K) i) _ (by rw [show partsOf (hasK su_slices_ContainsFunc_int64) (bodyOf Try.f161) = [] from by kernel_rfl]; exact trivial)) (fun x y h => by rw [← e_slices_ContainsFunc_int64]; exact h)
noncomputable def as_i_IsInstance_c1_c1 : Ty := (.pair (.int .i64) (.pair (.ptr (.st (.pair (.int .i64) (.pair (.sl (.st (.pair (.st (.pair (.int .i64) (.pair (.int .i64) .unit))) (.pair (.sl (.int .i64)) .unit)))) .unit)))) .unit))
noncomputable def sp_i_IsInstance_c1_c1 (F : (Int × (Int × (List ((Int × Int × Unit) × (List Int) × Unit)) × Unit) × Unit) → Option Bool) : FnSpec := ⟨as_i_IsInstance_c1_c1, [false, false], .bool, F⟩
noncomputable def i_IsInstance_c1_c1 (K : Nat) (x : (Int × (Int × (List ((Int × Int × Unit) × (List Int) × Unit)) × Unit) × Unit)) : Option Bool :=
    (i_within K (x.1, (0 : Int), (IntKind.i64.wrap (x.2.1.1 - (1 : Int))), ())).bind fun y1 =>
    some (!y1)
noncomputable def rv_i_IsInstance_c1_c1 : Lv := [(3, (.v .bool))]
noncomputable def sg_i_IsInstance_c1_c1 {R : Type} (K : Nat) (k : Nat) : List (Nat × SegS R) := []
noncomputable def su_i_IsInstance_c1_c1 : List (Nat × Unit) := []
noncomputable def en_i_IsInstance_c1_c1 {R : Type} (K : Nat) (k : Nat) : Env R := { L := lk [], X := lk [], S := lk (sg_i_IsInstance_c1_c1 K k), rv := rv_i_IsInstance_c1_c1 }
noncomputable def cf_i_IsInstance_c1_c1 (K : Nat) : Cfg := { ty := lk tys, fn := lk [(114, sp_i_within (i_within K))], prot := 0, nt := Try.f162.ntmps }
theorem e_i_IsInstance_c1_c1 (K : Nat) (x : den as_i_IsInstance_c1_c1) : i_IsInstance_c1_c1 K x = evFn (cf_i_IsInstance_c1_c1 K) as_i_IsInstance_c1_c1 [false, false] .bool (en_i_IsInstance_c1_c1 K K) Try.f162.results.toList (bodyOf Try.f162) x := by kernel_rfl
theorem ok_i_IsInstance_c1_c1 (K : Nat) : FnOk Try.prog 162 (sp_i_IsInstance_c1_c1 (i_IsInstance_c1_c1 K)) :=
  fn_ok (cf := cf_i_IsInstance_c1_c1 K) (en := en_i_IsInstance_c1_c1 K K) (c := bodyOf Try.f162) Try.func162 (by kernel_rfl) (by kernel_rfl) tysOk (fns_ok (l := [(114, sp_i_within (i_within K))]) ⟨ok_i_within K, trivial⟩) (by kernel_rfl) rfl (Nat.le_of_ble_eq_true (by kernel_rfl)) (by kernel_rfl) (of_decide_eq_true (by kernel_rfl)) (by decide) (fun C hP O => lpOk_of (en := en_i_IsInstance_c1_c1 K K) (S := hasK su_i_IsInstance_c1_c1) (fun i => hasK_lk (sg_i_IsInstance_c1_c1 K K) i) _ (by rw [show partsOf (hasK su_i_IsInstance_c1_c1) (bodyOf Try.f162) = [] from by kernel_rfl]; exact trivial)) (fun x y h => by rw [← e_i_IsInstance_c1_c1]; exact h)
noncomputable def as_i_IsInstance_c1 : Ty := (.pair (.st (.pair (.st (.pair (.int .i64) (.pair (.int .i64) .unit))) (.pair (.sl (.int .i64)) .unit))) (.pair (.ptr (.st (.pair (.int .i64) (.pair (.sl (.st (.pair (.st (.pair (.int .i64) (.pair (.int .i64) .unit))) (.pair (.sl (.int .i64)) .unit)))) .unit)))) .unit))
noncomputable def sp_i_IsInstance_c1 (F : (((Int × Int × Unit) × (List Int) × Unit) × (Int × (List ((Int × Int × Unit) × (List Int) × Unit)) × Unit) × Unit) → Option Bool) : FnSpec := ⟨as_i_IsInstance_c1, [false, false], .bool, F⟩
noncomputable def i_IsInstance_c1 (K : Nat) (x : (((Int × Int × Unit) × (List Int) × Unit) × (Int × (List ((Int × Int × Unit) × (List Int) × Unit)) × Unit) × Unit)) : Option Bool :=
    (i_IsRelation K (x.1.1, ())).bind fun y1 =>
    (if (!y1) = true then
    some true
    else
    (if (!decide ((x.1.2.1.length : Int) = x.1.1.1)) = true then
    some true
    else
    (slices_ContainsFunc_int64 K (x.1.2.1, (fun y3 => i_IsInstance_c1_c1 K (y3.1, x.2.1, ())), ())).bind fun y2 =>
    some y2))
noncomputable def rv_i_IsInstance_c1 : Lv := [(3, (.v .bool))]
noncomputable def sg_i_IsInstance_c1 {R : Type} (K : Nat) (k : Nat) : List (Nat × SegS R) := []
noncomputable def su_i_IsInstance_c1 : List (Nat × Unit) := []
noncomputable def en_i_IsInstance_c1 {R : Type} (K : Nat) (k : Nat) : Env R := { L := lk [], X := lk [], S := lk (sg_i_IsInstance_c1 K k), rv := rv_i_IsInstance_c1 }
noncomputable def cf_i_IsInstance_c1 (K : Nat) : Cfg := { ty := lk tys, fn := lk [(160, sp_i_IsRelation (i_IsRelation K)), (161, sp_slices_ContainsFunc_int64 (slices_ContainsFunc_int64 K)), (162, sp_i_IsInstance_c1_c1 (i_IsInstance_c1_c1 K))], prot := 0, nt := Try.f159.ntmps }
theorem e_i_IsInstance_c1 (K : Nat) (x : den as_i_IsInstance_c1) : i_IsInstance_c1 K x = evFn (cf_i_IsInstance_c1 K) as_i_IsInstance_c1 [false, false] .bool (en_i_IsInstance_c1 K K) Try.f159.results.toList (bodyOf Try.f159) x := by kernel_rfl
theorem ok_i_IsInstance_c1 (K : Nat) : FnOk Try.prog 159 (sp_i_IsInstance_c1 (i_IsInstance_c1 K)) :=
  fn_ok (cf := cf_i_IsInstance_c1 K) (en := en_i_IsInstance_c1 K K) (c := bodyOf Try.f159) Try.func159 (by kernel_rfl) (by kernel_rfl) tysOk (fns_ok (l := [(160, sp_i_IsRelation (i_IsRelation K)), (161, sp_slices_ContainsFunc_int64 (slices_ContainsFunc_int64 K)), (162, sp_i_IsInstance_c1_c1 (i_IsInstance_c1_c1 K))]) ⟨ok_i_IsRelation K, ⟨ok_slices_ContainsFunc_int64 K, ⟨ok_i_IsInstance_c1_c1 K, trivial⟩⟩⟩) (by kernel_rfl) rfl (Nat.le_of_ble_eq_true (by kernel_rfl)) (by kernel_rfl) (of_decide_eq_true (by kernel_rfl)) (by decide) (fun C hP O => lpOk_of (en := en_i_IsInstance_c1 K K) (S := hasK su_i_IsInstance_c1) (fun i => hasK_lk (sg_i_IsInstance_c1 K K) i) _ (by rw [show partsOf (hasK su_i_IsInstance_c1) (bodyOf Try.f159) = [] from by kernel_rfl]; exact trivial)) (fun x y h => by rw [← e_i_IsInstance_c1]; exact h)
noncomputable def as_i_IsInstance : Ty := (.pair (.st (.pair (.int .i64) (.pair (.sl (.st (.pair (.st (.pair (.int .i64) (.pair (.int .i64) .unit))) (.pair (.sl (.int .i64)) .unit)))) .unit))) .unit)
noncomputable def sp_i_IsInstance (F : ((Int × (List ((Int × Int × Unit) × (List Int) × Unit)) × Unit) × Unit) → Option Bool) : FnSpec := ⟨as_i_IsInstance, [false], .bool, F⟩
noncomputable def i_IsInstance (K : Nat) (x : ((Int × (List ((Int × Int × Unit) × (List Int) × Unit)) × Unit) × Unit)) : Option Bool :=
    (i_within K (x.1.1, (0 : Int), (8 : Int), ())).bind fun y1 =>
    (if y1 = true then
    (if (decide ((x.1.2.1.length : Int) ≤ (12 : Int))) = true then
    (slices_ContainsFunc_impl_Clause K (x.1.2.1, (fun y3 => i_IsInstance_c1 K (y3.1, x.1, ())), ())).bind fun y2 =>
    some (!y2)
    else
    some false)
    else
    some false)
noncomputable def rv_i_IsInstance : Lv := [(2, (.v .bool))]
noncomputable def sg_i_IsInstance {R : Type} (K : Nat) (k : Nat) : List (Nat × SegS R) := []
noncomputable def su_i_IsInstance : List (Nat × Unit) := []
noncomputable def en_i_IsInstance {R : Type} (K : Nat) (k : Nat) : Env R := { L := lk [], X := lk [], S := lk (sg_i_IsInstance K k), rv := rv_i_IsInstance }
noncomputable def cf_i_IsInstance (K : Nat) : Cfg := { ty := lk tys, fn := lk [(114, sp_i_within (i_within K)), (158, sp_slices_ContainsFunc_impl_Clause (slices_ContainsFunc_impl_Clause K)), (159, sp_i_IsInstance_c1 (i_IsInstance_c1 K))], prot := 0, nt := Try.f89.ntmps }
theorem e_i_IsInstance (K : Nat) (x : den as_i_IsInstance) : i_IsInstance K x = evFn (cf_i_IsInstance K) as_i_IsInstance [false] .bool (en_i_IsInstance K K) Try.f89.results.toList (bodyOf Try.f89) x := by kernel_rfl
theorem ok_i_IsInstance (K : Nat) : FnOk Try.prog 89 (sp_i_IsInstance (i_IsInstance K)) :=
  fn_ok (cf := cf_i_IsInstance K) (en := en_i_IsInstance K K) (c := bodyOf Try.f89) Try.func89 (by kernel_rfl) (by kernel_rfl) tysOk (fns_ok (l := [(114, sp_i_within (i_within K)), (158, sp_slices_ContainsFunc_impl_Clause (slices_ContainsFunc_impl_Clause K)), (159, sp_i_IsInstance_c1 (i_IsInstance_c1 K))]) ⟨ok_i_within K, ⟨ok_slices_ContainsFunc_impl_Clause K, ⟨ok_i_IsInstance_c1 K, trivial⟩⟩⟩) (by kernel_rfl) rfl (Nat.le_of_ble_eq_true (by kernel_rfl)) (by kernel_rfl) (of_decide_eq_true (by kernel_rfl)) (by decide) (fun C hP O => lpOk_of (en := en_i_IsInstance K K) (S := hasK su_i_IsInstance) (fun i => hasK_lk (sg_i_IsInstance K K) i) _ (by rw [show partsOf (hasK su_i_IsInstance) (bodyOf Try.f89) = [] from by kernel_rfl]; exact trivial)) (fun x y h => by rw [← e_i_IsInstance]; exact h)
noncomputable def as_i_one : Ty := (.pair .bool .unit)
noncomputable def sp_i_one (F : (Bool × Unit) → Option Int) : FnSpec := ⟨as_i_one, [false], (.int .i64), F⟩
noncomputable def i_one (K : Nat) (x : (Bool × Unit)) : Option Int :=
    (if x.1 = true then
    some (1 : Int)
    else
    some (0 : Int))
noncomputable def rv_i_one : Lv := [(2, (.v (.int .i64)))]
noncomputable def sg_i_one {R : Type} (K : Nat) (k : Nat) : List (Nat × SegS R) := []
noncomputable def su_i_one : List (Nat × Unit) := []
noncomputable def en_i_one {R : Type} (K : Nat) (k : Nat) : Env R := { L := lk [], X := lk [], S := lk (sg_i_one K k), rv := rv_i_one }
noncomputable def cf_i_one (K : Nat) : Cfg := { ty := lk tys, fn := lk [], prot := 0, nt := Try.f110.ntmps }
theorem e_i_one (K : Nat) (x : den as_i_one) : i_one K x = evFn (cf_i_one K) as_i_one [false] (.int .i64) (en_i_one K K) Try.f110.results.toList (bodyOf Try.f110) x := by kernel_rfl
theorem ok_i_one (K : Nat) : FnOk Try.prog 110 (sp_i_one (i_one K)) :=
  fn_ok (cf := cf_i_one K) (en := en_i_one K K) (c := bodyOf Try.f110) Try.func110 (by kernel_rfl) (by kernel_rfl) tysOk (fns_ok (l := []) trivial) (by kernel_rfl) rfl (Nat.le_of_ble_eq_true (by kernel_rfl)) (by kernel_rfl) (of_decide_eq_true (by kernel_rfl)) (by decide) (fun C hP O => lpOk_of (en := en_i_one K K) (S := hasK su_i_one) (fun i => hasK_lk (sg_i_one K K) i) _ (by rw [show partsOf (hasK su_i_one) (bodyOf Try.f110) = [] from by kernel_rfl]; exact trivial)) (fun x y h => by rw [← e_i_one]; exact h)
noncomputable def as_i_bit : Ty := (.pair (.int .i64) (.pair (.int .i64) .unit))
noncomputable def sp_i_bit (F : (Int × Int × Unit) → Option Int) : FnSpec := ⟨as_i_bit, [false, false], (.int .i64), F⟩
noncomputable def i_bit (K : Nat) (x : (Int × Int × Unit)) : Option Int :=
    (if (decide ((0 : Int) ≤ x.2.1)) = true then
    some (bitI .and .i64 (shrI .i64 x.1 x.2.1) (1 : Int))
    else
    none)
noncomputable def rv_i_bit : Lv := [(4, (.v (.int .i64)))]
noncomputable def sg_i_bit {R : Type} (K : Nat) (k : Nat) : List (Nat × SegS R) := []
noncomputable def su_i_bit : List (Nat × Unit) := []
noncomputable def en_i_bit {R : Type} (K : Nat) (k : Nat) : Env R := { L := lk [], X := lk [], S := lk (sg_i_bit K k), rv := rv_i_bit }
noncomputable def cf_i_bit (K : Nat) : Cfg := { ty := lk tys, fn := lk [], prot := 0, nt := Try.f197.ntmps }
theorem e_i_bit (K : Nat) (x : den as_i_bit) : i_bit K x = evFn (cf_i_bit K) as_i_bit [false, false] (.int .i64) (en_i_bit K K) Try.f197.results.toList (bodyOf Try.f197) x := by kernel_rfl
theorem ok_i_bit (K : Nat) : FnOk Try.prog 197 (sp_i_bit (i_bit K)) :=
  fn_ok (cf := cf_i_bit K) (en := en_i_bit K K) (c := bodyOf Try.f197) Try.func197 (by kernel_rfl) (by kernel_rfl) tysOk (fns_ok (l := []) trivial) (by kernel_rfl) rfl (Nat.le_of_ble_eq_true (by kernel_rfl)) (by kernel_rfl) (of_decide_eq_true (by kernel_rfl)) (by decide) (fun C hP O => lpOk_of (en := en_i_bit K K) (S := hasK su_i_bit) (fun i => hasK_lk (sg_i_bit K K) i) _ (by rw [show partsOf (hasK su_i_bit) (bodyOf Try.f197) = [] from by kernel_rfl]; exact trivial)) (fun x y h => by rw [← e_i_bit]; exact h)
noncomputable def as_i_Relation_has : Ty := (.pair (.st (.pair (.int .i64) (.pair (.int .i64) .unit))) (.pair (.int .i64) .unit))
noncomputable def sp_i_Relation_has (F : ((Int × Int × Unit) × Int × Unit) → Option Bool) : FnSpec := ⟨as_i_Relation_has, [false, false], .bool, F⟩
noncomputable def i_Relation_has (K : Nat) (x : ((Int × Int × Unit) × Int × Unit)) : Option Bool :=
    (i_bit K (x.1.2.1, x.2.1, ())).bind fun y1 =>
    some (decide (y1 = (1 : Int)))
noncomputable def rv_i_Relation_has : Lv := [(4, (.v .bool))]
noncomputable def sg_i_Relation_has {R : Type} (K : Nat) (k : Nat) : List (Nat × SegS R) := []
noncomputable def su_i_Relation_has : List (Nat × Unit) := []
noncomputable def en_i_Relation_has {R : Type} (K : Nat) (k : Nat) : Env R := { L := lk [], X := lk [], S := lk (sg_i_Relation_has K k), rv := rv_i_Relation_has }
noncomputable def cf_i_Relation_has (K : Nat) : Cfg := { ty := lk tys, fn := lk [(197, sp_i_bit (i_bit K))], prot := 0, nt := Try.f163.ntmps }
theorem e_i_Relation_has (K : Nat) (x : den as_i_Relation_has) : i_Relation_has K x = evFn (cf_i_Relation_has K) as_i_Relation_has [false, false] .bool (en_i_Relation_has K K) Try.f163.results.toList (bodyOf Try.f163) x := by kernel_rfl
theorem ok_i_Relation_has (K : Nat) : FnOk Try.prog 163 (sp_i_Relation_has (i_Relation_has K)) :=
  fn_ok (cf := cf_i_Relation_has K) (en := en_i_Relation_has K K) (c := bodyOf Try.f163) Try.func163 (by kernel_rfl) (by kernel_rfl) tysOk (fns_ok (l := [(197, sp_i_bit (i_bit K))]) ⟨ok_i_bit K, trivial⟩) (by kernel_rfl) rfl (Nat.le_of_ble_eq_true (by kernel_rfl)) (by kernel_rfl) (of_decide_eq_true (by kernel_rfl)) (by decide) (fun C hP O => lpOk_of (en := en_i_Relation_has K K) (S := hasK su_i_Relation_has) (fun i => hasK_lk (sg_i_Relation_has K K) i) _ (by rw [show partsOf (hasK su_i_Relation_has) (bodyOf Try.f163) = [] from by kernel_rfl]; exact trivial)) (fun x y h => by rw [← e_i_Relation_has]; exact h)
noncomputable def as_i_names : Ty := .unit
noncomputable def sp_i_names (F : Unit → Option (List (ByteArray × ByteArray × Unit))) : FnSpec := ⟨as_i_names, [], (.sl (.st (.pair .str (.pair .str .unit)))), F⟩
noncomputable def i_names (K : Nat) (x : Unit) : Option (List (ByteArray × ByteArray × Unit)) :=
    let x1 := (((⟨#[122, 101, 114, 111]⟩ : ByteArray), (ByteArray.empty, ByteArray.empty, ()).2.1, ()).1, (⟨#[48, 58, 48]⟩ : ByteArray), ())
    let x2 := (((⟨#[111, 110, 101]⟩ : ByteArray), (ByteArray.empty, ByteArray.empty, ()).2.1, ()).1, (⟨#[48, 58, 49]⟩ : ByteArray), ())
    let x3 := (((⟨#[105, 100]⟩ : ByteArray), (ByteArray.empty, ByteArray.empty, ()).2.1, ()).1, (⟨#[49, 58, 48, 49]⟩ : ByteArray), ())
    let x4 := (((⟨#[110, 111, 116]⟩ : ByteArray), (ByteArray.empty, ByteArray.empty, ()).2.1, ()).1, (⟨#[49, 58, 49, 48]⟩ : ByteArray), ())
    let x5 := (((⟨#[97, 110, 100]⟩ : ByteArray), (ByteArray.empty, ByteArray.empty, ()).2.1, ()).1, (⟨#[50, 58, 48, 48, 48, 49]⟩ : ByteArray), ())
    let x6 := (((⟨#[111, 114]⟩ : ByteArray), (ByteArray.empty, ByteArray.empty, ()).2.1, ()).1, (⟨#[50, 58, 48, 49, 49, 49]⟩ : ByteArray), ())
    let x7 := (((⟨#[120, 111, 114]⟩ : ByteArray), (ByteArray.empty, ByteArray.empty, ()).2.1, ()).1, (⟨#[50, 58, 48, 49, 49, 48]⟩ : ByteArray), ())
    let x8 := (((⟨#[110, 97, 110, 100]⟩ : ByteArray), (ByteArray.empty, ByteArray.empty, ()).2.1, ()).1, (⟨#[50, 58, 49, 49, 49, 48]⟩ : ByteArray), ())
    let x9 := (((⟨#[110, 111, 114]⟩ : ByteArray), (ByteArray.empty, ByteArray.empty, ()).2.1, ()).1, (⟨#[50, 58, 49, 48, 48, 48]⟩ : ByteArray), ())
    let x10 := (((⟨#[101, 113, 117, 97, 108]⟩ : ByteArray), (ByteArray.empty, ByteArray.empty, ()).2.1, ()).1, (⟨#[50, 58, 49, 48, 48, 49]⟩ : ByteArray), ())
    let x11 := (((⟨#[105, 109, 112, 108, 121]⟩ : ByteArray), (ByteArray.empty, ByteArray.empty, ()).2.1, ()).1, (⟨#[50, 58, 49, 48, 49, 49]⟩ : ByteArray), ())
    let x12 := (((⟨#[109, 97, 106, 111, 114, 105, 116, 121]⟩ : ByteArray), (ByteArray.empty, ByteArray.empty, ()).2.1, ()).1, (⟨#[51, 58, 48, 48, 48, 49, 48, 49, 49, 49]⟩ : ByteArray), ())
    let x13 := (((⟨#[109, 105, 110, 111, 114, 105, 116, 121]⟩ : ByteArray), (ByteArray.empty, ByteArray.empty, ()).2.1, ()).1, (⟨#[51, 58, 48, 49, 49, 48, 49, 48, 48, 49]⟩ : ByteArray), ())
    let x14 := (((⟨#[105, 102]⟩ : ByteArray), (ByteArray.empty, ByteArray.empty, ()).2.1, ()).1, (⟨#[51, 58, 48, 48, 48, 49, 49, 48, 49, 49]⟩ : ByteArray), ())
    let l15 := [x1, x2, x3, x4, x5, x6, x7, x8, x9, x10, x11, x12, x13, x14]
    some l15
noncomputable def rv_i_names : Lv := [(0, (.r (.st (.pair .str (.pair .str .unit)))))]
noncomputable def sg_i_names {R : Type} (K : Nat) (k : Nat) : List (Nat × SegS R) := []
noncomputable def su_i_names : List (Nat × Unit) := []
noncomputable def en_i_names {R : Type} (K : Nat) (k : Nat) : Env R := { L := lk [], X := lk [], S := lk (sg_i_names K k), rv := rv_i_names }
noncomputable def cf_i_names (K : Nat) : Cfg := { ty := lk tys, fn := lk [], prot := 0, nt := Try.f229.ntmps }
theorem e_i_names (K : Nat) (x : den as_i_names) : i_names K x = evFn (cf_i_names K) as_i_names [] (.sl (.st (.pair .str (.pair .str .unit)))) (en_i_names K K) Try.f229.results.toList (bodyOf Try.f229) x := by kernel_rfl
theorem ok_i_names (K : Nat) : FnOk Try.prog 229 (sp_i_names (i_names K)) :=
  fn_ok (cf := cf_i_names K) (en := en_i_names K K) (c := bodyOf Try.f229) Try.func229 (by kernel_rfl) (by kernel_rfl) tysOk (fns_ok (l := []) trivial) (by kernel_rfl) rfl (Nat.le_of_ble_eq_true (by kernel_rfl)) (by kernel_rfl) (of_decide_eq_true (by kernel_rfl)) (by decide) (fun C hP O => lpOk_of (en := en_i_names K K) (S := hasK su_i_names) (fun i => hasK_lk (sg_i_names K K) i) _ (by rw [show partsOf (hasK su_i_names) (bodyOf Try.f229) = [] from by kernel_rfl]; exact trivial)) (fun x y h => by rw [← e_i_names]; exact h)
noncomputable def as_i_isArity : Ty := (.pair (.int .i64) .unit)
noncomputable def sp_i_isArity (F : (Int × Unit) → Option Bool) : FnSpec := ⟨as_i_isArity, [false], .bool, F⟩
noncomputable def i_isArity (K : Nat) (x : (Int × Unit)) : Option Bool :=
    (i_within K (x.1, (0 : Int), (4 : Int), ())).bind fun y1 =>
    some y1
noncomputable def rv_i_isArity : Lv := [(2, (.v .bool))]
noncomputable def sg_i_isArity {R : Type} (K : Nat) (k : Nat) : List (Nat × SegS R) := []
noncomputable def su_i_isArity : List (Nat × Unit) := []
noncomputable def en_i_isArity {R : Type} (K : Nat) (k : Nat) : Env R := { L := lk [], X := lk [], S := lk (sg_i_isArity K k), rv := rv_i_isArity }
noncomputable def cf_i_isArity (K : Nat) : Cfg := { ty := lk tys, fn := lk [(114, sp_i_within (i_within K))], prot := 0, nt := Try.f65.ntmps }
theorem e_i_isArity (K : Nat) (x : den as_i_isArity) : i_isArity K x = evFn (cf_i_isArity K) as_i_isArity [false] .bool (en_i_isArity K K) Try.f65.results.toList (bodyOf Try.f65) x := by kernel_rfl
theorem ok_i_isArity (K : Nat) : FnOk Try.prog 65 (sp_i_isArity (i_isArity K)) :=
  fn_ok (cf := cf_i_isArity K) (en := en_i_isArity K K) (c := bodyOf Try.f65) Try.func65 (by kernel_rfl) (by kernel_rfl) tysOk (fns_ok (l := [(114, sp_i_within (i_within K))]) ⟨ok_i_within K, trivial⟩) (by kernel_rfl) rfl (Nat.le_of_ble_eq_true (by kernel_rfl)) (by kernel_rfl) (of_decide_eq_true (by kernel_rfl)) (by decide) (fun C hP O => lpOk_of (en := en_i_isArity K K) (S := hasK su_i_isArity) (fun i => hasK_lk (sg_i_isArity K K) i) _ (by rw [show partsOf (hasK su_i_isArity) (bodyOf Try.f65) = [] from by kernel_rfl]; exact trivial)) (fun x y h => by rw [← e_i_isArity]; exact h)
noncomputable def as_i_IsFunc : Ty := (.pair (.st (.pair (.int .i64) (.pair (.int .i64) .unit))) .unit)
noncomputable def sp_i_IsFunc (F : ((Int × Int × Unit) × Unit) → Option Bool) : FnSpec := ⟨as_i_IsFunc, [false], .bool, F⟩
noncomputable def i_IsFunc (K : Nat) (x : ((Int × Int × Unit) × Unit)) : Option Bool :=
    (i_isArity K (x.1.1, ())).bind fun y1 =>
    (if y1 = true then
    (i_funcsOf K (x.1.1, ())).bind fun y2 =>
    (i_within K (x.1.2.1, (0 : Int), (IntKind.i64.wrap (y2 - (1 : Int))), ())).bind fun y3 =>
    some y3
    else
    some false)
noncomputable def rv_i_IsFunc : Lv := [(2, (.v .bool))]
noncomputable def sg_i_IsFunc {R : Type} (K : Nat) (k : Nat) : List (Nat × SegS R) := []
noncomputable def su_i_IsFunc : List (Nat × Unit) := []
noncomputable def en_i_IsFunc {R : Type} (K : Nat) (k : Nat) : Env R := { L := lk [], X := lk [], S := lk (sg_i_IsFunc K k), rv := rv_i_IsFunc }
noncomputable def cf_i_IsFunc (K : Nat) : Cfg := { ty := lk tys, fn := lk [(65, sp_i_isArity (i_isArity K)), (109, sp_i_funcsOf (i_funcsOf K)), (114, sp_i_within (i_within K))], prot := 0, nt := Try.f96.ntmps }
theorem e_i_IsFunc (K : Nat) (x : den as_i_IsFunc) : i_IsFunc K x = evFn (cf_i_IsFunc K) as_i_IsFunc [false] .bool (en_i_IsFunc K K) Try.f96.results.toList (bodyOf Try.f96) x := by kernel_rfl
theorem ok_i_IsFunc (K : Nat) : FnOk Try.prog 96 (sp_i_IsFunc (i_IsFunc K)) :=
  fn_ok (cf := cf_i_IsFunc K) (en := en_i_IsFunc K K) (c := bodyOf Try.f96) Try.func96 (by kernel_rfl) (by kernel_rfl) tysOk (fns_ok (l := [(65, sp_i_isArity (i_isArity K)), (109, sp_i_funcsOf (i_funcsOf K)), (114, sp_i_within (i_within K))]) ⟨ok_i_isArity K, ⟨ok_i_funcsOf K, ⟨ok_i_within K, trivial⟩⟩⟩) (by kernel_rfl) rfl (Nat.le_of_ble_eq_true (by kernel_rfl)) (by kernel_rfl) (of_decide_eq_true (by kernel_rfl)) (by decide) (fun C hP O => lpOk_of (en := en_i_IsFunc K K) (S := hasK su_i_IsFunc) (fun i => hasK_lk (sg_i_IsFunc K K) i) _ (by rw [show partsOf (hasK su_i_IsFunc) (bodyOf Try.f96) = [] from by kernel_rfl]; exact trivial)) (fun x y h => by rw [← e_i_IsFunc]; exact h)
noncomputable def as_internal_bytealg_IndexByteString : Ty := (.pair .str (.pair (.int .u8) .unit))
noncomputable def sp_internal_bytealg_IndexByteString (F : (ByteArray × Int × Unit) → Option Int) : FnSpec := ⟨as_internal_bytealg_IndexByteString, [false, false], (.int .i64), F⟩
noncomputable def internal_bytealg_IndexByteString (K : Nat) (x : ByteArray × Int × Unit) : Option Int := some (Lib.indexByte x.1.data.toList x.2.1.toNat.toUInt8)
theorem ok_internal_bytealg_IndexByteString (K : Nat) : FnOk Try.prog 253 (sp_internal_bytealg_IndexByteString (internal_bytealg_IndexByteString K)) := indexByte_ok Try.func253 (by kernel_rfl) (by kernel_rfl) (by kernel_rfl) (by kernel_rfl)
noncomputable def as_internal_stringslite_IndexByte : Ty := (.pair .str (.pair (.int .u8) .unit))
noncomputable def sp_internal_stringslite_IndexByte (F : (ByteArray × Int × Unit) → Option Int) : FnSpec := ⟨as_internal_stringslite_IndexByte, [false, false], (.int .i64), F⟩
noncomputable def internal_stringslite_IndexByte (K : Nat) (x : (ByteArray × Int × Unit)) : Option Int :=
    (internal_bytealg_IndexByteString K (x.1, x.2.1, ())).bind fun y1 =>
    some y1
noncomputable def rv_internal_stringslite_IndexByte : Lv := [(4, (.v (.int .i64)))]
noncomputable def sg_internal_stringslite_IndexByte {R : Type} (K : Nat) (k : Nat) : List (Nat × SegS R) := []
noncomputable def su_internal_stringslite_IndexByte : List (Nat × Unit) := []
noncomputable def en_internal_stringslite_IndexByte {R : Type} (K : Nat) (k : Nat) : Env R := { L := lk [], X := lk [], S := lk (sg_internal_stringslite_IndexByte K k), rv := rv_internal_stringslite_IndexByte }
noncomputable def cf_internal_stringslite_IndexByte (K : Nat) : Cfg := { ty := lk tys, fn := lk [(253, sp_internal_bytealg_IndexByteString (internal_bytealg_IndexByteString K))], prot := 0, nt := Try.f238.ntmps }
theorem e_internal_stringslite_IndexByte (K : Nat) (x : den as_internal_stringslite_IndexByte) : internal_stringslite_IndexByte K x = evFn (cf_internal_stringslite_IndexByte K) as_internal_stringslite_IndexByte [false, false] (.int .i64) (en_internal_stringslite_IndexByte K K) Try.f238.results.toList (bodyOf Try.f238) x := by kernel_rfl
theorem ok_internal_stringslite_IndexByte (K : Nat) : FnOk Try.prog 238 (sp_internal_stringslite_IndexByte (internal_stringslite_IndexByte K)) :=
  fn_ok (cf := cf_internal_stringslite_IndexByte K) (en := en_internal_stringslite_IndexByte K K) (c := bodyOf Try.f238) Try.func238 (by kernel_rfl) (by kernel_rfl) tysOk (fns_ok (l := [(253, sp_internal_bytealg_IndexByteString (internal_bytealg_IndexByteString K))]) ⟨ok_internal_bytealg_IndexByteString K, trivial⟩) (by kernel_rfl) rfl (Nat.le_of_ble_eq_true (by kernel_rfl)) (by kernel_rfl) (of_decide_eq_true (by kernel_rfl)) (by decide) (fun C hP O => lpOk_of (en := en_internal_stringslite_IndexByte K K) (S := hasK su_internal_stringslite_IndexByte) (fun i => hasK_lk (sg_internal_stringslite_IndexByte K K) i) _ (by rw [show partsOf (hasK su_internal_stringslite_IndexByte) (bodyOf Try.f238) = [] from by kernel_rfl]; exact trivial)) (fun x y h => by rw [← e_internal_stringslite_IndexByte]; exact h)
noncomputable def as_internal_stringslite_Index : Ty := (.pair .str (.pair .str .unit))
noncomputable def sp_internal_stringslite_Index (F : (ByteArray × ByteArray × Unit) → Option Int) : FnSpec := ⟨as_internal_stringslite_Index, [false, false], (.int .i64), F⟩
noncomputable def internal_stringslite_Index (K : Nat) (x : (ByteArray × ByteArray × Unit)) : Option Int :=
    (if (decide ((x.2.1.size : Int) = (0 : Int))) = true then
    some (0 : Int)
    else
    (if (cmpS .eql x.2.1 x.1) = true then
    some (0 : Int)
    else
    (if (decide ((x.2.1.size : Int) = (1 : Int))) = true then
    (if (bnds (0 : Int) (x.2.1.size : Int)) = true then
    (internal_stringslite_IndexByte K (x.1, (byteAt x.2.1 (0 : Int)), ())).bind fun y1 =>
    some y1
    else
    none)
    else
    (if (decide ((x.2.1.size : Int) ≥ (x.1.size : Int))) = true then
    some (-1 : Int)
    else
    none))))
noncomputable def rv_internal_stringslite_Index : Lv := [(4, (.v (.int .i64)))]
noncomputable def sg_internal_stringslite_Index {R : Type} (K : Nat) (k : Nat) : List (Nat × SegS R) := []
noncomputable def su_internal_stringslite_Index : List (Nat × Unit) := []
noncomputable def en_internal_stringslite_Index {R : Type} (K : Nat) (k : Nat) : Env R := { L := lk [], X := lk [], S := lk (sg_internal_stringslite_Index K k), rv := rv_internal_stringslite_Index }
noncomputable def cf_internal_stringslite_Index (K : Nat) : Cfg := { ty := lk tys, fn := lk [(238, sp_internal_stringslite_IndexByte (internal_stringslite_IndexByte K))], prot := 0, nt := Try.f258.ntmps }
noncomputable def c_internal_stringslite_Index_L15 : Code := nthC (partsOf (hasK su_internal_stringslite_Index) (bodyOf Try.f258)) 0
theorem e_internal_stringslite_Index (K : Nat) (x : den as_internal_stringslite_Index) : internal_stringslite_Index K x = evFn (cf_internal_stringslite_Index K) as_internal_stringslite_Index [false, false] (.int .i64) (en_internal_stringslite_Index K K) Try.f258.results.toList (bodyOf Try.f258) x := by kernel_rfl
theorem ok_internal_stringslite_Index (K : Nat) : FnOk Try.prog 258 (sp_internal_stringslite_Index (internal_stringslite_Index K)) :=
  fn_ok (cf := cf_internal_stringslite_Index K) (en := en_internal_stringslite_Index K K) (c := bodyOf Try.f258) Try.func258 (by kernel_rfl) (by kernel_rfl) tysOk (fns_ok (l := [(238, sp_internal_stringslite_IndexByte (internal_stringslite_IndexByte K))]) ⟨ok_internal_stringslite_IndexByte K, trivial⟩) (by kernel_rfl) rfl (Nat.le_of_ble_eq_true (by kernel_rfl)) (by kernel_rfl) (of_decide_eq_true (by kernel_rfl)) (by decide) (fun C hP O => lpOk_of (en := en_internal_stringslite_Index K K) (S := hasK su_internal_stringslite_Index) (fun i => hasK_lk (sg_internal_stringslite_Index K K) i) _ (by rw [show partsOf (hasK su_internal_stringslite_Index) (bodyOf Try.f258) = [(true, c_internal_stringslite_Index_L15)] from by kernel_rfl]; exact (lpL_none (by kernel_rfl) trivial))) (fun x y h => by rw [← e_internal_stringslite_Index]; exact h)
noncomputable def as_internal_stringslite_Cut : Ty := (.pair .str (.pair .str .unit))
noncomputable def sp_internal_stringslite_Cut (F : (ByteArray × ByteArray × Unit) → Option (ByteArray × ByteArray × Bool × Unit)) : FnSpec := ⟨as_internal_stringslite_Cut, [false, false], (.tup (.pair .str (.pair .str (.pair .bool .unit)))), F⟩
noncomputable def internal_stringslite_Cut (K : Nat) (x : (ByteArray × ByteArray × Unit)) : Option (ByteArray × ByteArray × Bool × Unit) :=
    (internal_stringslite_Index K (x.1, x.2.1, ())).bind fun y1 =>
    (if (decide (y1 ≥ (0 : Int))) = true then
    (if (decide (0 ≤ (0 : Int)) && decide ((0 : Int) ≤ y1) && decide (y1 ≤ (x.1.size : Int))) = true then
    (if (decide (0 ≤ (IntKind.i64.wrap (y1 + (x.2.1.size : Int)))) && decide ((IntKind.i64.wrap (y1 + (x.2.1.size : Int))) ≤ (x.1.size : Int)) && decide ((x.1.size : Int) ≤ (x.1.size : Int))) = true then
    let x2 := (x.1.extract (IntKind.i64.wrap (y1 + (x.2.1.size : Int))).toNat (x.1.size : Int).toNat)
    some ((x.1.extract (0 : Int).toNat y1.toNat), x2, true, ())
    else
    none)
    else
    none)
    else
    some (x.1, (⟨#[]⟩ : ByteArray), false, ()))
noncomputable def rv_internal_stringslite_Cut : Lv := [(4, (.v .str)), (5, (.v .str)), (6, (.v .bool))]
noncomputable def sg_internal_stringslite_Cut {R : Type} (K : Nat) (k : Nat) : List (Nat × SegS R) := []
noncomputable def su_internal_stringslite_Cut : List (Nat × Unit) := []
noncomputable def en_internal_stringslite_Cut {R : Type} (K : Nat) (k : Nat) : Env R := { L := lk [], X := lk [], S := lk (sg_internal_stringslite_Cut K k), rv := rv_internal_stringslite_Cut }
noncomputable def cf_internal_stringslite_Cut (K : Nat) : Cfg := { ty := lk tys, fn := lk [(258, sp_internal_stringslite_Index (internal_stringslite_Index K))], prot := 0, nt := Try.f257.ntmps }
theorem e_internal_stringslite_Cut (K : Nat) (x : den as_internal_stringslite_Cut) : internal_stringslite_Cut K x = evFn (cf_internal_stringslite_Cut K) as_internal_stringslite_Cut [false, false] (.tup (.pair .str (.pair .str (.pair .bool .unit)))) (en_internal_stringslite_Cut K K) Try.f257.results.toList (bodyOf Try.f257) x := by kernel_rfl
theorem ok_internal_stringslite_Cut (K : Nat) : FnOk Try.prog 257 (sp_internal_stringslite_Cut (internal_stringslite_Cut K)) :=
  fn_ok (cf := cf_internal_stringslite_Cut K) (en := en_internal_stringslite_Cut K K) (c := bodyOf Try.f257) Try.func257 (by kernel_rfl) (by kernel_rfl) tysOk (fns_ok (l := [(258, sp_internal_stringslite_Index (internal_stringslite_Index K))]) ⟨ok_internal_stringslite_Index K, trivial⟩) (by kernel_rfl) rfl (Nat.le_of_ble_eq_true (by kernel_rfl)) (by kernel_rfl) (of_decide_eq_true (by kernel_rfl)) (by decide) (fun C hP O => lpOk_of (en := en_internal_stringslite_Cut K K) (S := hasK su_internal_stringslite_Cut) (fun i => hasK_lk (sg_internal_stringslite_Cut K K) i) _ (by rw [show partsOf (hasK su_internal_stringslite_Cut) (bodyOf Try.f257) = [] from by kernel_rfl]; exact trivial)) (fun x y h => by rw [← e_internal_stringslite_Cut]; exact h)
noncomputable def as_strings_Cut : Ty := (.pair .str (.pair .str .unit))
noncomputable def sp_strings_Cut (F : (ByteArray × ByteArray × Unit) → Option (ByteArray × ByteArray × Bool × Unit)) : FnSpec := ⟨as_strings_Cut, [false, false], (.tup (.pair .str (.pair .str (.pair .bool .unit)))), F⟩
noncomputable def strings_Cut (K : Nat) (x : (ByteArray × ByteArray × Unit)) : Option (ByteArray × ByteArray × Bool × Unit) :=
    (internal_stringslite_Cut K (x.1, x.2.1, ())).bind fun y1 =>
    some (y1.1, y1.2.1, y1.2.2.1, ())
noncomputable def rv_strings_Cut : Lv := [(4, (.v .str)), (5, (.v .str)), (6, (.v .bool))]
noncomputable def sg_strings_Cut {R : Type} (K : Nat) (k : Nat) : List (Nat × SegS R) := []
noncomputable def su_strings_Cut : List (Nat × Unit) := []
noncomputable def en_strings_Cut {R : Type} (K : Nat) (k : Nat) : Env R := { L := lk [], X := lk [], S := lk (sg_strings_Cut K k), rv := rv_strings_Cut }
noncomputable def cf_strings_Cut (K : Nat) : Cfg := { ty := lk tys, fn := lk [(257, sp_internal_stringslite_Cut (internal_stringslite_Cut K))], prot := 0, nt := Try.f250.ntmps }
theorem e_strings_Cut (K : Nat) (x : den as_strings_Cut) : strings_Cut K x = evFn (cf_strings_Cut K) as_strings_Cut [false, false] (.tup (.pair .str (.pair .str (.pair .bool .unit)))) (en_strings_Cut K K) Try.f250.results.toList (bodyOf Try.f250) x := by kernel_rfl
theorem ok_strings_Cut (K : Nat) : FnOk Try.prog 250 (sp_strings_Cut (strings_Cut K)) :=
  fn_ok (cf := cf_strings_Cut K) (en := en_strings_Cut K K) (c := bodyOf Try.f250) Try.func250 (by kernel_rfl) (by kernel_rfl) tysOk (fns_ok (l := [(257, sp_internal_stringslite_Cut (internal_stringslite_Cut K))]) ⟨ok_internal_stringslite_Cut K, trivial⟩) (by kernel_rfl) rfl (Nat.le_of_ble_eq_true (by kernel_rfl)) (by kernel_rfl) (of_decide_eq_true (by kernel_rfl)) (by decide) (fun C hP O => lpOk_of (en := en_strings_Cut K K) (S := hasK su_strings_Cut) (fun i => hasK_lk (sg_strings_Cut K K) i) _ (by rw [show partsOf (hasK su_strings_Cut) (bodyOf Try.f250) = [] from by kernel_rfl]; exact trivial)) (fun x y h => by rw [← e_strings_Cut]; exact h)
noncomputable def as_i_Func_at : Ty := (.pair (.st (.pair (.int .i64) (.pair (.int .i64) .unit))) (.pair (.int .i64) .unit))
noncomputable def sp_i_Func_at (F : ((Int × Int × Unit) × Int × Unit) → Option Int) : FnSpec := ⟨as_i_Func_at, [false, false], (.int .i64), F⟩
noncomputable def i_Func_at (K : Nat) (x : ((Int × Int × Unit) × Int × Unit)) : Option Int :=
    (i_bit K (x.1.2.1, x.2.1, ())).bind fun y1 =>
    some y1
noncomputable def rv_i_Func_at : Lv := [(4, (.v (.int .i64)))]
noncomputable def sg_i_Func_at {R : Type} (K : Nat) (k : Nat) : List (Nat × SegS R) := []
noncomputable def su_i_Func_at : List (Nat × Unit) := []
noncomputable def en_i_Func_at {R : Type} (K : Nat) (k : Nat) : Env R := { L := lk [], X := lk [], S := lk (sg_i_Func_at K k), rv := rv_i_Func_at }
noncomputable def cf_i_Func_at (K : Nat) : Cfg := { ty := lk tys, fn := lk [(197, sp_i_bit (i_bit K))], prot := 0, nt := Try.f170.ntmps }
theorem e_i_Func_at (K : Nat) (x : den as_i_Func_at) : i_Func_at K x = evFn (cf_i_Func_at K) as_i_Func_at [false, false] (.int .i64) (en_i_Func_at K K) Try.f170.results.toList (bodyOf Try.f170) x := by kernel_rfl
theorem ok_i_Func_at (K : Nat) : FnOk Try.prog 170 (sp_i_Func_at (i_Func_at K)) :=
  fn_ok (cf := cf_i_Func_at K) (en := en_i_Func_at K K) (c := bodyOf Try.f170) Try.func170 (by kernel_rfl) (by kernel_rfl) tysOk (fns_ok (l := [(197, sp_i_bit (i_bit K))]) ⟨ok_i_bit K, trivial⟩) (by kernel_rfl) rfl (Nat.le_of_ble_eq_true (by kernel_rfl)) (by kernel_rfl) (of_decide_eq_true (by kernel_rfl)) (by decide) (fun C hP O => lpOk_of (en := en_i_Func_at K K) (S := hasK su_i_Func_at) (fun i => hasK_lk (sg_i_Func_at K K) i) _ (by rw [show partsOf (hasK su_i_Func_at) (bodyOf Try.f170) = [] from by kernel_rfl]; exact trivial)) (fun x y h => by rw [← e_i_Func_at]; exact h)
noncomputable def as_i_Func_rows : Ty := (.pair (.st (.pair (.int .i64) (.pair (.int .i64) .unit))) .unit)
noncomputable def sp_i_Func_rows (F : ((Int × Int × Unit) × Unit) → Option Int) : FnSpec := ⟨as_i_Func_rows, [false], (.int .i64), F⟩
noncomputable def i_Func_rows (K : Nat) (x : ((Int × Int × Unit) × Unit)) : Option Int :=
    (i_rowsOf K (x.1.1, ())).bind fun y1 =>
    some y1
noncomputable def rv_i_Func_rows : Lv := [(2, (.v (.int .i64)))]
noncomputable def sg_i_Func_rows {R : Type} (K : Nat) (k : Nat) : List (Nat × SegS R) := []
noncomputable def su_i_Func_rows : List (Nat × Unit) := []
noncomputable def en_i_Func_rows {R : Type} (K : Nat) (k : Nat) : Env R := { L := lk [], X := lk [], S := lk (sg_i_Func_rows K k), rv := rv_i_Func_rows }
noncomputable def cf_i_Func_rows (K : Nat) : Cfg := { ty := lk tys, fn := lk [(164, sp_i_rowsOf (i_rowsOf K))], prot := 0, nt := Try.f171.ntmps }
theorem e_i_Func_rows (K : Nat) (x : den as_i_Func_rows) : i_Func_rows K x = evFn (cf_i_Func_rows K) as_i_Func_rows [false] (.int .i64) (en_i_Func_rows K K) Try.f171.results.toList (bodyOf Try.f171) x := by kernel_rfl
theorem ok_i_Func_rows (K : Nat) : FnOk Try.prog 171 (sp_i_Func_rows (i_Func_rows K)) :=
  fn_ok (cf := cf_i_Func_rows K) (en := en_i_Func_rows K K) (c := bodyOf Try.f171) Try.func171 (by kernel_rfl) (by kernel_rfl) tysOk (fns_ok (l := [(164, sp_i_rowsOf (i_rowsOf K))]) ⟨ok_i_rowsOf K, trivial⟩) (by kernel_rfl) rfl (Nat.le_of_ble_eq_true (by kernel_rfl)) (by kernel_rfl) (of_decide_eq_true (by kernel_rfl)) (by decide) (fun C hP O => lpOk_of (en := en_i_Func_rows K K) (S := hasK su_i_Func_rows) (fun i => hasK_lk (sg_i_Func_rows K K) i) _ (by rw [show partsOf (hasK su_i_Func_rows) (bodyOf Try.f171) = [] from by kernel_rfl]; exact trivial)) (fun x y h => by rw [← e_i_Func_rows]; exact h)
noncomputable def as_i_Func_text : Ty := (.pair (.st (.pair (.int .i64) (.pair (.int .i64) .unit))) .unit)
noncomputable def sp_i_Func_text (F : ((Int × Int × Unit) × Unit) → Option ByteArray) : FnSpec := ⟨as_i_Func_text, [false], .str, F⟩
noncomputable def i_Func_text_l3 {R : Type} (K : Nat) : Nat → (Int × Int × Unit) → (List Int) → Int → Int → ((List Int) → Option R) → Option R
  | 0, _, _, _, _, _ => none
  | k + 1, v1, v3, v11, v12, kx0 =>
    (if (decide (v12 < v11)) = true then
    (i_Func_at K (v1, v12, ())).bind fun y3 =>
    let l4 := [(IntKind.u8.wrap ((48 : Int) + (IntKind.u8.wrap y3)))]
    (if (decide (v3.length + l4.length ≤ lim)) = true then
    let l5 := (v3 ++ l4)
    i_Func_text_l3 K k v1 l5 v11 (IntKind.i64.wrap (v12 + (1 : Int))) kx0
    else
    none)
    else
    kx0 v3)
noncomputable def i_Func_text (K : Nat) (x : ((Int × Int × Unit) × Unit)) : Option ByteArray :=
    let l1 := [(IntKind.u8.wrap ((48 : Int) + (IntKind.u8.wrap x.1.1))), (58 : Int)]
    (i_Func_rows K (x.1, ())).bind fun y2 =>
    i_Func_text_l3 K K x.1 l1 y2 (0 : Int) (fun z6 =>
    some (bytesOf z6))
noncomputable def lv_i_Func_text_L3 : Lv := [(1, (.bx (.v (.st (.pair (.int .i64) (.pair (.int .i64) .unit)))))), (3, (.r (.int .u8))), (11, (.v (.int .i64))), (12, (.v (.int .i64)))]
noncomputable def lv_i_Func_text_X0 : Lv := [(3, (.r (.int .u8)))]
noncomputable def rv_i_Func_text : Lv := [(2, (.v .str))]
noncomputable def gi_Func_text_l3 {R : Type} (K : Nat) (k : Nat) (x : den lv_i_Func_text_L3.ty) (kx : Nat → St → Option R) (kr : St → Option R) : Option R := i_Func_text_l3 K k x.1 x.2.1 x.2.2.1 x.2.2.2.1 (fun z0 => kx 0 (mkSt lv_i_Func_text_X0 (z0, ())))
noncomputable def sg_i_Func_text {R : Type} (K : Nat) (k : Nat) : List (Nat × SegS R) := []
noncomputable def su_i_Func_text : List (Nat × Unit) := []
noncomputable def en_i_Func_text {R : Type} (K : Nat) (k : Nat) : Env R := { L := lk [(3, mkLoop lv_i_Func_text_L3 (gi_Func_text_l3 K k))], X := lk [(0, lv_i_Func_text_X0)], S := lk (sg_i_Func_text K k), rv := rv_i_Func_text }
noncomputable def cf_i_Func_text (K : Nat) : Cfg := { ty := lk tys, fn := lk [(170, sp_i_Func_at (i_Func_at K)), (171, sp_i_Func_rows (i_Func_rows K))], prot := 0, nt := Try.f251.ntmps }
noncomputable def c_i_Func_text_L3 : Code := nthC (partsOf (hasK su_i_Func_text) (bodyOf Try.f251)) 0
theorem ei_Func_text_l3 {R : Type} (K : Nat) (k : Nat) (x : den lv_i_Func_text_L3.ty) (kx : Nat → St → Option R) (kr : St → Option R) : gi_Func_text_l3 K (k + 1) x kx kr = evC (cf_i_Func_text K) (en_i_Func_text K k) c_i_Func_text_L3 (mkSt lv_i_Func_text_L3 x) (fun s => mkLoop lv_i_Func_text_L3 (gi_Func_text_l3 K k) s kx kr) kx kr := by kernel_rfl
theorem si_Func_text_l3 {R : Type} (K : Nat) (C : Cx) (hP : C.P = Try.prog) (O : CfgOk C (cf_i_Func_text K)) (k : Nat) : LpS C (R := R) (mkLoop lv_i_Func_text_L3 (gi_Func_text_l3 K k)) c_i_Func_text_L3 :=
  loop_sound O (by rw [hP]; kernel_rfl) (fun x kx kr => rfl) (ei_Func_text_l3 K) (fun k => lpOk_of (en := en_i_Func_text K k) (S := hasK su_i_Func_text) (fun i => hasK_lk (sg_i_Func_text K k) i) _ (by rw [show partsOf (hasK su_i_Func_text) c_i_Func_text_L3 = [] from by kernel_rfl]; exact trivial)) k
theorem e_i_Func_text (K : Nat) (x : den as_i_Func_text) : i_Func_text K x = evFn (cf_i_Func_text K) as_i_Func_text [false] .str (en_i_Func_text K K) Try.f251.results.toList (bodyOf Try.f251) x := by kernel_rfl
theorem ok_i_Func_text (K : Nat) : FnOk Try.prog 251 (sp_i_Func_text (i_Func_text K)) :=
  fn_ok (cf := cf_i_Func_text K) (en := en_i_Func_text K K) (c := bodyOf Try.f251) Try.func251 (by kernel_rfl) (by kernel_rfl) tysOk (fns_ok (l := [(170, sp_i_Func_at (i_Func_at K)), (171, sp_i_Func_rows (i_Func_rows K))]) ⟨ok_i_Func_at K, ⟨ok_i_Func_rows K, trivial⟩⟩) (by kernel_rfl) rfl (Nat.le_of_ble_eq_true (by kernel_rfl)) (by kernel_rfl) (of_decide_eq_true (by kernel_rfl)) (by decide) (fun C hP O => lpOk_of (en := en_i_Func_text K K) (S := hasK su_i_Func_text) (fun i => hasK_lk (sg_i_Func_text K K) i) _ (by rw [show partsOf (hasK su_i_Func_text) (bodyOf Try.f251) = [(true, c_i_Func_text_L3)] from by kernel_rfl]; exact (lpL_loop (f := mkLoop lv_i_Func_text_L3 (gi_Func_text_l3 K K)) (by kernel_rfl) (si_Func_text_l3 K C hP O K) trivial))) (fun x y h => by rw [← e_i_Func_text]; exact h)
noncomputable def as_i_readFunc : Ty := (.pair .str .unit)
noncomputable def sp_i_readFunc (F : (ByteArray × Unit) → Option ((Int × Int × Unit) × Bool × Unit)) : FnSpec := ⟨as_i_readFunc, [false], (.tup (.pair (.st (.pair (.int .i64) (.pair (.int .i64) .unit))) (.pair .bool .unit))), F⟩
noncomputable def i_readFunc_l6 {R : Type} (K : Nat) : Nat → ByteArray → (Int × Int × Unit) → ByteArray → (Int × Int × Unit) → Int → Int → (ByteArray → (Int × Int × Unit) → (Int × Int × Unit) → Option R) → Option R
  | 0, _, _, _, _, _, _, _ => none
  | k + 1, v0, v2, v5, v7, v31, v32, kx0 =>
    (if (decide (v32 < v31)) = true then
    (if (bnds v32 (v5.size : Int)) = true then
    (if (decide ((byteAt v5 v32) = (49 : Int))) = true then
    (if (decide ((0 : Int) ≤ v32)) = true then
    i_readFunc_l6 K k v0 v2 v5 (v7.1, (bitI .or .i64 v7.2.1 (shlI .i64 (1 : Int) v32)), ()) v31 (IntKind.i64.wrap (v32 + (1 : Int))) kx0
    else
    none)
    else
    i_readFunc_l6 K k v0 v2 v5 v7 v31 (IntKind.i64.wrap (v32 + (1 : Int))) kx0)
    else
    none)
    else
    kx0 v0 v2 v7)
noncomputable def i_readFunc_j4 {R : Type} (K : Nat) (k : Nat) (v0 : ByteArray) (v2 : (Int × Int × Unit)) (v4 : ByteArray) (v5 : ByteArray) (kn : Option R) (kr : ((Int × Int × Unit) → Bool → Option R)) : Option R :=
    (if (bnds (0 : Int) (v4.size : Int)) = true then
    let x3 := (IntKind.i64.wrap ((IntKind.i64.wrap (byteAt v4 (0 : Int))) - (48 : Int)))
    i_readFunc_l6 K k v0 v2 v5 (x3, ((0 : Int), (0 : Int), ()).2.1, ()) (v5.size : Int) (0 : Int) (fun z4 z5 z6 =>
    (i_IsFunc K (z6, ())).bind fun y7 =>
    (if (!y7) = true then
    kr ((0 : Int), (0 : Int), ()) false
    else
    (i_Func_text K (z6, ())).bind fun y8 =>
    (if (cmpS .neq y8 z4) = true then
    kr ((0 : Int), (0 : Int), ()) false
    else
    kr z6 true)))
    else
    none)
noncomputable def i_readFunc (K : Nat) (x : (ByteArray × Unit)) : Option ((Int × Int × Unit) × Bool × Unit) :=
    (strings_Cut K (x.1, (⟨#[58]⟩ : ByteArray), ())).bind fun y1 =>
    (if (!decide ((y1.1.size : Int) = (1 : Int))) = true then
    some (((0 : Int), (0 : Int), ()), false, ())
    else
    (i_rowsOf K ((4 : Int), ())).bind fun y2 =>
    (if (decide ((y1.2.1.size : Int) > y2)) = true then
    some (((0 : Int), (0 : Int), ()), false, ())
    else
    i_readFunc_j4 K K x.1 ((0 : Int), (0 : Int), ()) y1.1 y1.2.1 none (fun z9 z10 =>
    some (z9, z10, ()))))
noncomputable def lv_i_readFunc_J4 : Lv := [(0, (.v .str)), (2, (.bx (.v (.st (.pair (.int .i64) (.pair (.int .i64) .unit)))))), (4, (.v .str)), (5, (.v .str))]
noncomputable def lv_i_readFunc_L6 : Lv := [(0, (.v .str)), (2, (.bx (.v (.st (.pair (.int .i64) (.pair (.int .i64) .unit)))))), (5, (.v .str)), (7, (.bx (.v (.st (.pair (.int .i64) (.pair (.int .i64) .unit)))))), (31, (.v (.int .i64))), (32, (.v (.int .i64)))]
noncomputable def lv_i_readFunc_N4 : Lv := []
noncomputable def lv_i_readFunc_X0 : Lv := [(0, (.v .str)), (2, (.bx (.v (.st (.pair (.int .i64) (.pair (.int .i64) .unit)))))), (7, (.bx (.v (.st (.pair (.int .i64) (.pair (.int .i64) .unit))))))]
noncomputable def rv_i_readFunc : Lv := [(2, (.bx (.v (.st (.pair (.int .i64) (.pair (.int .i64) .unit)))))), (3, (.v .bool))]
noncomputable def gi_readFunc_l6 {R : Type} (K : Nat) (k : Nat) (x : den lv_i_readFunc_L6.ty) (kx : Nat → St → Option R) (kr : St → Option R) : Option R := i_readFunc_l6 K k x.1 x.2.1 x.2.2.1 x.2.2.2.1 x.2.2.2.2.1 x.2.2.2.2.2.1 (fun z0 z1 z2 => kx 0 (mkSt lv_i_readFunc_X0 (z0, z1, z2, ())))
noncomputable def gi_readFunc_j4 {R : Type} (K : Nat) (k : Nat) (x : den lv_i_readFunc_J4.ty) (kn : den lv_i_readFunc_N4.ty → Option R) (kx : Nat → St → Option R) (kr : St → Option R) : Option R := i_readFunc_j4 K k x.1 x.2.1 x.2.2.1 x.2.2.2.1 (kn ()) (fun z0 z1 => kr (mkSt rv_i_readFunc (z0, z1, ())))
noncomputable def sg_i_readFunc {R : Type} (K : Nat) (k : Nat) : List (Nat × SegS R) := [(4, mkSeg lv_i_readFunc_J4 lv_i_readFunc_N4 (gi_readFunc_j4 K k))]
noncomputable def su_i_readFunc : List (Nat × Unit) := [(4, ())]
noncomputable def en_i_readFunc {R : Type} (K : Nat) (k : Nat) : Env R := { L := lk [(6, mkLoop lv_i_readFunc_L6 (gi_readFunc_l6 K k))], X := lk [(0, lv_i_readFunc_X0)], S := lk (sg_i_readFunc K k), rv := rv_i_readFunc }
noncomputable def cf_i_readFunc (K : Nat) : Cfg := { ty := lk tys, fn := lk [(96, sp_i_IsFunc (i_IsFunc K)), (164, sp_i_rowsOf (i_rowsOf K)), (250, sp_strings_Cut (strings_Cut K)), (251, sp_i_Func_text (i_Func_text K))], prot := 0, nt := Try.f230.ntmps }
noncomputable def c_i_readFunc_J4 : Code := nthC (partsOf (hasK su_i_readFunc) (bodyOf Try.f230)) 0
noncomputable def c_i_readFunc_L6 : Code := nthC (partsOf (hasK su_i_readFunc) c_i_readFunc_J4) 0
theorem ei_readFunc_l6 {R : Type} (K : Nat) (k : Nat) (x : den lv_i_readFunc_L6.ty) (kx : Nat → St → Option R) (kr : St → Option R) : gi_readFunc_l6 K (k + 1) x kx kr = evC (cf_i_readFunc K) (en_i_readFunc K k) c_i_readFunc_L6 (mkSt lv_i_readFunc_L6 x) (fun s => mkLoop lv_i_readFunc_L6 (gi_readFunc_l6 K k) s kx kr) kx kr := by kernel_rfl
theorem si_readFunc_l6 {R : Type} (K : Nat) (C : Cx) (hP : C.P = Try.prog) (O : CfgOk C (cf_i_readFunc K)) (k : Nat) : LpS C (R := R) (mkLoop lv_i_readFunc_L6 (gi_readFunc_l6 K k)) c_i_readFunc_L6 :=
  loop_sound O (by rw [hP]; kernel_rfl) (fun x kx kr => rfl) (ei_readFunc_l6 K) (fun k => lpOk_of (en := en_i_readFunc K k) (S := hasK su_i_readFunc) (fun i => hasK_lk (sg_i_readFunc K k) i) _ (by rw [show partsOf (hasK su_i_readFunc) c_i_readFunc_L6 = [] from by kernel_rfl]; exact trivial)) k
theorem ei_readFunc_j4 {R : Type} (K : Nat) (k : Nat) (x : den lv_i_readFunc_J4.ty) (kn : den lv_i_readFunc_N4.ty → Option R) (kx : Nat → St → Option R) (kr : St → Option R) : gi_readFunc_j4 K k x kn kx kr = evC (cf_i_readFunc K) (en_i_readFunc K k) c_i_readFunc_J4 (mkSt lv_i_readFunc_J4 x) (cutK lv_i_readFunc_N4 kn) kx kr := by kernel_rfl
theorem si_readFunc_j4 {R : Type} (K : Nat) (C : Cx) (hP : C.P = Try.prog) (O : CfgOk C (cf_i_readFunc K)) (k : Nat) : SgS C (R := R) (mkSeg lv_i_readFunc_J4 lv_i_readFunc_N4 (gi_readFunc_j4 K k)) c_i_readFunc_J4 :=
  seg_sound O (by rw [hP]; kernel_rfl) (ei_readFunc_j4 K k) (lpOk_of (en := en_i_readFunc K k) (S := hasK su_i_readFunc) (fun i => hasK_lk (sg_i_readFunc K k) i) _ (by rw [show partsOf (hasK su_i_readFunc) c_i_readFunc_J4 = [(true, c_i_readFunc_L6)] from by kernel_rfl]; exact (lpL_loop (f := mkLoop lv_i_readFunc_L6 (gi_readFunc_l6 K k)) (by kernel_rfl) (si_readFunc_l6 K C hP O k) trivial)))
theorem e_i_readFunc (K : Nat) (x : den as_i_readFunc) : i_readFunc K x = evFn (cf_i_readFunc K) as_i_readFunc [false] (.tup (.pair (.st (.pair (.int .i64) (.pair (.int .i64) .unit))) (.pair .bool .unit))) (en_i_readFunc K K) Try.f230.results.toList (bodyOf Try.f230) x := by kernel_rfl
theorem ok_i_readFunc (K : Nat) : FnOk Try.prog 230 (sp_i_readFunc (i_readFunc K)) :=
  fn_ok (cf := cf_i_readFunc K) (en := en_i_readFunc K K) (c := bodyOf Try.f230) Try.func230 (by kernel_rfl) (by kernel_rfl) tysOk (fns_ok (l := [(96, sp_i_IsFunc (i_IsFunc K)), (164, sp_i_rowsOf (i_rowsOf K)), (250, sp_strings_Cut (strings_Cut K)), (251, sp_i_Func_text (i_Func_text K))]) ⟨ok_i_IsFunc K, ⟨ok_i_rowsOf K, ⟨ok_strings_Cut K, ⟨ok_i_Func_text K, trivial⟩⟩⟩⟩) (by kernel_rfl) rfl (Nat.le_of_ble_eq_true (by kernel_rfl)) (by kernel_rfl) (of_decide_eq_true (by kernel_rfl)) (by decide) (fun C hP O => lpOk_of (en := en_i_readFunc K K) (S := hasK su_i_readFunc) (fun i => hasK_lk (sg_i_readFunc K K) i) _ (by rw [show partsOf (hasK su_i_readFunc) (bodyOf Try.f230) = [(false, c_i_readFunc_J4)] from by kernel_rfl]; exact (lpL_seg (f := mkSeg lv_i_readFunc_J4 lv_i_readFunc_N4 (gi_readFunc_j4 K K)) (by kernel_rfl) (si_readFunc_j4 K C hP O K) trivial))) (fun x y h => by rw [← e_i_readFunc]; exact h)
noncomputable def as_i_namedFunc : Ty := (.pair .str .unit)
noncomputable def sp_i_namedFunc (F : (ByteArray × Unit) → Option ((Int × Int × Unit) × Bool × Unit)) : FnSpec := ⟨as_i_namedFunc, [false], (.tup (.pair (.st (.pair (.int .i64) (.pair (.int .i64) .unit))) (.pair .bool .unit))), F⟩
noncomputable def i_namedFunc_l2 {R : Type} (K : Nat) : Nat → ByteArray → (Int × Int × Unit) → (List (ByteArray × ByteArray × Unit)) → Int → Int → ((Int × Int × Unit) → Option R) → ((Int × Int × Unit) → Bool → Option R) → Option R
  | 0, _, _, _, _, _, _, _ => none
  | k + 1, v0, v2, v6, v7, v8, kx0, kr =>
    (if (decide (v8 < v7)) = true then
    (if (bnds v8 (v6.length : Int)) = true then
    let x2 := (cmpS .eql ((v6.getD v8.toNat (ByteArray.empty, ByteArray.empty, ())).1) v0)
    (if x2 = true then
    let x3 := (v6.getD v8.toNat (ByteArray.empty, ByteArray.empty, ())).2.1
    (i_readFunc K (x3, ())).bind fun y4 =>
    kr y4.1 y4.2.1
    else
    i_namedFunc_l2 K k v0 v2 v6 v7 (IntKind.i64.wrap (v8 + (1 : Int))) kx0 kr)
    else
    none)
    else
    kx0 v2)
noncomputable def i_namedFunc (K : Nat) (x : (ByteArray × Unit)) : Option ((Int × Int × Unit) × Bool × Unit) :=
    (i_names K ()).bind fun y1 =>
    i_namedFunc_l2 K K x.1 ((0 : Int), (0 : Int), ()) y1 (y1.length : Int) (0 : Int) (fun z5 =>
    some (((0 : Int), (0 : Int), ()), false, ())) (fun z6 z7 =>
    some (z6, z7, ()))
noncomputable def lv_i_namedFunc_L2 : Lv := [(0, (.v .str)), (2, (.bx (.v (.st (.pair (.int .i64) (.pair (.int .i64) .unit)))))), (6, (.r (.st (.pair .str (.pair .str .unit))))), (7, (.v (.int .i64))), (8, (.v (.int .i64)))]
noncomputable def lv_i_namedFunc_X0 : Lv := [(2, (.bx (.v (.st (.pair (.int .i64) (.pair (.int .i64) .unit))))))]
noncomputable def rv_i_namedFunc : Lv := [(2, (.bx (.v (.st (.pair (.int .i64) (.pair (.int .i64) .unit)))))), (3, (.v .bool))]
noncomputable def gi_namedFunc_l2 {R : Type} (K : Nat) (k : Nat) (x : den lv_i_namedFunc_L2.ty) (kx : Nat → St → Option R) (kr : St → Option R) : Option R := i_namedFunc_l2 K k x.1 x.2.1 x.2.2.1 x.2.2.2.1 x.2.2.2.2.1 (fun z0 => kx 0 (mkSt lv_i_namedFunc_X0 (z0, ()))) (fun z0 z1 => kr (mkSt rv_i_namedFunc (z0, z1, ())))
noncomputable def sg_i_namedFunc {R : Type} (K : Nat) (k : Nat) : List (Nat × SegS R) := []
noncomputable def su_i_namedFunc : List (Nat × Unit) := []
noncomputable def en_i_namedFunc {R : Type} (K : Nat) (k : Nat) : Env R := { L := lk [(2, mkLoop lv_i_namedFunc_L2 (gi_namedFunc_l2 K k))], X := lk [(0, lv_i_namedFunc_X0)], S := lk (sg_i_namedFunc K k), rv := rv_i_namedFunc }
noncomputable def cf_i_namedFunc (K : Nat) : Cfg := { ty := lk tys, fn := lk [(229, sp_i_names (i_names K)), (230, sp_i_readFunc (i_readFunc K))], prot := 0, nt := Try.f165.ntmps }
noncomputable def c_i_namedFunc_L2 : Code := nthC (partsOf (hasK su_i_namedFunc) (bodyOf Try.f165)) 0
theorem ei_namedFunc_l2 {R : Type} (K : Nat) (k : Nat) (x : den lv_i_namedFunc_L2.ty) (kx : Nat → St → Option R) (kr : St → Option R) : gi_namedFunc_l2 K (k + 1) x kx kr = evC (cf_i_namedFunc K) (en_i_namedFunc K k) c_i_namedFunc_L2 (mkSt lv_i_namedFunc_L2 x) (fun s => mkLoop lv_i_namedFunc_L2 (gi_namedFunc_l2 K k) s kx kr) kx kr := by kernel_rfl
theorem si_namedFunc_l2 {R : Type} (K : Nat) (C : Cx) (hP : C.P = Try.prog) (O : CfgOk C (cf_i_namedFunc K)) (k : Nat) : LpS C (R := R) (mkLoop lv_i_namedFunc_L2 (gi_namedFunc_l2 K k)) c_i_namedFunc_L2 :=
  loop_sound O (by rw [hP]; kernel_rfl) (fun x kx kr => rfl) (ei_namedFunc_l2 K) (fun k => lpOk_of (en := en_i_namedFunc K k) (S := hasK su_i_namedFunc) (fun i => hasK_lk (sg_i_namedFunc K k) i) _ (by rw [show partsOf (hasK su_i_namedFunc) c_i_namedFunc_L2 = [] from by kernel_rfl]; exact trivial)) k
theorem e_i_namedFunc (K : Nat) (x : den as_i_namedFunc) : i_namedFunc K x = evFn (cf_i_namedFunc K) as_i_namedFunc [false] (.tup (.pair (.st (.pair (.int .i64) (.pair (.int .i64) .unit))) (.pair .bool .unit))) (en_i_namedFunc K K) Try.f165.results.toList (bodyOf Try.f165) x := by kernel_rfl
theorem ok_i_namedFunc (K : Nat) : FnOk Try.prog 165 (sp_i_namedFunc (i_namedFunc K)) :=
  fn_ok (cf := cf_i_namedFunc K) (en := en_i_namedFunc K K) (c := bodyOf Try.f165) Try.func165 (by kernel_rfl) (by kernel_rfl) tysOk (fns_ok (l := [(229, sp_i_names (i_names K)), (230, sp_i_readFunc (i_readFunc K))]) ⟨ok_i_names K, ⟨ok_i_readFunc K, trivial⟩⟩) (by kernel_rfl) rfl (Nat.le_of_ble_eq_true (by kernel_rfl)) (by kernel_rfl) (of_decide_eq_true (by kernel_rfl)) (by decide) (fun C hP O => lpOk_of (en := en_i_namedFunc K K) (S := hasK su_i_namedFunc) (fun i => hasK_lk (sg_i_namedFunc K K) i) _ (by rw [show partsOf (hasK su_i_namedFunc) (bodyOf Try.f165) = [(true, c_i_namedFunc_L2)] from by kernel_rfl]; exact (lpL_loop (f := mkLoop lv_i_namedFunc_L2 (gi_namedFunc_l2 K K)) (by kernel_rfl) (si_namedFunc_l2 K C hP O K) trivial))) (fun x y h => by rw [← e_i_namedFunc]; exact h)
noncomputable def as_slices_Clone_int64 : Ty := (.pair (.sl (.int .i64)) .unit)
noncomputable def sp_slices_Clone_int64 (F : ((List Int) × Unit) → Option (List Int)) : FnSpec := ⟨as_slices_Clone_int64, [false], (.sl (.int .i64)), F⟩
noncomputable def slices_Clone_int64 (K : Nat) (x : List Int × Unit) : Option (List Int) := if x.1.length ≤ lim then some x.1 else none
noncomputable def ren_slices_Clone_int64 : Go.Shelf.Ren := ⟨fun _ => 252, fun k => bif Nat.beq k 22 then 44 else bif Nat.beq k 23 then 2 else 4, fun k => k⟩
theorem lays_slices_Clone_int64 : SlLaysE0.n41 Try.prog ren_slices_Clone_int64 :=
  ⟨by kernel_rfl, ⟨Try.f252.name, by kernel_rfl, by kernel_rfl⟩, Try.underlying4, Try.isAgg4, Try.sizeOf4, Try.zeroValue4, Try.underlying44, Try.isAgg44, Try.sizeOf44, Try.zeroValue44⟩
theorem ok_slices_Clone_int64 (K : Nat) : FnOk Try.prog 252 (sp_slices_Clone_int64 (slices_Clone_int64 K)) := clone_ok (ty := lk tys) lays_slices_Clone_int64 (tysOk 2 _ rfl) rfl (z := .val (.int .i64) (0 : Int)) rfl rfl (by decide)
noncomputable def i_Func_made_l4 {R : Type} (K : Nat) (r : ((Int × Int × Unit) × Int × (List Int) × (List Int) × Int × ((Int × Unit) → Option Bool) × Unit) → Option Bool) : Nat → (List Int) → ((Int × Unit) → Option Bool) → (Int × Int × Unit) → Int → Int → Int → (((Int × Unit) → Option Bool) → Int → Option R) → Option R
  | 0, _, _, _, _, _, _, _ => none
  | k + 1, v3, v5, v6, v13, v23, v24, kx0 =>
    (if (decide (v24 < v23)) = true then
    (if (bnds v24 (v3.length : Int)) = true then
    (i_Func_at K (v6, (v3.getD v24.toNat (0 : Int)), ())).bind fun y1 =>
    (if (decide ((0 : Int) ≤ v24)) = true then
    i_Func_made_l4 K r k v3 v5 v6 (bitI .or .i64 v13 (shlI .i64 y1 v24)) v23 (IntKind.i64.wrap (v24 + (1 : Int))) kx0
    else
    none)
    else
    none)
    else
    kx0 v5 v13)
noncomputable def i_Func_made_l14 {R : Type} (K : Nat) (r : ((Int × Int × Unit) × Int × (List Int) × (List Int) × Int × ((Int × Unit) → Option Bool) × Unit) → Option Bool) : Nat → Int → (List Int) → (List Int) → Int → ((Int × Unit) → Option Bool) → (Int × Int × Unit) → Int → (List Int) → (List Int) → Int → Int → Int → Int → (Int → (List Int) → (List Int) → Int → ((Int × Unit) → Option Bool) → (Int × Int × Unit) → (List Int) → (List Int) → Int → Int → Option R) → Option R
  | 0, _, _, _, _, _, _, _, _, _, _, _, _, _, _ => none
  | k + 1, v1, v2, v3, v4, v5, v6, v16, v17, v41, v42, v43, v49, v50, kx4 =>
    (if (decide (v50 < v49)) = true then
    (if (bnds v50 (v17.length : Int)) = true then
    (i_bit K (v16, v50, ())).bind fun y6 =>
    (if (decide ((0 : Int) ≤ v4)) = true then
    let x7 := (bitI .or .i64 (v17.getD v50.toNat (0 : Int)) (shlI .i64 y6 v4))
    (if (bnds v50 (v17.length : Int)) = true then
    let l8 := (v17.set v50.toNat x7)
    i_Func_made_l14 K r k v1 v2 v3 v4 v5 v6 v16 l8 v41 v42 v43 v49 (IntKind.i64.wrap (v50 + (1 : Int))) kx4
    else
    none)
    else
    none)
    else
    none)
    else
    kx4 v1 v2 v3 v4 v5 v6 v17 v41 v42 v43)
noncomputable def i_Func_made_l10 {R : Type} (K : Nat) (r : ((Int × Int × Unit) × Int × (List Int) × (List Int) × Int × ((Int × Unit) → Option Bool) × Unit) → Option Bool) : Nat → Int → (List Int) → (List Int) → Int → ((Int × Unit) → Option Bool) → (Int × Int × Unit) → (List Int) → Int → Int → (Option R) → (Bool → Option R) → Option R
  | 0, _, _, _, _, _, _, _, _, _, _, _ => none
  | k + 1, v1, v2, v3, v4, v5, v6, v41, v42, v43, kx2, kr =>
    (if (decide (v43 < v42)) = true then
    (if (bnds v43 (v41.length : Int)) = true then
    (slices_Clone_int64 K (v3, ())).bind fun y5 =>
    i_Func_made_l14 K r k v1 v2 v3 v4 v5 v6 (v41.getD v43.toNat (0 : Int)) y5 v41 v42 v43 v1 (0 : Int) (fun z9 z10 z11 z12 z13 z14 z15 z16 z17 z18 =>
    (r (z14, z9, z10, z15, (IntKind.i64.wrap (z12 + (1 : Int))), z13, ())).bind fun y19 =>
    (if (!y19) = true then
    kr false
    else
    i_Func_made_l10 K r k z9 z10 z11 z12 z13 z14 z16 z17 (IntKind.i64.wrap (z18 + (1 : Int))) kx2 kr))
    else
    none)
    else
    kx2)
noncomputable def i_Func_made_b (K : Nat) (r : ((Int × Int × Unit) × Int × (List Int) × (List Int) × Int × ((Int × Unit) → Option Bool) × Unit) → Option Bool) (x : ((Int × Int × Unit) × Int × (List Int) × (List Int) × Int × ((Int × Unit) → Option Bool) × Unit)) : Option Bool :=
    (if (decide (x.2.2.2.2.1 = x.1.1)) = true then
    i_Func_made_l4 K r K x.2.2.2.1 x.2.2.2.2.2.1 x.1 (0 : Int) x.2.1 (0 : Int) (fun z2 z3 =>
    (z2 (z3, ())).bind fun y4 =>
    some y4)
    else
    i_Func_made_l10 K r K x.2.1 x.2.2.1 x.2.2.2.1 x.2.2.2.2.1 x.2.2.2.2.2.1 x.1 x.2.2.1 (x.2.2.1.length : Int) (0 : Int) (some true) (fun z20 =>
    some z20))
noncomputable def i_Func_made (K : Nat) : Nat → ((Int × Int × Unit) × Int × (List Int) × (List Int) × Int × ((Int × Unit) → Option Bool) × Unit) → Option Bool
  | 0 => fun _ => none
  | k + 1 => i_Func_made_b K (i_Func_made K k)
noncomputable def lv_i_Func_made_L4 : Lv := [(3, (.v (.sl (.int .i64)))), (5, (.v (.fn (.pair (.int .i64) .unit) .bool))), (6, (.bx (.v (.st (.pair (.int .i64) (.pair (.int .i64) .unit)))))), (13, (.v (.int .i64))), (23, (.v (.int .i64))), (24, (.v (.int .i64)))]
noncomputable def lv_i_Func_made_L10 : Lv := [(1, (.v (.int .i64))), (2, (.v (.sl (.int .i64)))), (3, (.v (.sl (.int .i64)))), (4, (.v (.int .i64))), (5, (.v (.fn (.pair (.int .i64) .unit) .bool))), (6, (.bx (.v (.st (.pair (.int .i64) (.pair (.int .i64) .unit)))))), (41, (.v (.sl (.int .i64)))), (42, (.v (.int .i64))), (43, (.v (.int .i64)))]
noncomputable def lv_i_Func_made_L14 : Lv := [(1, (.v (.int .i64))), (2, (.v (.sl (.int .i64)))), (3, (.v (.sl (.int .i64)))), (4, (.v (.int .i64))), (5, (.v (.fn (.pair (.int .i64) .unit) .bool))), (6, (.bx (.v (.st (.pair (.int .i64) (.pair (.int .i64) .unit)))))), (16, (.v (.int .i64))), (17, (.r (.int .i64))), (41, (.v (.sl (.int .i64)))), (42, (.v (.int .i64))), (43, (.v (.int .i64))), (49, (.v (.int .i64))), (50, (.v (.int .i64)))]
noncomputable def lv_i_Func_made_X0 : Lv := [(5, (.v (.fn (.pair (.int .i64) .unit) .bool))), (13, (.v (.int .i64)))]
noncomputable def lv_i_Func_made_X2 : Lv := []
noncomputable def lv_i_Func_made_X4 : Lv := [(1, (.v (.int .i64))), (2, (.v (.sl (.int .i64)))), (3, (.v (.sl (.int .i64)))), (4, (.v (.int .i64))), (5, (.v (.fn (.pair (.int .i64) .unit) .bool))), (6, (.bx (.v (.st (.pair (.int .i64) (.pair (.int .i64) .unit)))))), (17, (.r (.int .i64))), (41, (.v (.sl (.int .i64)))), (42, (.v (.int .i64))), (43, (.v (.int .i64)))]
noncomputable def rv_i_Func_made : Lv := [(12, (.v .bool))]
noncomputable def gi_Func_made_l4 {R : Type} (K : Nat) (r : ((Int × Int × Unit) × Int × (List Int) × (List Int) × Int × ((Int × Unit) → Option Bool) × Unit) → Option Bool) (k : Nat) (x : den lv_i_Func_made_L4.ty) (kx : Nat → St → Option R) (kr : St → Option R) : Option R := i_Func_made_l4 K r k x.1 x.2.1 x.2.2.1 x.2.2.2.1 x.2.2.2.2.1 x.2.2.2.2.2.1 (fun z0 z1 => kx 0 (mkSt lv_i_Func_made_X0 (z0, z1, ())))
noncomputable def gi_Func_made_l14 {R : Type} (K : Nat) (r : ((Int × Int × Unit) × Int × (List Int) × (List Int) × Int × ((Int × Unit) → Option Bool) × Unit) → Option Bool) (k : Nat) (x : den lv_i_Func_made_L14.ty) (kx : Nat → St → Option R) (kr : St → Option R) : Option R := i_Func_made_l14 K r k x.1 x.2.1 x.2.2.1 x.2.2.2.1 x.2.2.2.2.1 x.2.2.2.2.2.1 x.2.2.2.2.2.2.1 x.2.2.2.2.2.2.2.1 x.2.2.2.2.2.2.2.2.1 x.2.2.2.2.2.2.2.2.2.1 x.2.2.2.2.2.2.2.2.2.2.1 x.2.2.2.2.2.2.2.2.2.2.2.1 x.2.2.2.2.2.2.2.2.2.2.2.2.1 (fun z0 z1 z2 z3 z4 z5 z6 z7 z8 z9 => kx 4 (mkSt lv_i_Func_made_X4 (z0, z1, z2, z3, z4, z5, z6, z7, z8, z9, ())))
noncomputable def gi_Func_made_l10 {R : Type} (K : Nat) (r : ((Int × Int × Unit) × Int × (List Int) × (List Int) × Int × ((Int × Unit) → Option Bool) × Unit) → Option Bool) (k : Nat) (x : den lv_i_Func_made_L10.ty) (kx : Nat → St → Option R) (kr : St → Option R) : Option R := i_Func_made_l10 K r k x.1 x.2.1 x.2.2.1 x.2.2.2.1 x.2.2.2.2.1 x.2.2.2.2.2.1 x.2.2.2.2.2.2.1 x.2.2.2.2.2.2.2.1 x.2.2.2.2.2.2.2.2.1 (kx 2 (mkSt lv_i_Func_made_X2 ())) (fun z0 => kr (mkSt rv_i_Func_made (z0, ())))
noncomputable def sg_i_Func_made {R : Type} (K : Nat) (r : ((Int × Int × Unit) × Int × (List Int) × (List Int) × Int × ((Int × Unit) → Option Bool) × Unit) → Option Bool) (k : Nat) : List (Nat × SegS R) := []
noncomputable def su_i_Func_made : List (Nat × Unit) := []
noncomputable def en_i_Func_made {R : Type} (K : Nat) (r : ((Int × Int × Unit) × Int × (List Int) × (List Int) × Int × ((Int × Unit) → Option Bool) × Unit) → Option Bool) (k : Nat) : Env R := { L := lk [(4, mkLoop lv_i_Func_made_L4 (gi_Func_made_l4 K r k)), (14, mkLoop lv_i_Func_made_L14 (gi_Func_made_l14 K r k)), (10, mkLoop lv_i_Func_made_L10 (gi_Func_made_l10 K r k))], X := lk [(0, lv_i_Func_made_X0), (2, lv_i_Func_made_X2), (4, lv_i_Func_made_X4)], S := lk (sg_i_Func_made K r k), rv := rv_i_Func_made }
noncomputable def cf_i_Func_made (K : Nat) (r : ((Int × Int × Unit) × Int × (List Int) × (List Int) × Int × ((Int × Unit) → Option Bool) × Unit) → Option Bool) : Cfg := { ty := lk tys, fn := lk [(170, sp_i_Func_at (i_Func_at K)), (197, sp_i_bit (i_bit K)), (231, sp_i_Func_made (r)), (252, sp_slices_Clone_int64 (slices_Clone_int64 K))], prot := 0, nt := Try.f231.ntmps }
noncomputable def c_i_Func_made_L4 : Code := nthC (partsOf (hasK su_i_Func_made) (bodyOf Try.f231)) 0
noncomputable def c_i_Func_made_L10 : Code := nthC (partsOf (hasK su_i_Func_made) (bodyOf Try.f231)) 1
noncomputable def c_i_Func_made_L14 : Code := nthC (partsOf (hasK su_i_Func_made) c_i_Func_made_L10) 0
theorem ei_Func_made_l4 {R : Type} (K : Nat) (r : ((Int × Int × Unit) × Int × (List Int) × (List Int) × Int × ((Int × Unit) → Option Bool) × Unit) → Option Bool) (k : Nat) (x : den lv_i_Func_made_L4.ty) (kx : Nat → St → Option R) (kr : St → Option R) : gi_Func_made_l4 K r (k + 1) x kx kr = evC (cf_i_Func_made K r) (en_i_Func_made K r k) c_i_Func_made_L4 (mkSt lv_i_Func_made_L4 x) (fun s => mkLoop lv_i_Func_made_L4 (gi_Func_made_l4 K r k) s kx kr) kx kr := by kernel_rfl
theorem si_Func_made_l4 {R : Type} (K : Nat) (r : ((Int × Int × Unit) × Int × (List Int) × (List Int) × Int × ((Int × Unit) → Option Bool) × Unit) → Option Bool) (C : Cx) (hP : C.P = Try.prog) (O : CfgOk C (cf_i_Func_made K r)) (k : Nat) : LpS C (R := R) (mkLoop lv_i_Func_made_L4 (gi_Func_made_l4 K r k)) c_i_Func_made_L4 :=
  loop_sound O (by rw [hP]; kernel_rfl) (fun x kx kr => rfl) (ei_Func_made_l4 K r) (fun k => lpOk_of (en := en_i_Func_made K r k) (S := hasK su_i_Func_made) (fun i => hasK_lk (sg_i_Func_made K r k) i) _ (by rw [show partsOf (hasK su_i_Func_made) c_i_Func_made_L4 = [] from by kernel_rfl]; exact trivial)) k
theorem ei_Func_made_l14 {R : Type} (K : Nat) (r : ((Int × Int × Unit) × Int × (List Int) × (List Int) × Int × ((Int × Unit) → Option Bool) × Unit) → Option Bool) (k : Nat) (x : den lv_i_Func_made_L14.ty) (kx : Nat → St → Option R) (kr : St → Option R) : gi_Func_made_l14 K r (k + 1) x kx kr = evC (cf_i_Func_made K r) (en_i_Func_made K r k) c_i_Func_made_L14 (mkSt lv_i_Func_made_L14 x) (fun s => mkLoop lv_i_Func_made_L14 (gi_Func_made_l14 K r k) s kx kr) kx kr := by kernel_rfl
theorem si_Func_made_l14 {R : Type} (K : Nat) (r : ((Int × Int × Unit) × Int × (List Int) × (List Int) × Int × ((Int × Unit) → Option Bool) × Unit) → Option Bool) (C : Cx) (hP : C.P = Try.prog) (O : CfgOk C (cf_i_Func_made K r)) (k : Nat) : LpS C (R := R) (mkLoop lv_i_Func_made_L14 (gi_Func_made_l14 K r k)) c_i_Func_made_L14 :=
  loop_sound O (by rw [hP]; kernel_rfl) (fun x kx kr => rfl) (ei_Func_made_l14 K r) (fun k => lpOk_of (en := en_i_Func_made K r k) (S := hasK su_i_Func_made) (fun i => hasK_lk (sg_i_Func_made K r k) i) _ (by rw [show partsOf (hasK su_i_Func_made) c_i_Func_made_L14 = [] from by kernel_rfl]; exact trivial)) k
theorem ei_Func_made_l10 {R : Type} (K : Nat) (r : ((Int × Int × Unit) × Int × (List Int) × (List Int) × Int × ((Int × Unit) → Option Bool) × Unit) → Option Bool) (k : Nat) (x : den lv_i_Func_made_L10.ty) (kx : Nat → St → Option R) (kr : St → Option R) : gi_Func_made_l10 K r (k + 1) x kx kr = evC (cf_i_Func_made K r) (en_i_Func_made K r k) c_i_Func_made_L10 (mkSt lv_i_Func_made_L10 x) (fun s => mkLoop lv_i_Func_made_L10 (gi_Func_made_l10 K r k) s kx kr) kx kr := by kernel_rfl
theorem si_Func_made_l10 {R : Type} (K : Nat) (r : ((Int × Int × Unit) × Int × (List Int) × (List Int) × Int × ((Int × Unit) → Option Bool) × Unit) → Option Bool) (C : Cx) (hP : C.P = Try.prog) (O : CfgOk C (cf_i_Func_made K r)) (k : Nat) : LpS C (R := R) (mkLoop lv_i_Func_made_L10 (gi_Func_made_l10 K r k)) c_i_Func_made_L10 :=
  loop_sound O (by rw [hP]; kernel_rfl) (fun x kx kr => rfl) (ei_Func_made_l10 K r) (fun k => lpOk_of (en := en_i_Func_made K r k) (S := hasK su_i_Func_made) (fun i => hasK_lk (sg_i_Func_made K r k) i) _ (by rw [show partsOf (hasK su_i_Func_made) c_i_Func_made_L10 = [(true, c_i_Func_made_L14)] from by kernel_rfl]; exact (lpL_loop (f := mkLoop lv_i_Func_made_L14 (gi_Func_made_l14 K r k)) (by kernel_rfl) (si_Func_made_l14 K r C hP O k) trivial))) k
theorem e_i_Func_made (K : Nat) (r : ((Int × Int × Unit) × Int × (List Int) × (List Int) × Int × ((Int × Unit) → Option Bool) × Unit) → Option Bool) (x : den as_i_Func_made) : i_Func_made_b K r x = evFn (cf_i_Func_made K r) as_i_Func_made [false, false, false, false, false, false] .bool (en_i_Func_made K r K) Try.f231.results.toList (bodyOf Try.f231) x := by kernel_rfl
theorem okb_i_Func_made (K : Nat) (r : ((Int × Int × Unit) × Int × (List Int) × (List Int) × Int × ((Int × Unit) → Option Bool) × Unit) → Option Bool) (hr : FnOk Try.prog 231 (sp_i_Func_made r)) : FnOk Try.prog 231 (sp_i_Func_made (i_Func_made_b K r)) :=
  fn_ok (cf := cf_i_Func_made K r) (en := en_i_Func_made K r K) (c := bodyOf Try.f231) Try.func231 (by kernel_rfl) (by kernel_rfl) tysOk (fns_ok (l := [(170, sp_i_Func_at (i_Func_at K)), (197, sp_i_bit (i_bit K)), (231, sp_i_Func_made (r)), (252, sp_slices_Clone_int64 (slices_Clone_int64 K))]) ⟨ok_i_Func_at K, ⟨ok_i_bit K, ⟨hr, ⟨ok_slices_Clone_int64 K, trivial⟩⟩⟩⟩) (by kernel_rfl) rfl (Nat.le_of_ble_eq_true (by kernel_rfl)) (by kernel_rfl) (of_decide_eq_true (by kernel_rfl)) (by decide) (fun C hP O => lpOk_of (en := en_i_Func_made K r K) (S := hasK su_i_Func_made) (fun i => hasK_lk (sg_i_Func_made K r K) i) _ (by rw [show partsOf (hasK su_i_Func_made) (bodyOf Try.f231) = [(true, c_i_Func_made_L4), (true, c_i_Func_made_L10)] from by kernel_rfl]; exact (lpL_loop (f := mkLoop lv_i_Func_made_L4 (gi_Func_made_l4 K r K)) (by kernel_rfl) (si_Func_made_l4 K r C hP O K) (lpL_loop (f := mkLoop lv_i_Func_made_L10 (gi_Func_made_l10 K r K)) (by kernel_rfl) (si_Func_made_l10 K r C hP O K) trivial)))) (fun x y h => by rw [← e_i_Func_made]; exact h)
theorem ok_i_Func_made (K : Nat) : ∀ k, FnOk Try.prog 231 (sp_i_Func_made (i_Func_made K k))
  | 0 => fnOk_none
  | k + 1 => okb_i_Func_made K (i_Func_made K k) (ok_i_Func_made K k)
noncomputable def as_i_Relation_tuples : Ty := (.pair (.st (.pair (.int .i64) (.pair (.int .i64) .unit))) .unit)
noncomputable def sp_i_Relation_tuples (F : ((Int × Int × Unit) × Unit) → Option (List Int)) : FnSpec := ⟨as_i_Relation_tuples, [false], (.sl (.int .i64)), F⟩
noncomputable def i_Relation_tuples_l3 {R : Type} (K : Nat) : Nat → (Int × Int × Unit) → (List Int) → Int → Int → ((List Int) → Option R) → Option R
  | 0, _, _, _, _, _ => none
  | k + 1, v1, v3, v7, v8, kx0 =>
    (if (decide (v8 < v7)) = true then
    (i_Relation_has K (v1, v8, ())).bind fun y2 =>
    (if y2 = true then
    (if (decide (v3.length + ([v8]).length ≤ lim)) = true then
    let l3 := (v3 ++ [v8])
    i_Relation_tuples_l3 K k v1 l3 v7 (IntKind.i64.wrap (v8 + (1 : Int))) kx0
    else
    none)
    else
    i_Relation_tuples_l3 K k v1 v3 v7 (IntKind.i64.wrap (v8 + (1 : Int))) kx0)
    else
    kx0 v3)
noncomputable def i_Relation_tuples (K : Nat) (x : ((Int × Int × Unit) × Unit)) : Option (List Int) :=
    (i_rowsOf K (x.1.1, ())).bind fun y1 =>
    i_Relation_tuples_l3 K K x.1 ([] : List Int) y1 (0 : Int) (fun z4 =>
    some z4)
noncomputable def lv_i_Relation_tuples_L3 : Lv := [(1, (.bx (.v (.st (.pair (.int .i64) (.pair (.int .i64) .unit)))))), (3, (.r (.int .i64))), (7, (.v (.int .i64))), (8, (.v (.int .i64)))]
noncomputable def lv_i_Relation_tuples_X0 : Lv := [(3, (.r (.int .i64)))]
noncomputable def rv_i_Relation_tuples : Lv := [(2, (.r (.int .i64)))]
noncomputable def gi_Relation_tuples_l3 {R : Type} (K : Nat) (k : Nat) (x : den lv_i_Relation_tuples_L3.ty) (kx : Nat → St → Option R) (kr : St → Option R) : Option R := i_Relation_tuples_l3 K k x.1 x.2.1 x.2.2.1 x.2.2.2.1 (fun z0 => kx 0 (mkSt lv_i_Relation_tuples_X0 (z0, ())))
noncomputable def sg_i_Relation_tuples {R : Type} (K : Nat) (k : Nat) : List (Nat × SegS R) := []
noncomputable def su_i_Relation_tuples : List (Nat × Unit) := []
noncomputable def en_i_Relation_tuples {R : Type} (K : Nat) (k : Nat) : Env R := { L := lk [(3, mkLoop lv_i_Relation_tuples_L3 (gi_Relation_tuples_l3 K k))], X := lk [(0, lv_i_Relation_tuples_X0)], S := lk (sg_i_Relation_tuples K k), rv := rv_i_Relation_tuples }
noncomputable def cf_i_Relation_tuples (K : Nat) : Cfg := { ty := lk tys, fn := lk [(163, sp_i_Relation_has (i_Relation_has K)), (164, sp_i_rowsOf (i_rowsOf K))], prot := 0, nt := Try.f232.ntmps }
noncomputable def c_i_Relation_tuples_L3 : Code := nthC (partsOf (hasK su_i_Relation_tuples) (bodyOf Try.f232)) 0
theorem ei_Relation_tuples_l3 {R : Type} (K : Nat) (k : Nat) (x : den lv_i_Relation_tuples_L3.ty) (kx : Nat → St → Option R) (kr : St → Option R) : gi_Relation_tuples_l3 K (k + 1) x kx kr = evC (cf_i_Relation_tuples K) (en_i_Relation_tuples K k) c_i_Relation_tuples_L3 (mkSt lv_i_Relation_tuples_L3 x) (fun s => mkLoop lv_i_Relation_tuples_L3 (gi_Relation_tuples_l3 K k) s kx kr) kx kr := by kernel_rfl
theorem si_Relation_tuples_l3 {R : Type} (K : Nat) (C : Cx) (hP : C.P = Try.prog) (O : CfgOk C (cf_i_Relation_tuples K)) (k : Nat) : LpS C (R := R) (mkLoop lv_i_Relation_tuples_L3 (gi_Relation_tuples_l3 K k)) c_i_Relation_tuples_L3 :=
  loop_sound O (by rw [hP]; kernel_rfl) (fun x kx kr => rfl) (ei_Relation_tuples_l3 K) (fun k => lpOk_of (en := en_i_Relation_tuples K k) (S := hasK su_i_Relation_tuples) (fun i => hasK_lk (sg_i_Relation_tuples K k) i) _ (by rw [show partsOf (hasK su_i_Relation_tuples) c_i_Relation_tuples_L3 = [] from by kernel_rfl]; exact trivial)) k
theorem e_i_Relation_tuples (K : Nat) (x : den as_i_Relation_tuples) : i_Relation_tuples K x = evFn (cf_i_Relation_tuples K) as_i_Relation_tuples [false] (.sl (.int .i64)) (en_i_Relation_tuples K K) Try.f232.results.toList (bodyOf Try.f232) x := by kernel_rfl
theorem ok_i_Relation_tuples (K : Nat) : FnOk Try.prog 232 (sp_i_Relation_tuples (i_Relation_tuples K)) :=
  fn_ok (cf := cf_i_Relation_tuples K) (en := en_i_Relation_tuples K K) (c := bodyOf Try.f232) Try.func232 (by kernel_rfl) (by kernel_rfl) tysOk (fns_ok (l := [(163, sp_i_Relation_has (i_Relation_has K)), (164, sp_i_rowsOf (i_rowsOf K))]) ⟨ok_i_Relation_has K, ⟨ok_i_rowsOf K, trivial⟩⟩) (by kernel_rfl) rfl (Nat.le_of_ble_eq_true (by kernel_rfl)) (by kernel_rfl) (of_decide_eq_true (by kernel_rfl)) (by decide) (fun C hP O => lpOk_of (en := en_i_Relation_tuples K K) (S := hasK su_i_Relation_tuples) (fun i => hasK_lk (sg_i_Relation_tuples K K) i) _ (by rw [show partsOf (hasK su_i_Relation_tuples) (bodyOf Try.f232) = [(true, c_i_Relation_tuples_L3)] from by kernel_rfl]; exact (lpL_loop (f := mkLoop lv_i_Relation_tuples_L3 (gi_Relation_tuples_l3 K K)) (by kernel_rfl) (si_Relation_tuples_l3 K C hP O K) trivial))) (fun x y h => by rw [← e_i_Relation_tuples]; exact h)
noncomputable def as_i_Func_keeps : Ty := (.pair (.st (.pair (.int .i64) (.pair (.int .i64) .unit))) (.pair (.st (.pair (.int .i64) (.pair (.int .i64) .unit))) .unit))
noncomputable def sp_i_Func_keeps (F : ((Int × Int × Unit) × (Int × Int × Unit) × Unit) → Option Bool) : FnSpec := ⟨as_i_Func_keeps, [false, false], .bool, F⟩
noncomputable def i_Func_keeps (K : Nat) (x : ((Int × Int × Unit) × (Int × Int × Unit) × Unit)) : Option Bool :=
    (i_Relation_tuples K (x.2.1, ())).bind fun y1 =>
    (if (decide (0 ≤ x.2.1.1) && decide (x.2.1.1 ≤ (lim : Int)) && decide (x.2.1.1 = x.2.1.1)) = true then
    let l2 := (List.replicate x.2.1.1.toNat (0 : Int))
    (i_Func_made K K (x.1, x.2.1.1, y1, l2, (0 : Int), (fun y4 => i_Relation_has K (x.2.1, y4.1, ())), ())).bind fun y3 =>
    some y3
    else
    none)
noncomputable def rv_i_Func_keeps : Lv := [(4, (.v .bool))]
noncomputable def sg_i_Func_keeps {R : Type} (K : Nat) (k : Nat) : List (Nat × SegS R) := []
noncomputable def su_i_Func_keeps : List (Nat × Unit) := []
noncomputable def en_i_Func_keeps {R : Type} (K : Nat) (k : Nat) : Env R := { L := lk [], X := lk [], S := lk (sg_i_Func_keeps K k), rv := rv_i_Func_keeps }
noncomputable def cf_i_Func_keeps (K : Nat) : Cfg := { ty := lk tys, fn := lk [(163, sp_i_Relation_has (i_Relation_has K)), (231, sp_i_Func_made (i_Func_made K K)), (232, sp_i_Relation_tuples (i_Relation_tuples K))], prot := 0, nt := Try.f166.ntmps }
theorem e_i_Func_keeps (K : Nat) (x : den as_i_Func_keeps) : i_Func_keeps K x = evFn (cf_i_Func_keeps K) as_i_Func_keeps [false, false] .bool (en_i_Func_keeps K K) Try.f166.results.toList (bodyOf Try.f166) x := by kernel_rfl
theorem ok_i_Func_keeps (K : Nat) : FnOk Try.prog 166 (sp_i_Func_keeps (i_Func_keeps K)) :=
  fn_ok (cf := cf_i_Func_keeps K) (en := en_i_Func_keeps K K) (c := bodyOf Try.f166) Try.func166 (by kernel_rfl) (by kernel_rfl) tysOk (fns_ok (l := [(163, sp_i_Relation_has (i_Relation_has K)), (231, sp_i_Func_made (i_Func_made K K)), (232, sp_i_Relation_tuples (i_Relation_tuples K))]) ⟨ok_i_Relation_has K, ⟨ok_i_Func_made K K, ⟨ok_i_Relation_tuples K, trivial⟩⟩⟩) (by kernel_rfl) rfl (Nat.le_of_ble_eq_true (by kernel_rfl)) (by kernel_rfl) (of_decide_eq_true (by kernel_rfl)) (by decide) (fun C hP O => lpOk_of (en := en_i_Func_keeps K K) (S := hasK su_i_Func_keeps) (fun i => hasK_lk (sg_i_Func_keeps K K) i) _ (by rw [show partsOf (hasK su_i_Func_keeps) (bodyOf Try.f166) = [] from by kernel_rfl]; exact trivial)) (fun x y h => by rw [← e_i_Func_keeps]; exact h)
noncomputable def as_i_easyRow : Ty := (.pair (.st (.pair (.int .i64) (.pair (.int .i64) .unit))) .unit)
noncomputable def sp_i_easyRow (F : ((Int × Int × Unit) × Unit) → Option (List Int)) : FnSpec := ⟨as_i_easyRow, [false], (.sl (.int .i64)), F⟩
noncomputable def i_easyRow_l3 {R : Type} (K : Nat) : Nat → (Int × Int × Unit) → (List Int) → (List ByteArray) → Int → Int → ((List Int) → Option R) → Option R
  | 0, _, _, _, _, _, _ => none
  | k + 1, v1, v3, v19, v20, v21, kx0 =>
    (if (decide (v21 < v20)) = true then
    (if (bnds v21 (v19.length : Int)) = true then
    (i_namedFunc K ((v19.getD v21.toNat ByteArray.empty), ())).bind fun y8 =>
    (i_Func_keeps K (y8.1, v1, ())).bind fun y9 =>
    (i_one K (y9, ())).bind fun y10 =>
    (if (decide (v3.length + ([y10]).length ≤ lim)) = true then
    let l11 := (v3 ++ [y10])
    i_easyRow_l3 K k v1 l11 v19 v20 (IntKind.i64.wrap (v21 + (1 : Int))) kx0
    else
    none)
    else
    none)
    else
    kx0 v3)
noncomputable def i_easyRow (K : Nat) (x : ((Int × Int × Unit) × Unit)) : Option (List Int) :=
    (i_Relation_has K (x.1, (0 : Int), ())).bind fun y1 =>
    (i_one K (y1, ())).bind fun y2 =>
    (i_rowsOf K (x.1.1, ())).bind fun y3 =>
    (i_Relation_has K (x.1, (IntKind.i64.wrap (y3 - (1 : Int))), ())).bind fun y4 =>
    (i_one K (y4, ())).bind fun y5 =>
    let l6 := [y2, y5]
    let l7 := [(⟨#[97, 110, 100]⟩ : ByteArray), (⟨#[111, 114]⟩ : ByteArray), (⟨#[109, 97, 106, 111, 114, 105, 116, 121]⟩ : ByteArray), (⟨#[109, 105, 110, 111, 114, 105, 116, 121]⟩ : ByteArray)]
    i_easyRow_l3 K K x.1 l6 l7 (l7.length : Int) (0 : Int) (fun z12 =>
    some z12)
noncomputable def lv_i_easyRow_L3 : Lv := [(1, (.bx (.v (.st (.pair (.int .i64) (.pair (.int .i64) .unit)))))), (3, (.r (.int .i64))), (19, (.r .str)), (20, (.v (.int .i64))), (21, (.v (.int .i64)))]
noncomputable def lv_i_easyRow_X0 : Lv := [(3, (.r (.int .i64)))]
noncomputable def rv_i_easyRow : Lv := [(2, (.r (.int .i64)))]
noncomputable def gi_easyRow_l3 {R : Type} (K : Nat) (k : Nat) (x : den lv_i_easyRow_L3.ty) (kx : Nat → St → Option R) (kr : St → Option R) : Option R := i_easyRow_l3 K k x.1 x.2.1 x.2.2.1 x.2.2.2.1 x.2.2.2.2.1 (fun z0 => kx 0 (mkSt lv_i_easyRow_X0 (z0, ())))
noncomputable def sg_i_easyRow {R : Type} (K : Nat) (k : Nat) : List (Nat × SegS R) := []
noncomputable def su_i_easyRow : List (Nat × Unit) := []
noncomputable def en_i_easyRow {R : Type} (K : Nat) (k : Nat) : Env R := { L := lk [(3, mkLoop lv_i_easyRow_L3 (gi_easyRow_l3 K k))], X := lk [(0, lv_i_easyRow_X0)], S := lk (sg_i_easyRow K k), rv := rv_i_easyRow }
noncomputable def cf_i_easyRow (K : Nat) : Cfg := { ty := lk tys, fn := lk [(110, sp_i_one (i_one K)), (163, sp_i_Relation_has (i_Relation_has K)), (164, sp_i_rowsOf (i_rowsOf K)), (165, sp_i_namedFunc (i_namedFunc K)), (166, sp_i_Func_keeps (i_Func_keeps K))], prot := 0, nt := Try.f90.ntmps }
noncomputable def c_i_easyRow_L3 : Code := nthC (partsOf (hasK su_i_easyRow) (bodyOf Try.f90)) 0
theorem ei_easyRow_l3 {R : Type} (K : Nat) (k : Nat) (x : den lv_i_easyRow_L3.ty) (kx : Nat → St → Option R) (kr : St → Option R) : gi_easyRow_l3 K (k + 1) x kx kr = evC (cf_i_easyRow K) (en_i_easyRow K k) c_i_easyRow_L3 (mkSt lv_i_easyRow_L3 x) (fun s => mkLoop lv_i_easyRow_L3 (gi_easyRow_l3 K k) s kx kr) kx kr := by kernel_rfl
theorem si_easyRow_l3 {R : Type} (K : Nat) (C : Cx) (hP : C.P = Try.prog) (O : CfgOk C (cf_i_easyRow K)) (k : Nat) : LpS C (R := R) (mkLoop lv_i_easyRow_L3 (gi_easyRow_l3 K k)) c_i_easyRow_L3 :=
  loop_sound O (by rw [hP]; kernel_rfl) (fun x kx kr => rfl) (ei_easyRow_l3 K) (fun k => lpOk_of (en := en_i_easyRow K k) (S := hasK su_i_easyRow) (fun i => hasK_lk (sg_i_easyRow K k) i) _ (by rw [show partsOf (hasK su_i_easyRow) c_i_easyRow_L3 = [] from by kernel_rfl]; exact trivial)) k
theorem e_i_easyRow (K : Nat) (x : den as_i_easyRow) : i_easyRow K x = evFn (cf_i_easyRow K) as_i_easyRow [false] (.sl (.int .i64)) (en_i_easyRow K K) Try.f90.results.toList (bodyOf Try.f90) x := by kernel_rfl
theorem ok_i_easyRow (K : Nat) : FnOk Try.prog 90 (sp_i_easyRow (i_easyRow K)) :=
  fn_ok (cf := cf_i_easyRow K) (en := en_i_easyRow K K) (c := bodyOf Try.f90) Try.func90 (by kernel_rfl) (by kernel_rfl) tysOk (fns_ok (l := [(110, sp_i_one (i_one K)), (163, sp_i_Relation_has (i_Relation_has K)), (164, sp_i_rowsOf (i_rowsOf K)), (165, sp_i_namedFunc (i_namedFunc K)), (166, sp_i_Func_keeps (i_Func_keeps K))]) ⟨ok_i_one K, ⟨ok_i_Relation_has K, ⟨ok_i_rowsOf K, ⟨ok_i_namedFunc K, ⟨ok_i_Func_keeps K, trivial⟩⟩⟩⟩⟩) (by kernel_rfl) rfl (Nat.le_of_ble_eq_true (by kernel_rfl)) (by kernel_rfl) (of_decide_eq_true (by kernel_rfl)) (by decide) (fun C hP O => lpOk_of (en := en_i_easyRow K K) (S := hasK su_i_easyRow) (fun i => hasK_lk (sg_i_easyRow K K) i) _ (by rw [show partsOf (hasK su_i_easyRow) (bodyOf Try.f90) = [(true, c_i_easyRow_L3)] from by kernel_rfl]; exact (lpL_loop (f := mkLoop lv_i_easyRow_L3 (gi_easyRow_l3 K K)) (by kernel_rfl) (si_easyRow_l3 K C hP O K) trivial))) (fun x y h => by rw [← e_i_easyRow]; exact h)
noncomputable def as_i_EasyClasses : Ty := (.pair (.st (.pair (.int .i64) (.pair (.sl (.st (.pair (.st (.pair (.int .i64) (.pair (.int .i64) .unit))) (.pair (.sl (.int .i64)) .unit)))) .unit))) .unit)
noncomputable def sp_i_EasyClasses (F : ((Int × (List ((Int × Int × Unit) × (List Int) × Unit)) × Unit) × Unit) → Option ((List Int) × Int × Unit)) : FnSpec := ⟨as_i_EasyClasses, [false], (.tup (.pair (.sl (.int .i64)) (.pair (.int .i64) .unit))), F⟩
noncomputable def i_EasyClasses_l8 {R : Type} (K : Nat) : Nat → (List Int) → (List ((Int × Int × Unit) × (List Int) × Unit)) → Int → Int → (List Int) → Int → Int → ((List Int) → (List ((Int × Int × Unit) × (List Int) × Unit)) → Int → Int → Option R) → Option R
  | 0, _, _, _, _, _, _, _, _ => none
  | k + 1, v4, v17, v18, v19, v25, v26, v27, kx2 =>
    (if (decide (v27 < v26)) = true then
    (if (bnds v27 (v25.length : Int)) = true then
    (if (bnds v27 (v4.length : Int)) = true then
    let x5 := (bitI .and .i64 (v4.getD v27.toNat (0 : Int)) (v25.getD v27.toNat (0 : Int)))
    (if (bnds v27 (v4.length : Int)) = true then
    let l6 := (v4.set v27.toNat x5)
    i_EasyClasses_l8 K k l6 v17 v18 v19 v25 v26 (IntKind.i64.wrap (v27 + (1 : Int))) kx2
    else
    none)
    else
    none)
    else
    none)
    else
    kx2 v4 v17 v18 v19)
noncomputable def i_EasyClasses_l5 {R : Type} (K : Nat) : Nat → (List Int) → (List ((Int × Int × Unit) × (List Int) × Unit)) → Int → Int → ((List Int) → Option R) → Option R
  | 0, _, _, _, _, _ => none
  | k + 1, v4, v17, v18, v19, kx0 =>
    (if (decide (v19 < v18)) = true then
    (if (bnds v19 (v17.length : Int)) = true then
    let x3 := (v17.getD v19.toNat (((0 : Int), (0 : Int), ()), ([] : List Int), ()))
    (i_easyRow K (x3.1, ())).bind fun y4 =>
    i_EasyClasses_l8 K k v4 v17 v18 v19 y4 (y4.length : Int) (0 : Int) (fun z7 z8 z9 z10 =>
    i_EasyClasses_l5 K k z7 z8 z9 (IntKind.i64.wrap (z10 + (1 : Int))) kx0)
    else
    none)
    else
    kx0 v4)
noncomputable def i_EasyClasses_l15 {R : Type} (K : Nat) : Nat → (List Int) → (List Int) → Int → Int → ((List Int) → Option R) → Option R
  | 0, _, _, _, _, _ => none
  | k + 1, v9, v41, v42, v43, kx4 =>
    (if (decide (v43 < v42)) = true then
    (if (bnds v43 (v41.length : Int)) = true then
    (if (decide ((v41.getD v43.toNat (0 : Int)) = (1 : Int))) = true then
    (if (decide (v9.length + ([v43]).length ≤ lim)) = true then
    let l12 := (v9 ++ [v43])
    i_EasyClasses_l15 K k l12 v41 v42 (IntKind.i64.wrap (v43 + (1 : Int))) kx4
    else
    none)
    else
    i_EasyClasses_l15 K k v9 v41 v42 (IntKind.i64.wrap (v43 + (1 : Int))) kx4)
    else
    none)
    else
    kx4 v9)
noncomputable def i_EasyClasses (K : Nat) (x : ((Int × (List ((Int × Int × Unit) × (List Int) × Unit)) × Unit) × Unit)) : Option ((List Int) × Int × Unit) :=
    (i_IsInstance K (x.1, ())).bind fun y1 =>
    (if (!y1) = true then
    some (([] : List Int), (1 : Int), ())
    else
    let l2 := [(1 : Int), (1 : Int), (1 : Int), (1 : Int), (1 : Int), (1 : Int)]
    i_EasyClasses_l5 K K l2 x.1.2.1 (x.1.2.1.length : Int) (0 : Int) (fun z11 =>
    i_EasyClasses_l15 K K ([] : List Int) z11 (z11.length : Int) (0 : Int) (fun z13 =>
    some (z13, (0 : Int), ()))))
noncomputable def lv_i_EasyClasses_L5 : Lv := [(4, (.r (.int .i64))), (17, (.v (.sl (.st (.pair (.st (.pair (.int .i64) (.pair (.int .i64) .unit))) (.pair (.sl (.int .i64)) .unit)))))), (18, (.v (.int .i64))), (19, (.v (.int .i64)))]
noncomputable def lv_i_EasyClasses_L8 : Lv := [(4, (.r (.int .i64))), (17, (.v (.sl (.st (.pair (.st (.pair (.int .i64) (.pair (.int .i64) .unit))) (.pair (.sl (.int .i64)) .unit)))))), (18, (.v (.int .i64))), (19, (.v (.int .i64))), (25, (.r (.int .i64))), (26, (.v (.int .i64))), (27, (.v (.int .i64)))]
noncomputable def lv_i_EasyClasses_L15 : Lv := [(9, (.r (.int .i64))), (41, (.r (.int .i64))), (42, (.v (.int .i64))), (43, (.v (.int .i64)))]
noncomputable def lv_i_EasyClasses_X0 : Lv := [(4, (.r (.int .i64)))]
noncomputable def lv_i_EasyClasses_X2 : Lv := [(4, (.r (.int .i64))), (17, (.v (.sl (.st (.pair (.st (.pair (.int .i64) (.pair (.int .i64) .unit))) (.pair (.sl (.int .i64)) .unit)))))), (18, (.v (.int .i64))), (19, (.v (.int .i64)))]
noncomputable def lv_i_EasyClasses_X4 : Lv := [(9, (.r (.int .i64)))]
noncomputable def rv_i_EasyClasses : Lv := [(2, (.r (.int .i64))), (3, (.v (.int .i64)))]
noncomputable def gi_EasyClasses_l8 {R : Type} (K : Nat) (k : Nat) (x : den lv_i_EasyClasses_L8.ty) (kx : Nat → St → Option R) (kr : St → Option R) : Option R := i_EasyClasses_l8 K k x.1 x.2.1 x.2.2.1 x.2.2.2.1 x.2.2.2.2.1 x.2.2.2.2.2.1 x.2.2.2.2.2.2.1 (fun z0 z1 z2 z3 => kx 2 (mkSt lv_i_EasyClasses_X2 (z0, z1, z2, z3, ())))
noncomputable def gi_EasyClasses_l5 {R : Type} (K : Nat) (k : Nat) (x : den lv_i_EasyClasses_L5.ty) (kx : Nat → St → Option R) (kr : St → Option R) : Option R := i_EasyClasses_l5 K k x.1 x.2.1 x.2.2.1 x.2.2.2.1 (fun z0 => kx 0 (mkSt lv_i_EasyClasses_X0 (z0, ())))
noncomputable def gi_EasyClasses_l15 {R : Type} (K : Nat) (k : Nat) (x : den lv_i_EasyClasses_L15.ty) (kx : Nat → St → Option R) (kr : St → Option R) : Option R := i_EasyClasses_l15 K k x.1 x.2.1 x.2.2.1 x.2.2.2.1 (fun z0 => kx 4 (mkSt lv_i_EasyClasses_X4 (z0, ())))
noncomputable def sg_i_EasyClasses {R : Type} (K : Nat) (k : Nat) : List (Nat × SegS R) := []
noncomputable def su_i_EasyClasses : List (Nat × Unit) := []
noncomputable def en_i_EasyClasses {R : Type} (K : Nat) (k : Nat) : Env R := { L := lk [(8, mkLoop lv_i_EasyClasses_L8 (gi_EasyClasses_l8 K k)), (5, mkLoop lv_i_EasyClasses_L5 (gi_EasyClasses_l5 K k)), (15, mkLoop lv_i_EasyClasses_L15 (gi_EasyClasses_l15 K k))], X := lk [(0, lv_i_EasyClasses_X0), (2, lv_i_EasyClasses_X2), (4, lv_i_EasyClasses_X4)], S := lk (sg_i_EasyClasses K k), rv := rv_i_EasyClasses }
noncomputable def cf_i_EasyClasses (K : Nat) : Cfg := { ty := lk tys, fn := lk [(89, sp_i_IsInstance (i_IsInstance K)), (90, sp_i_easyRow (i_easyRow K))], prot := 0, nt := Try.f25.ntmps }
noncomputable def c_i_EasyClasses_L5 : Code := nthC (partsOf (hasK su_i_EasyClasses) (bodyOf Try.f25)) 0
noncomputable def c_i_EasyClasses_L8 : Code := nthC (partsOf (hasK su_i_EasyClasses) c_i_EasyClasses_L5) 0
noncomputable def c_i_EasyClasses_L15 : Code := nthC (partsOf (hasK su_i_EasyClasses) (bodyOf Try.f25)) 1
theorem ei_EasyClasses_l8 {R : Type} (K : Nat) (k : Nat) (x : den lv_i_EasyClasses_L8.ty) (kx : Nat → St → Option R) (kr : St → Option R) : gi_EasyClasses_l8 K (k + 1) x kx kr = evC (cf_i_EasyClasses K) (en_i_EasyClasses K k) c_i_EasyClasses_L8 (mkSt lv_i_EasyClasses_L8 x) (fun s => mkLoop lv_i_EasyClasses_L8 (gi_EasyClasses_l8 K k) s kx kr) kx kr := by kernel_rfl
theorem si_EasyClasses_l8 {R : Type} (K : Nat) (C : Cx) (hP : C.P = Try.prog) (O : CfgOk C (cf_i_EasyClasses K)) (k : Nat) : LpS C (R := R) (mkLoop lv_i_EasyClasses_L8 (gi_EasyClasses_l8 K k)) c_i_EasyClasses_L8 :=
  loop_sound O (by rw [hP]; kernel_rfl) (fun x kx kr => rfl) (ei_EasyClasses_l8 K) (fun k => lpOk_of (en := en_i_EasyClasses K k) (S := hasK su_i_EasyClasses) (fun i => hasK_lk (sg_i_EasyClasses K k) i) _ (by rw [show partsOf (hasK su_i_EasyClasses) c_i_EasyClasses_L8 = [] from by kernel_rfl]; exact trivial)) k
theorem ei_EasyClasses_l5 {R : Type} (K : Nat) (k : Nat) (x : den lv_i_EasyClasses_L5.ty) (kx : Nat → St → Option R) (kr : St → Option R) : gi_EasyClasses_l5 K (k + 1) x kx kr = evC (cf_i_EasyClasses K) (en_i_EasyClasses K k) c_i_EasyClasses_L5 (mkSt lv_i_EasyClasses_L5 x) (fun s => mkLoop lv_i_EasyClasses_L5 (gi_EasyClasses_l5 K k) s kx kr) kx kr := by kernel_rfl
theorem si_EasyClasses_l5 {R : Type} (K : Nat) (C : Cx) (hP : C.P = Try.prog) (O : CfgOk C (cf_i_EasyClasses K)) (k : Nat) : LpS C (R := R) (mkLoop lv_i_EasyClasses_L5 (gi_EasyClasses_l5 K k)) c_i_EasyClasses_L5 :=
  loop_sound O (by rw [hP]; kernel_rfl) (fun x kx kr => rfl) (ei_EasyClasses_l5 K) (fun k => lpOk_of (en := en_i_EasyClasses K k) (S := hasK su_i_EasyClasses) (fun i => hasK_lk (sg_i_EasyClasses K k) i) _ (by rw [show partsOf (hasK su_i_EasyClasses) c_i_EasyClasses_L5 = [(true, c_i_EasyClasses_L8)] from by kernel_rfl]; exact (lpL_loop (f := mkLoop lv_i_EasyClasses_L8 (gi_EasyClasses_l8 K k)) (by kernel_rfl) (si_EasyClasses_l8 K C hP O k) trivial))) k
theorem ei_EasyClasses_l15 {R : Type} (K : Nat) (k : Nat) (x : den lv_i_EasyClasses_L15.ty) (kx : Nat → St → Option R) (kr : St → Option R) : gi_EasyClasses_l15 K (k + 1) x kx kr = evC (cf_i_EasyClasses K) (en_i_EasyClasses K k) c_i_EasyClasses_L15 (mkSt lv_i_EasyClasses_L15 x) (fun s => mkLoop lv_i_EasyClasses_L15 (gi_EasyClasses_l15 K k) s kx kr) kx kr := by kernel_rfl
theorem si_EasyClasses_l15 {R : Type} (K : Nat) (C : Cx) (hP : C.P = Try.prog) (O : CfgOk C (cf_i_EasyClasses K)) (k : Nat) : LpS C (R := R) (mkLoop lv_i_EasyClasses_L15 (gi_EasyClasses_l15 K k)) c_i_EasyClasses_L15 :=
  loop_sound O (by rw [hP]; kernel_rfl) (fun x kx kr => rfl) (ei_EasyClasses_l15 K) (fun k => lpOk_of (en := en_i_EasyClasses K k) (S := hasK su_i_EasyClasses) (fun i => hasK_lk (sg_i_EasyClasses K k) i) _ (by rw [show partsOf (hasK su_i_EasyClasses) c_i_EasyClasses_L15 = [] from by kernel_rfl]; exact trivial)) k
theorem e_i_EasyClasses (K : Nat) (x : den as_i_EasyClasses) : i_EasyClasses K x = evFn (cf_i_EasyClasses K) as_i_EasyClasses [false] (.tup (.pair (.sl (.int .i64)) (.pair (.int .i64) .unit))) (en_i_EasyClasses K K) Try.f25.results.toList (bodyOf Try.f25) x := by kernel_rfl
theorem ok_i_EasyClasses (K : Nat) : FnOk Try.prog 25 (sp_i_EasyClasses (i_EasyClasses K)) :=
  fn_ok (cf := cf_i_EasyClasses K) (en := en_i_EasyClasses K K) (c := bodyOf Try.f25) Try.func25 (by kernel_rfl) (by kernel_rfl) tysOk (fns_ok (l := [(89, sp_i_IsInstance (i_IsInstance K)), (90, sp_i_easyRow (i_easyRow K))]) ⟨ok_i_IsInstance K, ⟨ok_i_easyRow K, trivial⟩⟩) (by kernel_rfl) rfl (Nat.le_of_ble_eq_true (by kernel_rfl)) (by kernel_rfl) (of_decide_eq_true (by kernel_rfl)) (by decide) (fun C hP O => lpOk_of (en := en_i_EasyClasses K K) (S := hasK su_i_EasyClasses) (fun i => hasK_lk (sg_i_EasyClasses K K) i) _ (by rw [show partsOf (hasK su_i_EasyClasses) (bodyOf Try.f25) = [(true, c_i_EasyClasses_L5), (true, c_i_EasyClasses_L15)] from by kernel_rfl]; exact (lpL_loop (f := mkLoop lv_i_EasyClasses_L5 (gi_EasyClasses_l5 K K)) (by kernel_rfl) (si_EasyClasses_l5 K C hP O K) (lpL_loop (f := mkLoop lv_i_EasyClasses_L15 (gi_EasyClasses_l15 K K)) (by kernel_rfl) (si_EasyClasses_l15 K C hP O K) trivial)))) (fun x y h => by rw [← e_i_EasyClasses]; exact h)
noncomputable def as_s_l01In : Ty := (.pair (.int .i64) (.pair (.int .i64) (.pair (.int .i64) .unit)))
noncomputable def sp_s_l01In (F : (Int × Int × Int × Unit) → Option Bool) : FnSpec := ⟨as_s_l01In, [false, false, false], .bool, F⟩
noncomputable def s_l01In (K : Nat) (x : (Int × Int × Int × Unit)) : Option Bool :=
    (if (decide (x.1 ≥ x.2.1)) = true then
    some (decide (x.1 ≤ x.2.2.1))
    else
    some false)
noncomputable def rv_s_l01In : Lv := [(6, (.v .bool))]
noncomputable def sg_s_l01In {R : Type} (K : Nat) (k : Nat) : List (Nat × SegS R) := []
noncomputable def su_s_l01In : List (Nat × Unit) := []
noncomputable def en_s_l01In {R : Type} (K : Nat) (k : Nat) : Env R := { L := lk [], X := lk [], S := lk (sg_s_l01In K k), rv := rv_s_l01In }
noncomputable def cf_s_l01In (K : Nat) : Cfg := { ty := lk tys, fn := lk [], prot := 0, nt := Try.f61.ntmps }
theorem e_s_l01In (K : Nat) (x : den as_s_l01In) : s_l01In K x = evFn (cf_s_l01In K) as_s_l01In [false, false, false] .bool (en_s_l01In K K) Try.f61.results.toList (bodyOf Try.f61) x := by kernel_rfl
theorem ok_s_l01In (K : Nat) : FnOk Try.prog 61 (sp_s_l01In (s_l01In K)) :=
  fn_ok (cf := cf_s_l01In K) (en := en_s_l01In K K) (c := bodyOf Try.f61) Try.func61 (by kernel_rfl) (by kernel_rfl) tysOk (fns_ok (l := []) trivial) (by kernel_rfl) rfl (Nat.le_of_ble_eq_true (by kernel_rfl)) (by kernel_rfl) (of_decide_eq_true (by kernel_rfl)) (by decide) (fun C hP O => lpOk_of (en := en_s_l01In K K) (S := hasK su_s_l01In) (fun i => hasK_lk (sg_s_l01In K K) i) _ (by rw [show partsOf (hasK su_s_l01In) (bodyOf Try.f61) = [] from by kernel_rfl]; exact trivial)) (fun x y h => by rw [← e_s_l01In]; exact h)
noncomputable def as_s_l01Rows : Ty := (.pair (.int .i64) .unit)
noncomputable def sp_s_l01Rows (F : (Int × Unit) → Option Int) : FnSpec := ⟨as_s_l01Rows, [false], (.int .i64), F⟩
noncomputable def s_l01Rows (K : Nat) (x : (Int × Unit)) : Option Int :=
    (if (decide ((0 : Int) ≤ (IntKind.u64.wrap x.1))) = true then
    some (shlI .i64 (1 : Int) (IntKind.u64.wrap x.1))
    else
    none)
noncomputable def rv_s_l01Rows : Lv := [(2, (.v (.int .i64)))]
noncomputable def sg_s_l01Rows {R : Type} (K : Nat) (k : Nat) : List (Nat × SegS R) := []
noncomputable def su_s_l01Rows : List (Nat × Unit) := []
noncomputable def en_s_l01Rows {R : Type} (K : Nat) (k : Nat) : Env R := { L := lk [], X := lk [], S := lk (sg_s_l01Rows K k), rv := rv_s_l01Rows }
noncomputable def cf_s_l01Rows (K : Nat) : Cfg := { ty := lk tys, fn := lk [], prot := 0, nt := Try.f154.ntmps }
theorem e_s_l01Rows (K : Nat) (x : den as_s_l01Rows) : s_l01Rows K x = evFn (cf_s_l01Rows K) as_s_l01Rows [false] (.int .i64) (en_s_l01Rows K K) Try.f154.results.toList (bodyOf Try.f154) x := by kernel_rfl
theorem ok_s_l01Rows (K : Nat) : FnOk Try.prog 154 (sp_s_l01Rows (s_l01Rows K)) :=
  fn_ok (cf := cf_s_l01Rows K) (en := en_s_l01Rows K K) (c := bodyOf Try.f154) Try.func154 (by kernel_rfl) (by kernel_rfl) tysOk (fns_ok (l := []) trivial) (by kernel_rfl) rfl (Nat.le_of_ble_eq_true (by kernel_rfl)) (by kernel_rfl) (of_decide_eq_true (by kernel_rfl)) (by decide) (fun C hP O => lpOk_of (en := en_s_l01Rows K K) (S := hasK su_s_l01Rows) (fun i => hasK_lk (sg_s_l01Rows K K) i) _ (by rw [show partsOf (hasK su_s_l01Rows) (bodyOf Try.f154) = [] from by kernel_rfl]; exact trivial)) (fun x y h => by rw [← e_s_l01Rows]; exact h)
noncomputable def as_s_l01All : Ty := (.pair (.int .i64) .unit)
noncomputable def sp_s_l01All (F : (Int × Unit) → Option Int) : FnSpec := ⟨as_s_l01All, [false], (.int .i64), F⟩
noncomputable def s_l01All (K : Nat) (x : (Int × Unit)) : Option Int :=
    (s_l01Rows K (x.1, ())).bind fun y1 =>
    (if (decide ((0 : Int) ≤ (IntKind.u64.wrap y1))) = true then
    let x2 := (IntKind.i64.wrap ((shlI .i64 (1 : Int) (IntKind.u64.wrap y1)) - (1 : Int)))
    some x2
    else
    none)
noncomputable def rv_s_l01All : Lv := [(2, (.v (.int .i64)))]
noncomputable def sg_s_l01All {R : Type} (K : Nat) (k : Nat) : List (Nat × SegS R) := []
noncomputable def su_s_l01All : List (Nat × Unit) := []
noncomputable def en_s_l01All {R : Type} (K : Nat) (k : Nat) : Env R := { L := lk [], X := lk [], S := lk (sg_s_l01All K k), rv := rv_s_l01All }
noncomputable def cf_s_l01All (K : Nat) : Cfg := { ty := lk tys, fn := lk [(154, sp_s_l01Rows (s_l01Rows K))], prot := 0, nt := Try.f111.ntmps }
theorem e_s_l01All (K : Nat) (x : den as_s_l01All) : s_l01All K x = evFn (cf_s_l01All K) as_s_l01All [false] (.int .i64) (en_s_l01All K K) Try.f111.results.toList (bodyOf Try.f111) x := by kernel_rfl
theorem ok_s_l01All (K : Nat) : FnOk Try.prog 111 (sp_s_l01All (s_l01All K)) :=
  fn_ok (cf := cf_s_l01All K) (en := en_s_l01All K K) (c := bodyOf Try.f111) Try.func111 (by kernel_rfl) (by kernel_rfl) tysOk (fns_ok (l := [(154, sp_s_l01Rows (s_l01Rows K))]) ⟨ok_s_l01Rows K, trivial⟩) (by kernel_rfl) rfl (Nat.le_of_ble_eq_true (by kernel_rfl)) (by kernel_rfl) (of_decide_eq_true (by kernel_rfl)) (by decide) (fun C hP O => lpOk_of (en := en_s_l01All K K) (S := hasK su_s_l01All) (fun i => hasK_lk (sg_s_l01All K K) i) _ (by rw [show partsOf (hasK su_s_l01All) (bodyOf Try.f111) = [] from by kernel_rfl]; exact trivial)) (fun x y h => by rw [← e_s_l01All]; exact h)
noncomputable def as_s_l06Is : Ty := (.pair (.st (.pair (.int .i64) (.pair (.int .i64) .unit))) .unit)
noncomputable def sp_s_l06Is (F : ((Int × Int × Unit) × Unit) → Option Bool) : FnSpec := ⟨as_s_l06Is, [false], .bool, F⟩
noncomputable def s_l06Is (K : Nat) (x : ((Int × Int × Unit) × Unit)) : Option Bool :=
    (s_l01In K (x.1.1, (1 : Int), (4 : Int), ())).bind fun y1 =>
    (if y1 = true then
    (s_l01All K (x.1.1, ())).bind fun y2 =>
    (s_l01In K (x.1.2.1, (0 : Int), y2, ())).bind fun y3 =>
    some y3
    else
    some false)
noncomputable def rv_s_l06Is : Lv := [(2, (.v .bool))]
noncomputable def sg_s_l06Is {R : Type} (K : Nat) (k : Nat) : List (Nat × SegS R) := []
noncomputable def su_s_l06Is : List (Nat × Unit) := []
noncomputable def en_s_l06Is {R : Type} (K : Nat) (k : Nat) : Env R := { L := lk [], X := lk [], S := lk (sg_s_l06Is K k), rv := rv_s_l06Is }
noncomputable def cf_s_l06Is (K : Nat) : Cfg := { ty := lk tys, fn := lk [(61, sp_s_l01In (s_l01In K)), (111, sp_s_l01All (s_l01All K))], prot := 0, nt := Try.f152.ntmps }
theorem e_s_l06Is (K : Nat) (x : den as_s_l06Is) : s_l06Is K x = evFn (cf_s_l06Is K) as_s_l06Is [false] .bool (en_s_l06Is K K) Try.f152.results.toList (bodyOf Try.f152) x := by kernel_rfl
theorem ok_s_l06Is (K : Nat) : FnOk Try.prog 152 (sp_s_l06Is (s_l06Is K)) :=
  fn_ok (cf := cf_s_l06Is K) (en := en_s_l06Is K K) (c := bodyOf Try.f152) Try.func152 (by kernel_rfl) (by kernel_rfl) tysOk (fns_ok (l := [(61, sp_s_l01In (s_l01In K)), (111, sp_s_l01All (s_l01All K))]) ⟨ok_s_l01In K, ⟨ok_s_l01All K, trivial⟩⟩) (by kernel_rfl) rfl (Nat.le_of_ble_eq_true (by kernel_rfl)) (by kernel_rfl) (of_decide_eq_true (by kernel_rfl)) (by decide) (fun C hP O => lpOk_of (en := en_s_l06Is K K) (S := hasK su_s_l06Is) (fun i => hasK_lk (sg_s_l06Is K K) i) _ (by rw [show partsOf (hasK su_s_l06Is) (bodyOf Try.f152) = [] from by kernel_rfl]; exact trivial)) (fun x y h => by rw [← e_s_l06Is]; exact h)
noncomputable def as_s_l09Is : Ty := (.pair (.st (.pair (.int .i64) (.pair (.sl (.st (.pair (.st (.pair (.int .i64) (.pair (.int .i64) .unit))) (.pair (.sl (.int .i64)) .unit)))) .unit))) .unit)
noncomputable def sp_s_l09Is (F : ((Int × (List ((Int × Int × Unit) × (List Int) × Unit)) × Unit) × Unit) → Option Bool) : FnSpec := ⟨as_s_l09Is, [false], .bool, F⟩
noncomputable def s_l09Is_l10 {R : Type} (K : Nat) : Nat → (Int × (List ((Int × Int × Unit) × (List Int) × Unit)) × Unit) → Int → ((Int × Int × Unit) × (List Int) × Unit) → Int → ((Int × (List ((Int × Int × Unit) × (List Int) × Unit)) × Unit) → Int → Option R) → (Bool → Option R) → Option R
  | 0, _, _, _, _, _, _ => none
  | k + 1, v1, v3, v4, v5, kx2, kr =>
    (if (decide (v5 < (v4.2.1.length : Int))) = true then
    (if (bnds v5 (v4.2.1.length : Int)) = true then
    (s_l01In K ((v4.2.1.getD v5.toNat (0 : Int)), (0 : Int), (IntKind.i64.wrap (v1.1 - (1 : Int))), ())).bind fun y4 =>
    (if (!y4) = true then
    kr false
    else
    s_l09Is_l10 K k v1 v3 v4 (IntKind.i64.wrap (v5 + (1 : Int))) kx2 kr)
    else
    none)
    else
    kx2 v1 v3)
noncomputable def s_l09Is_j9 {R : Type} (K : Nat) (k : Nat) (v1 : (Int × (List ((Int × Int × Unit) × (List Int) × Unit)) × Unit)) (v3 : Int) (v4 : ((Int × Int × Unit) × (List Int) × Unit)) (kn : (Int × (List ((Int × Int × Unit) × (List Int) × Unit)) × Unit) → Int → Option R) (kr : (Bool → Option R)) : Option R :=
    s_l09Is_l10 K k v1 v3 v4 (0 : Int) (fun z5 z6 =>
    kn z5 z6) (fun z7 =>
    kr z7)
noncomputable def s_l09Is_l4 {R : Type} (K : Nat) : Nat → (Int × (List ((Int × Int × Unit) × (List Int) × Unit)) × Unit) → Int → (Option R) → (Bool → Option R) → Option R
  | 0, _, _, _, _ => none
  | k + 1, v1, v3, kx0, kr =>
    (if (decide (v3 < (v1.2.1.length : Int))) = true then
    (if (bnds v3 (v1.2.1.length : Int)) = true then
    let x2 := (v1.2.1.getD v3.toNat (((0 : Int), (0 : Int), ()), ([] : List Int), ()))
    (s_l06Is K (x2.1, ())).bind fun y3 =>
    (if (!y3) = true then
    kr false
    else
    (if (!decide ((x2.2.1.length : Int) = x2.1.1)) = true then
    kr false
    else
    s_l09Is_j9 K k v1 v3 x2 (fun z8 z9 =>
    s_l09Is_l4 K k z8 (IntKind.i64.wrap (z9 + (1 : Int))) kx0 kr) (fun z10 =>
    kr z10)))
    else
    none)
    else
    kx0)
noncomputable def s_l09Is_j3 {R : Type} (K : Nat) (k : Nat) (v1 : (Int × (List ((Int × Int × Unit) × (List Int) × Unit)) × Unit)) (kn : Option R) (kr : (Bool → Option R)) : Option R :=
    s_l09Is_l4 K k v1 (0 : Int) (kr true) (fun z11 =>
    kr z11)
noncomputable def s_l09Is (K : Nat) (x : ((Int × (List ((Int × Int × Unit) × (List Int) × Unit)) × Unit) × Unit)) : Option Bool :=
    (s_l01In K (x.1.1, (0 : Int), (8 : Int), ())).bind fun y1 =>
    (if (!y1) = true then
    some false
    else
    (if (decide ((x.1.2.1.length : Int) > (12 : Int))) = true then
    some false
    else
    s_l09Is_j3 K K x.1 none (fun z12 =>
    some z12)))
noncomputable def lv_s_l09Is_J3 : Lv := [(1, (.bx (.v (.st (.pair (.int .i64) (.pair (.sl (.st (.pair (.st (.pair (.int .i64) (.pair (.int .i64) .unit))) (.pair (.sl (.int .i64)) .unit)))) .unit))))))]
noncomputable def lv_s_l09Is_J9 : Lv := [(1, (.bx (.v (.st (.pair (.int .i64) (.pair (.sl (.st (.pair (.st (.pair (.int .i64) (.pair (.int .i64) .unit))) (.pair (.sl (.int .i64)) .unit)))) .unit)))))), (3, (.v (.int .i64))), (4, (.bx (.v (.st (.pair (.st (.pair (.int .i64) (.pair (.int .i64) .unit))) (.pair (.sl (.int .i64)) .unit))))))]
noncomputable def lv_s_l09Is_L4 : Lv := [(1, (.bx (.v (.st (.pair (.int .i64) (.pair (.sl (.st (.pair (.st (.pair (.int .i64) (.pair (.int .i64) .unit))) (.pair (.sl (.int .i64)) .unit)))) .unit)))))), (3, (.v (.int .i64)))]
noncomputable def lv_s_l09Is_L10 : Lv := [(1, (.bx (.v (.st (.pair (.int .i64) (.pair (.sl (.st (.pair (.st (.pair (.int .i64) (.pair (.int .i64) .unit))) (.pair (.sl (.int .i64)) .unit)))) .unit)))))), (3, (.v (.int .i64))), (4, (.bx (.v (.st (.pair (.st (.pair (.int .i64) (.pair (.int .i64) .unit))) (.pair (.sl (.int .i64)) .unit)))))), (5, (.v (.int .i64)))]
noncomputable def lv_s_l09Is_N3 : Lv := []
noncomputable def lv_s_l09Is_N9 : Lv := [(1, (.bx (.v (.st (.pair (.int .i64) (.pair (.sl (.st (.pair (.st (.pair (.int .i64) (.pair (.int .i64) .unit))) (.pair (.sl (.int .i64)) .unit)))) .unit)))))), (3, (.v (.int .i64)))]
noncomputable def lv_s_l09Is_X0 : Lv := []
noncomputable def lv_s_l09Is_X2 : Lv := [(1, (.bx (.v (.st (.pair (.int .i64) (.pair (.sl (.st (.pair (.st (.pair (.int .i64) (.pair (.int .i64) .unit))) (.pair (.sl (.int .i64)) .unit)))) .unit)))))), (3, (.v (.int .i64)))]
noncomputable def rv_s_l09Is : Lv := [(2, (.v .bool))]
noncomputable def gs_l09Is_l10 {R : Type} (K : Nat) (k : Nat) (x : den lv_s_l09Is_L10.ty) (kx : Nat → St → Option R) (kr : St → Option R) : Option R := s_l09Is_l10 K k x.1 x.2.1 x.2.2.1 x.2.2.2.1 (fun z0 z1 => kx 2 (mkSt lv_s_l09Is_X2 (z0, z1, ()))) (fun z0 => kr (mkSt rv_s_l09Is (z0, ())))
noncomputable def gs_l09Is_j9 {R : Type} (K : Nat) (k : Nat) (x : den lv_s_l09Is_J9.ty) (kn : den lv_s_l09Is_N9.ty → Option R) (kx : Nat → St → Option R) (kr : St → Option R) : Option R := s_l09Is_j9 K k x.1 x.2.1 x.2.2.1 (fun z0 z1 => kn (z0, z1, ())) (fun z0 => kr (mkSt rv_s_l09Is (z0, ())))
noncomputable def gs_l09Is_l4 {R : Type} (K : Nat) (k : Nat) (x : den lv_s_l09Is_L4.ty) (kx : Nat → St → Option R) (kr : St → Option R) : Option R := s_l09Is_l4 K k x.1 x.2.1 (kx 0 (mkSt lv_s_l09Is_X0 ())) (fun z0 => kr (mkSt rv_s_l09Is (z0, ())))
noncomputable def gs_l09Is_j3 {R : Type} (K : Nat) (k : Nat) (x : den lv_s_l09Is_J3.ty) (kn : den lv_s_l09Is_N3.ty → Option R) (kx : Nat → St → Option R) (kr : St → Option R) : Option R := s_l09Is_j3 K k x.1 (kn ()) (fun z0 => kr (mkSt rv_s_l09Is (z0, ())))
noncomputable def sg_s_l09Is {R : Type} (K : Nat) (k : Nat) : List (Nat × SegS R) := [(9, mkSeg lv_s_l09Is_J9 lv_s_l09Is_N9 (gs_l09Is_j9 K k)), (3, mkSeg lv_s_l09Is_J3 lv_s_l09Is_N3 (gs_l09Is_j3 K k))]
noncomputable def su_s_l09Is : List (Nat × Unit) := [(9, ()), (3, ())]
noncomputable def en_s_l09Is {R : Type} (K : Nat) (k : Nat) : Env R := { L := lk [(10, mkLoop lv_s_l09Is_L10 (gs_l09Is_l10 K k)), (4, mkLoop lv_s_l09Is_L4 (gs_l09Is_l4 K k))], X := lk [(0, lv_s_l09Is_X0), (2, lv_s_l09Is_X2)], S := lk (sg_s_l09Is K k), rv := rv_s_l09Is }
noncomputable def cf_s_l09Is (K : Nat) : Cfg := { ty := lk tys, fn := lk [(61, sp_s_l01In (s_l01In K)), (152, sp_s_l06Is (s_l06Is K))], prot := 0, nt := Try.f86.ntmps }
noncomputable def c_s_l09Is_J3 : Code := nthC (partsOf (hasK su_s_l09Is) (bodyOf Try.f86)) 0
noncomputable def c_s_l09Is_L4 : Code := nthC (partsOf (hasK su_s_l09Is) c_s_l09Is_J3) 0
noncomputable def c_s_l09Is_J9 : Code := nthC (partsOf (hasK su_s_l09Is) c_s_l09Is_L4) 0
noncomputable def c_s_l09Is_L10 : Code := nthC (partsOf (hasK su_s_l09Is) c_s_l09Is_J9) 0
theorem es_l09Is_l10 {R : Type} (K : Nat) (k : Nat) (x : den lv_s_l09Is_L10.ty) (kx : Nat → St → Option R) (kr : St → Option R) : gs_l09Is_l10 K (k + 1) x kx kr = evC (cf_s_l09Is K) (en_s_l09Is K k) c_s_l09Is_L10 (mkSt lv_s_l09Is_L10 x) (fun s => mkLoop lv_s_l09Is_L10 (gs_l09Is_l10 K k) s kx kr) kx kr := by kernel_rfl
theorem ss_l09Is_l10 {R : Type} (K : Nat) (C : Cx) (hP : C.P = Try.prog) (O : CfgOk C (cf_s_l09Is K)) (k : Nat) : LpS C (R := R) (mkLoop lv_s_l09Is_L10 (gs_l09Is_l10 K k)) c_s_l09Is_L10 :=
  loop_sound O (by rw [hP]; kernel_rfl) (fun x kx kr => rfl) (es_l09Is_l10 K) (fun k => lpOk_of (en := en_s_l09Is K k) (S := hasK su_s_l09Is) (fun i => hasK_lk (sg_s_l09Is K k) i) _ (by rw [show partsOf (hasK su_s_l09Is) c_s_l09Is_L10 = [] from by kernel_rfl]; exact trivial)) k
theorem es_l09Is_j9 {R : Type} (K : Nat) (k : Nat) (x : den lv_s_l09Is_J9.ty) (kn : den lv_s_l09Is_N9.ty → Option R) (kx : Nat → St → Option R) (kr : St → Option R) : gs_l09Is_j9 K k x kn kx kr = evC (cf_s_l09Is K) (en_s_l09Is K k) c_s_l09Is_J9 (mkSt lv_s_l09Is_J9 x) (cutK lv_s_l09Is_N9 kn) kx kr := by kernel_rfl
theorem ss_l09Is_j9 {R : Type} (K : Nat) (C : Cx) (hP : C.P = Try.prog) (O : CfgOk C (cf_s_l09Is K)) (k : Nat) : SgS C (R := R) (mkSeg lv_s_l09Is_J9 lv_s_l09Is_N9 (gs_l09Is_j9 K k)) c_s_l09Is_J9 :=
  seg_sound O (by rw [hP]; kernel_rfl) (es_l09Is_j9 K k) (lpOk_of (en := en_s_l09Is K k) (S := hasK su_s_l09Is) (fun i => hasK_lk (sg_s_l09Is K k) i) _ (by rw [show partsOf (hasK su_s_l09Is) c_s_l09Is_J9 = [(true, c_s_l09Is_L10)] from by kernel_rfl]; exact (lpL_loop (f := mkLoop lv_s_l09Is_L10 (gs_l09Is_l10 K k)) (by kernel_rfl) (ss_l09Is_l10 K C hP O k) trivial)))
theorem es_l09Is_l4 {R : Type} (K : Nat) (k : Nat) (x : den lv_s_l09Is_L4.ty) (kx : Nat → St → Option R) (kr : St → Option R) : gs_l09Is_l4 K (k + 1) x kx kr = evC (cf_s_l09Is K) (en_s_l09Is K k) c_s_l09Is_L4 (mkSt lv_s_l09Is_L4 x) (fun s => mkLoop lv_s_l09Is_L4 (gs_l09Is_l4 K k) s kx kr) kx kr := by kernel_rfl
theorem ss_l09Is_l4 {R : Type} (K : Nat) (C : Cx) (hP : C.P = Try.prog) (O : CfgOk C (cf_s_l09Is K)) (k : Nat) : LpS C (R := R) (mkLoop lv_s_l09Is_L4 (gs_l09Is_l4 K k)) c_s_l09Is_L4 :=
  loop_sound O (by rw [hP]; kernel_rfl) (fun x kx kr => rfl) (es_l09Is_l4 K) (fun k => lpOk_of (en := en_s_l09Is K k) (S := hasK su_s_l09Is) (fun i => hasK_lk (sg_s_l09Is K k) i) _ (by rw [show partsOf (hasK su_s_l09Is) c_s_l09Is_L4 = [(false, c_s_l09Is_J9)] from by kernel_rfl]; exact (lpL_seg (f := mkSeg lv_s_l09Is_J9 lv_s_l09Is_N9 (gs_l09Is_j9 K k)) (by kernel_rfl) (ss_l09Is_j9 K C hP O k) trivial))) k
theorem es_l09Is_j3 {R : Type} (K : Nat) (k : Nat) (x : den lv_s_l09Is_J3.ty) (kn : den lv_s_l09Is_N3.ty → Option R) (kx : Nat → St → Option R) (kr : St → Option R) : gs_l09Is_j3 K k x kn kx kr = evC (cf_s_l09Is K) (en_s_l09Is K k) c_s_l09Is_J3 (mkSt lv_s_l09Is_J3 x) (cutK lv_s_l09Is_N3 kn) kx kr := by kernel_rfl
theorem ss_l09Is_j3 {R : Type} (K : Nat) (C : Cx) (hP : C.P = Try.prog) (O : CfgOk C (cf_s_l09Is K)) (k : Nat) : SgS C (R := R) (mkSeg lv_s_l09Is_J3 lv_s_l09Is_N3 (gs_l09Is_j3 K k)) c_s_l09Is_J3 :=
  seg_sound O (by rw [hP]; kernel_rfl) (es_l09Is_j3 K k) (lpOk_of (en := en_s_l09Is K k) (S := hasK su_s_l09Is) (fun i => hasK_lk (sg_s_l09Is K k) i) _ (by rw [show partsOf (hasK su_s_l09Is) c_s_l09Is_J3 = [(true, c_s_l09Is_L4)] from by kernel_rfl]; exact (lpL_loop (f := mkLoop lv_s_l09Is_L4 (gs_l09Is_l4 K k)) (by kernel_rfl) (ss_l09Is_l4 K C hP O k) trivial)))
theorem e_s_l09Is (K : Nat) (x : den as_s_l09Is) : s_l09Is K x = evFn (cf_s_l09Is K) as_s_l09Is [false] .bool (en_s_l09Is K K) Try.f86.results.toList (bodyOf Try.f86) x := by kernel_rfl
theorem ok_s_l09Is (K : Nat) : FnOk Try.prog 86 (sp_s_l09Is (s_l09Is K)) :=
  fn_ok (cf := cf_s_l09Is K) (en := en_s_l09Is K K) (c := bodyOf Try.f86) Try.func86 (by kernel_rfl) (by kernel_rfl) tysOk (fns_ok (l := [(61, sp_s_l01In (s_l01In K)), (152, sp_s_l06Is (s_l06Is K))]) ⟨ok_s_l01In K, ⟨ok_s_l06Is K, trivial⟩⟩) (by kernel_rfl) rfl (Nat.le_of_ble_eq_true (by kernel_rfl)) (by kernel_rfl) (of_decide_eq_true (by kernel_rfl)) (by decide) (fun C hP O => lpOk_of (en := en_s_l09Is K K) (S := hasK su_s_l09Is) (fun i => hasK_lk (sg_s_l09Is K K) i) _ (by rw [show partsOf (hasK su_s_l09Is) (bodyOf Try.f86) = [(false, c_s_l09Is_J3)] from by kernel_rfl]; exact (lpL_seg (f := mkSeg lv_s_l09Is_J3 lv_s_l09Is_N3 (gs_l09Is_j3 K K)) (by kernel_rfl) (ss_l09Is_j3 K C hP O K) trivial))) (fun x y h => by rw [← e_s_l09Is]; exact h)
noncomputable def as_s_l09Has : Ty := (.pair (.st (.pair (.int .i64) (.pair (.int .i64) .unit))) (.pair (.int .i64) .unit))
noncomputable def sp_s_l09Has (F : ((Int × Int × Unit) × Int × Unit) → Option Bool) : FnSpec := ⟨as_s_l09Has, [false, false], .bool, F⟩
noncomputable def s_l09Has (K : Nat) (x : ((Int × Int × Unit) × Int × Unit)) : Option Bool :=
    (if (decide ((0 : Int) ≤ (IntKind.u64.wrap x.2.1))) = true then
    let x1 := (bitI .and .i64 (shrI .i64 x.1.2.1 (IntKind.u64.wrap x.2.1)) (1 : Int))
    some (decide (x1 = (1 : Int)))
    else
    none)
noncomputable def rv_s_l09Has : Lv := [(4, (.v .bool))]
noncomputable def sg_s_l09Has {R : Type} (K : Nat) (k : Nat) : List (Nat × SegS R) := []
noncomputable def su_s_l09Has : List (Nat × Unit) := []
noncomputable def en_s_l09Has {R : Type} (K : Nat) (k : Nat) : Env R := { L := lk [], X := lk [], S := lk (sg_s_l09Has K k), rv := rv_s_l09Has }
noncomputable def cf_s_l09Has (K : Nat) : Cfg := { ty := lk tys, fn := lk [], prot := 0, nt := Try.f153.ntmps }
theorem e_s_l09Has (K : Nat) (x : den as_s_l09Has) : s_l09Has K x = evFn (cf_s_l09Has K) as_s_l09Has [false, false] .bool (en_s_l09Has K K) Try.f153.results.toList (bodyOf Try.f153) x := by kernel_rfl
theorem ok_s_l09Has (K : Nat) : FnOk Try.prog 153 (sp_s_l09Has (s_l09Has K)) :=
  fn_ok (cf := cf_s_l09Has K) (en := en_s_l09Has K K) (c := bodyOf Try.f153) Try.func153 (by kernel_rfl) (by kernel_rfl) tysOk (fns_ok (l := []) trivial) (by kernel_rfl) rfl (Nat.le_of_ble_eq_true (by kernel_rfl)) (by kernel_rfl) (of_decide_eq_true (by kernel_rfl)) (by decide) (fun C hP O => lpOk_of (en := en_s_l09Has K K) (S := hasK su_s_l09Has) (fun i => hasK_lk (sg_s_l09Has K K) i) _ (by rw [show partsOf (hasK su_s_l09Has) (bodyOf Try.f153) = [] from by kernel_rfl]; exact trivial)) (fun x y h => by rw [← e_s_l09Has]; exact h)
noncomputable def as_s_l01Known : Ty := .unit
noncomputable def sp_s_l01Known (F : Unit → Option (List ByteArray)) : FnSpec := ⟨as_s_l01Known, [], (.sl .str), F⟩
noncomputable def s_l01Known (K : Nat) (x : Unit) : Option (List ByteArray) :=
    let l1 := [(⟨#[48, 58, 48]⟩ : ByteArray), (⟨#[48, 58, 49]⟩ : ByteArray), (⟨#[49, 58, 48, 49]⟩ : ByteArray), (⟨#[49, 58, 49, 48]⟩ : ByteArray), (⟨#[50, 58, 48, 48, 48, 49]⟩ : ByteArray), (⟨#[50, 58, 48, 49, 49, 49]⟩ : ByteArray), (⟨#[50, 58, 48, 49, 49, 48]⟩ : ByteArray), (⟨#[50, 58, 49, 49, 49, 48]⟩ : ByteArray), (⟨#[50, 58, 49, 48, 48, 48]⟩ : ByteArray), (⟨#[50, 58, 49, 48, 48, 49]⟩ : ByteArray), (⟨#[50, 58, 49, 48, 49, 49]⟩ : ByteArray), (⟨#[51, 58, 48, 48, 48, 49, 48, 49, 49, 49]⟩ : ByteArray), (⟨#[51, 58, 48, 49, 49, 48, 49, 48, 48, 49]⟩ : ByteArray), (⟨#[51, 58, 48, 48, 48, 49, 49, 48, 49, 49]⟩ : ByteArray)]
    some l1
noncomputable def rv_s_l01Known : Lv := [(0, (.r .str))]
noncomputable def sg_s_l01Known {R : Type} (K : Nat) (k : Nat) : List (Nat × SegS R) := []
noncomputable def su_s_l01Known : List (Nat × Unit) := []
noncomputable def en_s_l01Known {R : Type} (K : Nat) (k : Nat) : Env R := { L := lk [], X := lk [], S := lk (sg_s_l01Known K k), rv := rv_s_l01Known }
noncomputable def cf_s_l01Known (K : Nat) : Cfg := { ty := lk tys, fn := lk [], prot := 0, nt := Try.f187.ntmps }
theorem e_s_l01Known (K : Nat) (x : den as_s_l01Known) : s_l01Known K x = evFn (cf_s_l01Known K) as_s_l01Known [] (.sl .str) (en_s_l01Known K K) Try.f187.results.toList (bodyOf Try.f187) x := by kernel_rfl
theorem ok_s_l01Known (K : Nat) : FnOk Try.prog 187 (sp_s_l01Known (s_l01Known K)) :=
  fn_ok (cf := cf_s_l01Known K) (en := en_s_l01Known K K) (c := bodyOf Try.f187) Try.func187 (by kernel_rfl) (by kernel_rfl) tysOk (fns_ok (l := []) trivial) (by kernel_rfl) rfl (Nat.le_of_ble_eq_true (by kernel_rfl)) (by kernel_rfl) (of_decide_eq_true (by kernel_rfl)) (by decide) (fun C hP O => lpOk_of (en := en_s_l01Known K K) (S := hasK su_s_l01Known) (fun i => hasK_lk (sg_s_l01Known K K) i) _ (by rw [show partsOf (hasK su_s_l01Known) (bodyOf Try.f187) = [] from by kernel_rfl]; exact trivial)) (fun x y h => by rw [← e_s_l01Known]; exact h)
noncomputable def as_s_l01Of : Ty := (.pair (.int .i64) (.pair (.sl (.int .i64)) .unit))
noncomputable def sp_s_l01Of (F : (Int × (List Int) × Unit) → Option (Int × Int × Unit)) : FnSpec := ⟨as_s_l01Of, [false, false], (.st (.pair (.int .i64) (.pair (.int .i64) .unit))), F⟩
noncomputable def s_l01Of_l3 {R : Type} (K : Nat) : Nat → Int → (List Int) → (Int × Int × Unit) → (Int × Int × Unit) → Int → ((Int × Int × Unit) → (Int × Int × Unit) → Option R) → Option R
  | 0, _, _, _, _, _, _ => none
  | k + 1, v0, v1, v4, v5, v6, kx0 =>
    (s_l01Rows K (v0, ())).bind fun y1 =>
    (if (decide (v6 < y1)) = true then
    (if (bnds v6 (v1.length : Int)) = true then
    (if (decide ((0 : Int) ≤ (IntKind.u64.wrap v6))) = true then
    let x2 := (shlI .i64 (v1.getD v6.toNat (0 : Int)) (IntKind.u64.wrap v6))
    s_l01Of_l3 K k v0 v1 v4 (v5.1, (IntKind.i64.wrap (v5.2.1 + x2)), ()) (IntKind.i64.wrap (v6 + (1 : Int))) kx0
    else
    none)
    else
    none)
    else
    kx0 v4 v5)
noncomputable def s_l01Of (K : Nat) (x : (Int × (List Int) × Unit)) : Option (Int × Int × Unit) :=
    s_l01Of_l3 K K x.1 x.2.1 ((0 : Int), (0 : Int), ()) (x.1, ((0 : Int), (0 : Int), ()).2.1, ()) (0 : Int) (fun z3 z4 =>
    some z4)
noncomputable def lv_s_l01Of_L3 : Lv := [(0, (.v (.int .i64))), (1, (.v (.sl (.int .i64)))), (4, (.bx (.v (.st (.pair (.int .i64) (.pair (.int .i64) .unit)))))), (5, (.bx (.v (.st (.pair (.int .i64) (.pair (.int .i64) .unit)))))), (6, (.v (.int .i64)))]
noncomputable def lv_s_l01Of_X0 : Lv := [(4, (.bx (.v (.st (.pair (.int .i64) (.pair (.int .i64) .unit)))))), (5, (.bx (.v (.st (.pair (.int .i64) (.pair (.int .i64) .unit))))))]
noncomputable def rv_s_l01Of : Lv := [(4, (.bx (.v (.st (.pair (.int .i64) (.pair (.int .i64) .unit))))))]
noncomputable def gs_l01Of_l3 {R : Type} (K : Nat) (k : Nat) (x : den lv_s_l01Of_L3.ty) (kx : Nat → St → Option R) (kr : St → Option R) : Option R := s_l01Of_l3 K k x.1 x.2.1 x.2.2.1 x.2.2.2.1 x.2.2.2.2.1 (fun z0 z1 => kx 0 (mkSt lv_s_l01Of_X0 (z0, z1, ())))
noncomputable def sg_s_l01Of {R : Type} (K : Nat) (k : Nat) : List (Nat × SegS R) := []
noncomputable def su_s_l01Of : List (Nat × Unit) := []
noncomputable def en_s_l01Of {R : Type} (K : Nat) (k : Nat) : Env R := { L := lk [(3, mkLoop lv_s_l01Of_L3 (gs_l01Of_l3 K k))], X := lk [(0, lv_s_l01Of_X0)], S := lk (sg_s_l01Of K k), rv := rv_s_l01Of }
noncomputable def cf_s_l01Of (K : Nat) : Cfg := { ty := lk tys, fn := lk [(154, sp_s_l01Rows (s_l01Rows K))], prot := 0, nt := Try.f186.ntmps }
noncomputable def c_s_l01Of_L3 : Code := nthC (partsOf (hasK su_s_l01Of) (bodyOf Try.f186)) 0
theorem es_l01Of_l3 {R : Type} (K : Nat) (k : Nat) (x : den lv_s_l01Of_L3.ty) (kx : Nat → St → Option R) (kr : St → Option R) : gs_l01Of_l3 K (k + 1) x kx kr = evC (cf_s_l01Of K) (en_s_l01Of K k) c_s_l01Of_L3 (mkSt lv_s_l01Of_L3 x) (fun s => mkLoop lv_s_l01Of_L3 (gs_l01Of_l3 K k) s kx kr) kx kr := by kernel_rfl
theorem ss_l01Of_l3 {R : Type} (K : Nat) (C : Cx) (hP : C.P = Try.prog) (O : CfgOk C (cf_s_l01Of K)) (k : Nat) : LpS C (R := R) (mkLoop lv_s_l01Of_L3 (gs_l01Of_l3 K k)) c_s_l01Of_L3 :=
  loop_sound O (by rw [hP]; kernel_rfl) (fun x kx kr => rfl) (es_l01Of_l3 K) (fun k => lpOk_of (en := en_s_l01Of K k) (S := hasK su_s_l01Of) (fun i => hasK_lk (sg_s_l01Of K k) i) _ (by rw [show partsOf (hasK su_s_l01Of) c_s_l01Of_L3 = [] from by kernel_rfl]; exact trivial)) k
theorem e_s_l01Of (K : Nat) (x : den as_s_l01Of) : s_l01Of K x = evFn (cf_s_l01Of K) as_s_l01Of [false, false] (.st (.pair (.int .i64) (.pair (.int .i64) .unit))) (en_s_l01Of K K) Try.f186.results.toList (bodyOf Try.f186) x := by kernel_rfl
theorem ok_s_l01Of (K : Nat) : FnOk Try.prog 186 (sp_s_l01Of (s_l01Of K)) :=
  fn_ok (cf := cf_s_l01Of K) (en := en_s_l01Of K K) (c := bodyOf Try.f186) Try.func186 (by kernel_rfl) (by kernel_rfl) tysOk (fns_ok (l := [(154, sp_s_l01Rows (s_l01Rows K))]) ⟨ok_s_l01Rows K, trivial⟩) (by kernel_rfl) rfl (Nat.le_of_ble_eq_true (by kernel_rfl)) (by kernel_rfl) (of_decide_eq_true (by kernel_rfl)) (by decide) (fun C hP O => lpOk_of (en := en_s_l01Of K K) (S := hasK su_s_l01Of) (fun i => hasK_lk (sg_s_l01Of K K) i) _ (by rw [show partsOf (hasK su_s_l01Of) (bodyOf Try.f186) = [(true, c_s_l01Of_L3)] from by kernel_rfl]; exact (lpL_loop (f := mkLoop lv_s_l01Of_L3 (gs_l01Of_l3 K K)) (by kernel_rfl) (ss_l01Of_l3 K C hP O K) trivial))) (fun x y h => by rw [← e_s_l01Of]; exact h)
noncomputable def as_s_l01Bits : Ty := (.pair (.sl (.int .i64)) .unit)
noncomputable def sp_s_l01Bits (F : ((List Int) × Unit) → Option Bool) : FnSpec := ⟨as_s_l01Bits, [false], .bool, F⟩
noncomputable def s_l01Bits_l2 {R : Type} (K : Nat) : Nat → (List Int) → Int → (Option R) → (Bool → Option R) → Option R
  | 0, _, _, _, _ => none
  | k + 1, v0, v3, kx0, kr =>
    (if (decide (v3 < (v0.length : Int))) = true then
    (if (bnds v3 (v0.length : Int)) = true then
    (s_l01In K ((v0.getD v3.toNat (0 : Int)), (0 : Int), (1 : Int), ())).bind fun y1 =>
    (if (!y1) = true then
    kr false
    else
    s_l01Bits_l2 K k v0 (IntKind.i64.wrap (v3 + (1 : Int))) kx0 kr)
    else
    none)
    else
    kx0)
noncomputable def s_l01Bits (K : Nat) (x : ((List Int) × Unit)) : Option Bool :=
    s_l01Bits_l2 K K x.1 (0 : Int) (some true) (fun z2 =>
    some z2)
noncomputable def lv_s_l01Bits_L2 : Lv := [(0, (.v (.sl (.int .i64)))), (3, (.v (.int .i64)))]
noncomputable def lv_s_l01Bits_X0 : Lv := []
noncomputable def rv_s_l01Bits : Lv := [(2, (.v .bool))]
noncomputable def gs_l01Bits_l2 {R : Type} (K : Nat) (k : Nat) (x : den lv_s_l01Bits_L2.ty) (kx : Nat → St → Option R) (kr : St → Option R) : Option R := s_l01Bits_l2 K k x.1 x.2.1 (kx 0 (mkSt lv_s_l01Bits_X0 ())) (fun z0 => kr (mkSt rv_s_l01Bits (z0, ())))
noncomputable def sg_s_l01Bits {R : Type} (K : Nat) (k : Nat) : List (Nat × SegS R) := []
noncomputable def su_s_l01Bits : List (Nat × Unit) := []
noncomputable def en_s_l01Bits {R : Type} (K : Nat) (k : Nat) : Env R := { L := lk [(2, mkLoop lv_s_l01Bits_L2 (gs_l01Bits_l2 K k))], X := lk [(0, lv_s_l01Bits_X0)], S := lk (sg_s_l01Bits K k), rv := rv_s_l01Bits }
noncomputable def cf_s_l01Bits (K : Nat) : Cfg := { ty := lk tys, fn := lk [(61, sp_s_l01In (s_l01In K))], prot := 0, nt := Try.f236.ntmps }
noncomputable def c_s_l01Bits_L2 : Code := nthC (partsOf (hasK su_s_l01Bits) (bodyOf Try.f236)) 0
theorem es_l01Bits_l2 {R : Type} (K : Nat) (k : Nat) (x : den lv_s_l01Bits_L2.ty) (kx : Nat → St → Option R) (kr : St → Option R) : gs_l01Bits_l2 K (k + 1) x kx kr = evC (cf_s_l01Bits K) (en_s_l01Bits K k) c_s_l01Bits_L2 (mkSt lv_s_l01Bits_L2 x) (fun s => mkLoop lv_s_l01Bits_L2 (gs_l01Bits_l2 K k) s kx kr) kx kr := by kernel_rfl
theorem ss_l01Bits_l2 {R : Type} (K : Nat) (C : Cx) (hP : C.P = Try.prog) (O : CfgOk C (cf_s_l01Bits K)) (k : Nat) : LpS C (R := R) (mkLoop lv_s_l01Bits_L2 (gs_l01Bits_l2 K k)) c_s_l01Bits_L2 :=
  loop_sound O (by rw [hP]; kernel_rfl) (fun x kx kr => rfl) (es_l01Bits_l2 K) (fun k => lpOk_of (en := en_s_l01Bits K k) (S := hasK su_s_l01Bits) (fun i => hasK_lk (sg_s_l01Bits K k) i) _ (by rw [show partsOf (hasK su_s_l01Bits) c_s_l01Bits_L2 = [] from by kernel_rfl]; exact trivial)) k
theorem e_s_l01Bits (K : Nat) (x : den as_s_l01Bits) : s_l01Bits K x = evFn (cf_s_l01Bits K) as_s_l01Bits [false] .bool (en_s_l01Bits K K) Try.f236.results.toList (bodyOf Try.f236) x := by kernel_rfl
theorem ok_s_l01Bits (K : Nat) : FnOk Try.prog 236 (sp_s_l01Bits (s_l01Bits K)) :=
  fn_ok (cf := cf_s_l01Bits K) (en := en_s_l01Bits K K) (c := bodyOf Try.f236) Try.func236 (by kernel_rfl) (by kernel_rfl) tysOk (fns_ok (l := [(61, sp_s_l01In (s_l01In K))]) ⟨ok_s_l01In K, trivial⟩) (by kernel_rfl) rfl (Nat.le_of_ble_eq_true (by kernel_rfl)) (by kernel_rfl) (of_decide_eq_true (by kernel_rfl)) (by decide) (fun C hP O => lpOk_of (en := en_s_l01Bits K K) (S := hasK su_s_l01Bits) (fun i => hasK_lk (sg_s_l01Bits K K) i) _ (by rw [show partsOf (hasK su_s_l01Bits) (bodyOf Try.f236) = [(true, c_s_l01Bits_L2)] from by kernel_rfl]; exact (lpL_loop (f := mkLoop lv_s_l01Bits_L2 (gs_l01Bits_l2 K K)) (by kernel_rfl) (ss_l01Bits_l2 K C hP O K) trivial))) (fun x y h => by rw [← e_s_l01Bits]; exact h)
noncomputable def as_s_l01Read : Ty := (.pair .str .unit)
noncomputable def sp_s_l01Read (F : (ByteArray × Unit) → Option ((Int × Int × Unit) × Bool × Unit)) : FnSpec := ⟨as_s_l01Read, [false], (.tup (.pair (.st (.pair (.int .i64) (.pair (.int .i64) .unit))) (.pair .bool .unit))), F⟩
noncomputable def s_l01Read_l7 {R : Type} (K : Nat) : Nat → ByteArray → (Int × Int × Unit) → Int → (List Int) → Int → ((Int × Int × Unit) → Int → (List Int) → Option R) → Option R
  | 0, _, _, _, _, _, _ => none
  | k + 1, v0, v2, v4, v5, v6, kx0 =>
    (if (decide (v6 < (v0.size : Int))) = true then
    (if (bnds v6 (v0.size : Int)) = true then
    let x6 := (IntKind.i64.wrap ((IntKind.i64.wrap (byteAt v0 v6)) - (48 : Int)))
    (if (decide (v5.length + ([x6]).length ≤ lim)) = true then
    let l7 := (v5 ++ [x6])
    s_l01Read_l7 K k v0 v2 v4 l7 (IntKind.i64.wrap (v6 + (1 : Int))) kx0
    else
    none)
    else
    none)
    else
    kx0 v2 v4 v5)
noncomputable def s_l01Read_j6 {R : Type} (K : Nat) (k : Nat) (v0 : ByteArray) (v2 : (Int × Int × Unit)) (v4 : Int) (v5 : (List Int)) (kn : Option R) (kr : ((Int × Int × Unit) → Bool → Option R)) : Option R :=
    s_l01Read_l7 K k v0 v2 v4 v5 (2 : Int) (fun z8 z9 z10 =>
    (s_l01Bits K (z10, ())).bind fun y11 =>
    (if (!y11) = true then
    kr ((0 : Int), (0 : Int), ()) false
    else
    (s_l01Of K (z9, z10, ())).bind fun y12 =>
    kr y12 true))
noncomputable def s_l01Read_j3 {R : Type} (K : Nat) (k : Nat) (v0 : ByteArray) (v2 : (Int × Int × Unit)) (kn : Option R) (kr : ((Int × Int × Unit) → Bool → Option R)) : Option R :=
    (if (bnds (0 : Int) (v0.size : Int)) = true then
    let x1 := (IntKind.i64.wrap ((IntKind.i64.wrap (byteAt v0 (0 : Int))) - (48 : Int)))
    let l2 := ([] : List Int)
    (s_l01In K (x1, (0 : Int), (4 : Int), ())).bind fun y3 =>
    (if (!y3) = true then
    kr ((0 : Int), (0 : Int), ()) false
    else
    (s_l01Rows K (x1, ())).bind fun y4 =>
    let x5 := (!decide ((v0.size : Int) = (IntKind.i64.wrap ((2 : Int) + y4))))
    (if x5 = true then
    kr ((0 : Int), (0 : Int), ()) false
    else
    s_l01Read_j6 K k v0 v2 x1 l2 none (fun z13 z14 =>
    kr z13 z14)))
    else
    none)
noncomputable def s_l01Read (K : Nat) (x : (ByteArray × Unit)) : Option ((Int × Int × Unit) × Bool × Unit) :=
    (if (decide ((x.1.size : Int) < (3 : Int))) = true then
    some (((0 : Int), (0 : Int), ()), false, ())
    else
    (if (bnds (1 : Int) (x.1.size : Int)) = true then
    (if (!decide ((byteAt x.1 (1 : Int)) = (58 : Int))) = true then
    some (((0 : Int), (0 : Int), ()), false, ())
    else
    s_l01Read_j3 K K x.1 ((0 : Int), (0 : Int), ()) none (fun z15 z16 =>
    some (z15, z16, ())))
    else
    none))
noncomputable def lv_s_l01Read_J3 : Lv := [(0, (.v .str)), (2, (.bx (.v (.st (.pair (.int .i64) (.pair (.int .i64) .unit))))))]
noncomputable def lv_s_l01Read_J6 : Lv := [(0, (.v .str)), (2, (.bx (.v (.st (.pair (.int .i64) (.pair (.int .i64) .unit)))))), (4, (.v (.int .i64))), (5, (.r (.int .i64)))]
noncomputable def lv_s_l01Read_L7 : Lv := [(0, (.v .str)), (2, (.bx (.v (.st (.pair (.int .i64) (.pair (.int .i64) .unit)))))), (4, (.v (.int .i64))), (5, (.r (.int .i64))), (6, (.v (.int .i64)))]
noncomputable def lv_s_l01Read_N3 : Lv := []
noncomputable def lv_s_l01Read_N6 : Lv := []
noncomputable def lv_s_l01Read_X0 : Lv := [(2, (.bx (.v (.st (.pair (.int .i64) (.pair (.int .i64) .unit)))))), (4, (.v (.int .i64))), (5, (.r (.int .i64)))]
noncomputable def rv_s_l01Read : Lv := [(2, (.bx (.v (.st (.pair (.int .i64) (.pair (.int .i64) .unit)))))), (3, (.v .bool))]
noncomputable def gs_l01Read_l7 {R : Type} (K : Nat) (k : Nat) (x : den lv_s_l01Read_L7.ty) (kx : Nat → St → Option R) (kr : St → Option R) : Option R := s_l01Read_l7 K k x.1 x.2.1 x.2.2.1 x.2.2.2.1 x.2.2.2.2.1 (fun z0 z1 z2 => kx 0 (mkSt lv_s_l01Read_X0 (z0, z1, z2, ())))
noncomputable def gs_l01Read_j6 {R : Type} (K : Nat) (k : Nat) (x : den lv_s_l01Read_J6.ty) (kn : den lv_s_l01Read_N6.ty → Option R) (kx : Nat → St → Option R) (kr : St → Option R) : Option R := s_l01Read_j6 K k x.1 x.2.1 x.2.2.1 x.2.2.2.1 (kn ()) (fun z0 z1 => kr (mkSt rv_s_l01Read (z0, z1, ())))
noncomputable def gs_l01Read_j3 {R : Type} (K : Nat) (k : Nat) (x : den lv_s_l01Read_J3.ty) (kn : den lv_s_l01Read_N3.ty → Option R) (kx : Nat → St → Option R) (kr : St → Option R) : Option R := s_l01Read_j3 K k x.1 x.2.1 (kn ()) (fun z0 z1 => kr (mkSt rv_s_l01Read (z0, z1, ())))
noncomputable def sg_s_l01Read {R : Type} (K : Nat) (k : Nat) : List (Nat × SegS R) := [(6, mkSeg lv_s_l01Read_J6 lv_s_l01Read_N6 (gs_l01Read_j6 K k)), (3, mkSeg lv_s_l01Read_J3 lv_s_l01Read_N3 (gs_l01Read_j3 K k))]
noncomputable def su_s_l01Read : List (Nat × Unit) := [(6, ()), (3, ())]
noncomputable def en_s_l01Read {R : Type} (K : Nat) (k : Nat) : Env R := { L := lk [(7, mkLoop lv_s_l01Read_L7 (gs_l01Read_l7 K k))], X := lk [(0, lv_s_l01Read_X0)], S := lk (sg_s_l01Read K k), rv := rv_s_l01Read }
noncomputable def cf_s_l01Read (K : Nat) : Cfg := { ty := lk tys, fn := lk [(61, sp_s_l01In (s_l01In K)), (154, sp_s_l01Rows (s_l01Rows K)), (186, sp_s_l01Of (s_l01Of K)), (236, sp_s_l01Bits (s_l01Bits K))], prot := 0, nt := Try.f188.ntmps }
noncomputable def c_s_l01Read_J3 : Code := nthC (partsOf (hasK su_s_l01Read) (bodyOf Try.f188)) 0
noncomputable def c_s_l01Read_J6 : Code := nthC (partsOf (hasK su_s_l01Read) c_s_l01Read_J3) 0
noncomputable def c_s_l01Read_L7 : Code := nthC (partsOf (hasK su_s_l01Read) c_s_l01Read_J6) 0
theorem es_l01Read_l7 {R : Type} (K : Nat) (k : Nat) (x : den lv_s_l01Read_L7.ty) (kx : Nat → St → Option R) (kr : St → Option R) : gs_l01Read_l7 K (k + 1) x kx kr = evC (cf_s_l01Read K) (en_s_l01Read K k) c_s_l01Read_L7 (mkSt lv_s_l01Read_L7 x) (fun s => mkLoop lv_s_l01Read_L7 (gs_l01Read_l7 K k) s kx kr) kx kr := by kernel_rfl
theorem ss_l01Read_l7 {R : Type} (K : Nat) (C : Cx) (hP : C.P = Try.prog) (O : CfgOk C (cf_s_l01Read K)) (k : Nat) : LpS C (R := R) (mkLoop lv_s_l01Read_L7 (gs_l01Read_l7 K k)) c_s_l01Read_L7 :=
  loop_sound O (by rw [hP]; kernel_rfl) (fun x kx kr => rfl) (es_l01Read_l7 K) (fun k => lpOk_of (en := en_s_l01Read K k) (S := hasK su_s_l01Read) (fun i => hasK_lk (sg_s_l01Read K k) i) _ (by rw [show partsOf (hasK su_s_l01Read) c_s_l01Read_L7 = [] from by kernel_rfl]; exact trivial)) k
theorem es_l01Read_j6 {R : Type} (K : Nat) (k : Nat) (x : den lv_s_l01Read_J6.ty) (kn : den lv_s_l01Read_N6.ty → Option R) (kx : Nat → St → Option R) (kr : St → Option R) : gs_l01Read_j6 K k x kn kx kr = evC (cf_s_l01Read K) (en_s_l01Read K k) c_s_l01Read_J6 (mkSt lv_s_l01Read_J6 x) (cutK lv_s_l01Read_N6 kn) kx kr := by kernel_rfl
theorem ss_l01Read_j6 {R : Type} (K : Nat) (C : Cx) (hP : C.P = Try.prog) (O : CfgOk C (cf_s_l01Read K)) (k : Nat) : SgS C (R := R) (mkSeg lv_s_l01Read_J6 lv_s_l01Read_N6 (gs_l01Read_j6 K k)) c_s_l01Read_J6 :=
  seg_sound O (by rw [hP]; kernel_rfl) (es_l01Read_j6 K k) (lpOk_of (en := en_s_l01Read K k) (S := hasK su_s_l01Read) (fun i => hasK_lk (sg_s_l01Read K k) i) _ (by rw [show partsOf (hasK su_s_l01Read) c_s_l01Read_J6 = [(true, c_s_l01Read_L7)] from by kernel_rfl]; exact (lpL_loop (f := mkLoop lv_s_l01Read_L7 (gs_l01Read_l7 K k)) (by kernel_rfl) (ss_l01Read_l7 K C hP O k) trivial)))
theorem es_l01Read_j3 {R : Type} (K : Nat) (k : Nat) (x : den lv_s_l01Read_J3.ty) (kn : den lv_s_l01Read_N3.ty → Option R) (kx : Nat → St → Option R) (kr : St → Option R) : gs_l01Read_j3 K k x kn kx kr = evC (cf_s_l01Read K) (en_s_l01Read K k) c_s_l01Read_J3 (mkSt lv_s_l01Read_J3 x) (cutK lv_s_l01Read_N3 kn) kx kr := by kernel_rfl
theorem ss_l01Read_j3 {R : Type} (K : Nat) (C : Cx) (hP : C.P = Try.prog) (O : CfgOk C (cf_s_l01Read K)) (k : Nat) : SgS C (R := R) (mkSeg lv_s_l01Read_J3 lv_s_l01Read_N3 (gs_l01Read_j3 K k)) c_s_l01Read_J3 :=
  seg_sound O (by rw [hP]; kernel_rfl) (es_l01Read_j3 K k) (lpOk_of (en := en_s_l01Read K k) (S := hasK su_s_l01Read) (fun i => hasK_lk (sg_s_l01Read K k) i) _ (by rw [show partsOf (hasK su_s_l01Read) c_s_l01Read_J3 = [(false, c_s_l01Read_J6)] from by kernel_rfl]; exact (lpL_seg (f := mkSeg lv_s_l01Read_J6 lv_s_l01Read_N6 (gs_l01Read_j6 K k)) (by kernel_rfl) (ss_l01Read_j6 K C hP O k) trivial)))
theorem e_s_l01Read (K : Nat) (x : den as_s_l01Read) : s_l01Read K x = evFn (cf_s_l01Read K) as_s_l01Read [false] (.tup (.pair (.st (.pair (.int .i64) (.pair (.int .i64) .unit))) (.pair .bool .unit))) (en_s_l01Read K K) Try.f188.results.toList (bodyOf Try.f188) x := by kernel_rfl
theorem ok_s_l01Read (K : Nat) : FnOk Try.prog 188 (sp_s_l01Read (s_l01Read K)) :=
  fn_ok (cf := cf_s_l01Read K) (en := en_s_l01Read K K) (c := bodyOf Try.f188) Try.func188 (by kernel_rfl) (by kernel_rfl) tysOk (fns_ok (l := [(61, sp_s_l01In (s_l01In K)), (154, sp_s_l01Rows (s_l01Rows K)), (186, sp_s_l01Of (s_l01Of K)), (236, sp_s_l01Bits (s_l01Bits K))]) ⟨ok_s_l01In K, ⟨ok_s_l01Rows K, ⟨ok_s_l01Of K, ⟨ok_s_l01Bits K, trivial⟩⟩⟩⟩) (by kernel_rfl) rfl (Nat.le_of_ble_eq_true (by kernel_rfl)) (by kernel_rfl) (of_decide_eq_true (by kernel_rfl)) (by decide) (fun C hP O => lpOk_of (en := en_s_l01Read K K) (S := hasK su_s_l01Read) (fun i => hasK_lk (sg_s_l01Read K K) i) _ (by rw [show partsOf (hasK su_s_l01Read) (bodyOf Try.f188) = [(false, c_s_l01Read_J3)] from by kernel_rfl]; exact (lpL_seg (f := mkSeg lv_s_l01Read_J3 lv_s_l01Read_N3 (gs_l01Read_j3 K K)) (by kernel_rfl) (ss_l01Read_j3 K C hP O K) trivial))) (fun x y h => by rw [← e_s_l01Read]; exact h)
noncomputable def as_s_l01Names : Ty := .unit
noncomputable def sp_s_l01Names (F : Unit → Option (List ByteArray)) : FnSpec := ⟨as_s_l01Names, [], (.sl .str), F⟩
noncomputable def s_l01Names (K : Nat) (x : Unit) : Option (List ByteArray) :=
    let l1 := [(⟨#[122, 101, 114, 111]⟩ : ByteArray), (⟨#[111, 110, 101]⟩ : ByteArray), (⟨#[105, 100]⟩ : ByteArray), (⟨#[110, 111, 116]⟩ : ByteArray), (⟨#[97, 110, 100]⟩ : ByteArray), (⟨#[111, 114]⟩ : ByteArray), (⟨#[120, 111, 114]⟩ : ByteArray), (⟨#[110, 97, 110, 100]⟩ : ByteArray), (⟨#[110, 111, 114]⟩ : ByteArray), (⟨#[101, 113, 117, 97, 108]⟩ : ByteArray), (⟨#[105, 109, 112, 108, 121]⟩ : ByteArray), (⟨#[109, 97, 106, 111, 114, 105, 116, 121]⟩ : ByteArray), (⟨#[109, 105, 110, 111, 114, 105, 116, 121]⟩ : ByteArray), (⟨#[105, 102]⟩ : ByteArray)]
    some l1
noncomputable def rv_s_l01Names : Lv := [(0, (.r .str))]
noncomputable def sg_s_l01Names {R : Type} (K : Nat) (k : Nat) : List (Nat × SegS R) := []
noncomputable def su_s_l01Names : List (Nat × Unit) := []
noncomputable def en_s_l01Names {R : Type} (K : Nat) (k : Nat) : Env R := { L := lk [], X := lk [], S := lk (sg_s_l01Names K k), rv := rv_s_l01Names }
noncomputable def cf_s_l01Names (K : Nat) : Cfg := { ty := lk tys, fn := lk [], prot := 0, nt := Try.f222.ntmps }
theorem e_s_l01Names (K : Nat) (x : den as_s_l01Names) : s_l01Names K x = evFn (cf_s_l01Names K) as_s_l01Names [] (.sl .str) (en_s_l01Names K K) Try.f222.results.toList (bodyOf Try.f222) x := by kernel_rfl
theorem ok_s_l01Names (K : Nat) : FnOk Try.prog 222 (sp_s_l01Names (s_l01Names K)) :=
  fn_ok (cf := cf_s_l01Names K) (en := en_s_l01Names K K) (c := bodyOf Try.f222) Try.func222 (by kernel_rfl) (by kernel_rfl) tysOk (fns_ok (l := []) trivial) (by kernel_rfl) rfl (Nat.le_of_ble_eq_true (by kernel_rfl)) (by kernel_rfl) (of_decide_eq_true (by kernel_rfl)) (by decide) (fun C hP O => lpOk_of (en := en_s_l01Names K K) (S := hasK su_s_l01Names) (fun i => hasK_lk (sg_s_l01Names K K) i) _ (by rw [show partsOf (hasK su_s_l01Names) (bodyOf Try.f222) = [] from by kernel_rfl]; exact trivial)) (fun x y h => by rw [← e_s_l01Names]; exact h)
noncomputable def as_s_NamedFunc : Ty := (.pair .str .unit)
noncomputable def sp_s_NamedFunc (F : (ByteArray × Unit) → Option ((Int × Int × Unit) × Int × Unit)) : FnSpec := ⟨as_s_NamedFunc, [false], (.tup (.pair (.st (.pair (.int .i64) (.pair (.int .i64) .unit))) (.pair (.int .i64) .unit))), F⟩
noncomputable def s_NamedFunc_l3 {R : Type} (K : Nat) : Nat → ByteArray → (Int × Int × Unit) → (List ByteArray) → (List ByteArray) → Int → ((Int × Int × Unit) → Option R) → ((Int × Int × Unit) → Int → Option R) → Option R
  | 0, _, _, _, _, _, _, _ => none
  | k + 1, v0, v2, v4, v5, v6, kx0, kr =>
    (if (decide (v6 < (v4.length : Int))) = true then
    (if (bnds v6 (v4.length : Int)) = true then
    (if (cmpS .eql (v4.getD v6.toNat ByteArray.empty) v0) = true then
    (if (bnds v6 (v5.length : Int)) = true then
    (s_l01Read K ((v5.getD v6.toNat ByteArray.empty), ())).bind fun y3 =>
    kr y3.1 (0 : Int)
    else
    none)
    else
    s_NamedFunc_l3 K k v0 v2 v4 v5 (IntKind.i64.wrap (v6 + (1 : Int))) kx0 kr)
    else
    none)
    else
    kx0 v2)
noncomputable def s_NamedFunc (K : Nat) (x : (ByteArray × Unit)) : Option ((Int × Int × Unit) × Int × Unit) :=
    (s_l01Names K ()).bind fun y1 =>
    (s_l01Known K ()).bind fun y2 =>
    s_NamedFunc_l3 K K x.1 ((0 : Int), (0 : Int), ()) y1 y2 (0 : Int) (fun z4 =>
    some (((0 : Int), (0 : Int), ()), (4 : Int), ())) (fun z5 z6 =>
    some (z5, z6, ()))
noncomputable def lv_s_NamedFunc_L3 : Lv := [(0, (.v .str)), (2, (.bx (.v (.st (.pair (.int .i64) (.pair (.int .i64) .unit)))))), (4, (.r .str)), (5, (.r .str)), (6, (.v (.int .i64)))]
noncomputable def lv_s_NamedFunc_X0 : Lv := [(2, (.bx (.v (.st (.pair (.int .i64) (.pair (.int .i64) .unit))))))]
noncomputable def rv_s_NamedFunc : Lv := [(2, (.bx (.v (.st (.pair (.int .i64) (.pair (.int .i64) .unit)))))), (3, (.v (.int .i64)))]
noncomputable def gs_NamedFunc_l3 {R : Type} (K : Nat) (k : Nat) (x : den lv_s_NamedFunc_L3.ty) (kx : Nat → St → Option R) (kr : St → Option R) : Option R := s_NamedFunc_l3 K k x.1 x.2.1 x.2.2.1 x.2.2.2.1 x.2.2.2.2.1 (fun z0 => kx 0 (mkSt lv_s_NamedFunc_X0 (z0, ()))) (fun z0 z1 => kr (mkSt rv_s_NamedFunc (z0, z1, ())))
noncomputable def sg_s_NamedFunc {R : Type} (K : Nat) (k : Nat) : List (Nat × SegS R) := []
noncomputable def su_s_NamedFunc : List (Nat × Unit) := []
noncomputable def en_s_NamedFunc {R : Type} (K : Nat) (k : Nat) : Env R := { L := lk [(3, mkLoop lv_s_NamedFunc_L3 (gs_NamedFunc_l3 K k))], X := lk [(0, lv_s_NamedFunc_X0)], S := lk (sg_s_NamedFunc K k), rv := rv_s_NamedFunc }
noncomputable def cf_s_NamedFunc (K : Nat) : Cfg := { ty := lk tys, fn := lk [(187, sp_s_l01Known (s_l01Known K)), (188, sp_s_l01Read (s_l01Read K)), (222, sp_s_l01Names (s_l01Names K))], prot := 0, nt := Try.f155.ntmps }
noncomputable def c_s_NamedFunc_L3 : Code := nthC (partsOf (hasK su_s_NamedFunc) (bodyOf Try.f155)) 0
theorem es_NamedFunc_l3 {R : Type} (K : Nat) (k : Nat) (x : den lv_s_NamedFunc_L3.ty) (kx : Nat → St → Option R) (kr : St → Option R) : gs_NamedFunc_l3 K (k + 1) x kx kr = evC (cf_s_NamedFunc K) (en_s_NamedFunc K k) c_s_NamedFunc_L3 (mkSt lv_s_NamedFunc_L3 x) (fun s => mkLoop lv_s_NamedFunc_L3 (gs_NamedFunc_l3 K k) s kx kr) kx kr := by kernel_rfl
theorem ss_NamedFunc_l3 {R : Type} (K : Nat) (C : Cx) (hP : C.P = Try.prog) (O : CfgOk C (cf_s_NamedFunc K)) (k : Nat) : LpS C (R := R) (mkLoop lv_s_NamedFunc_L3 (gs_NamedFunc_l3 K k)) c_s_NamedFunc_L3 :=
  loop_sound O (by rw [hP]; kernel_rfl) (fun x kx kr => rfl) (es_NamedFunc_l3 K) (fun k => lpOk_of (en := en_s_NamedFunc K k) (S := hasK su_s_NamedFunc) (fun i => hasK_lk (sg_s_NamedFunc K k) i) _ (by rw [show partsOf (hasK su_s_NamedFunc) c_s_NamedFunc_L3 = [] from by kernel_rfl]; exact trivial)) k
theorem e_s_NamedFunc (K : Nat) (x : den as_s_NamedFunc) : s_NamedFunc K x = evFn (cf_s_NamedFunc K) as_s_NamedFunc [false] (.tup (.pair (.st (.pair (.int .i64) (.pair (.int .i64) .unit))) (.pair (.int .i64) .unit))) (en_s_NamedFunc K K) Try.f155.results.toList (bodyOf Try.f155) x := by kernel_rfl
theorem ok_s_NamedFunc (K : Nat) : FnOk Try.prog 155 (sp_s_NamedFunc (s_NamedFunc K)) :=
  fn_ok (cf := cf_s_NamedFunc K) (en := en_s_NamedFunc K K) (c := bodyOf Try.f155) Try.func155 (by kernel_rfl) (by kernel_rfl) tysOk (fns_ok (l := [(187, sp_s_l01Known (s_l01Known K)), (188, sp_s_l01Read (s_l01Read K)), (222, sp_s_l01Names (s_l01Names K))]) ⟨ok_s_l01Known K, ⟨ok_s_l01Read K, ⟨ok_s_l01Names K, trivial⟩⟩⟩) (by kernel_rfl) rfl (Nat.le_of_ble_eq_true (by kernel_rfl)) (by kernel_rfl) (of_decide_eq_true (by kernel_rfl)) (by decide) (fun C hP O => lpOk_of (en := en_s_NamedFunc K K) (S := hasK su_s_NamedFunc) (fun i => hasK_lk (sg_s_NamedFunc K K) i) _ (by rw [show partsOf (hasK su_s_NamedFunc) (bodyOf Try.f155) = [(true, c_s_NamedFunc_L3)] from by kernel_rfl]; exact (lpL_loop (f := mkLoop lv_s_NamedFunc_L3 (gs_NamedFunc_l3 K K)) (by kernel_rfl) (ss_NamedFunc_l3 K C hP O K) trivial))) (fun x y h => by rw [← e_s_NamedFunc]; exact h)
noncomputable def as_s_l01Own : Ty := (.pair (.sl (.int .i64)) .unit)
noncomputable def sp_s_l01Own (F : ((List Int) × Unit) → Option (List Int)) : FnSpec := ⟨as_s_l01Own, [false], (.sl (.int .i64)), F⟩
noncomputable def s_l01Own (K : Nat) (x : ((List Int) × Unit)) : Option (List Int) :=
    let l1 := ([] : List Int)
    (if (decide (l1.length + x.1.length ≤ lim)) = true then
    let l2 := (l1 ++ x.1)
    some l2
    else
    none)
noncomputable def rv_s_l01Own : Lv := [(2, (.r (.int .i64)))]
noncomputable def sg_s_l01Own {R : Type} (K : Nat) (k : Nat) : List (Nat × SegS R) := []
noncomputable def su_s_l01Own : List (Nat × Unit) := []
noncomputable def en_s_l01Own {R : Type} (K : Nat) (k : Nat) : Env R := { L := lk [], X := lk [], S := lk (sg_s_l01Own K k), rv := rv_s_l01Own }
noncomputable def cf_s_l01Own (K : Nat) : Cfg := { ty := lk tys, fn := lk [], prot := 0, nt := Try.f211.ntmps }
theorem e_s_l01Own (K : Nat) (x : den as_s_l01Own) : s_l01Own K x = evFn (cf_s_l01Own K) as_s_l01Own [false] (.sl (.int .i64)) (en_s_l01Own K K) Try.f211.results.toList (bodyOf Try.f211) x := by kernel_rfl
theorem ok_s_l01Own (K : Nat) : FnOk Try.prog 211 (sp_s_l01Own (s_l01Own K)) :=
  fn_ok (cf := cf_s_l01Own K) (en := en_s_l01Own K K) (c := bodyOf Try.f211) Try.func211 (by kernel_rfl) (by kernel_rfl) tysOk (fns_ok (l := []) trivial) (by kernel_rfl) rfl (Nat.le_of_ble_eq_true (by kernel_rfl)) (by kernel_rfl) (of_decide_eq_true (by kernel_rfl)) (by decide) (fun C hP O => lpOk_of (en := en_s_l01Own K K) (S := hasK su_s_l01Own) (fun i => hasK_lk (sg_s_l01Own K K) i) _ (by rw [show partsOf (hasK su_s_l01Own) (bodyOf Try.f211) = [] from by kernel_rfl]; exact trivial)) (fun x y h => by rw [← e_s_l01Own]; exact h)
noncomputable def as_s_l01At : Ty := (.pair (.st (.pair (.int .i64) (.pair (.int .i64) .unit))) (.pair (.int .i64) .unit))
noncomputable def sp_s_l01At (F : ((Int × Int × Unit) × Int × Unit) → Option Int) : FnSpec := ⟨as_s_l01At, [false, false], (.int .i64), F⟩
noncomputable def s_l01At (K : Nat) (x : ((Int × Int × Unit) × Int × Unit)) : Option Int :=
    (if (decide ((0 : Int) ≤ (IntKind.u64.wrap x.2.1))) = true then
    let x1 := (bitI .and .i64 (shrI .i64 x.1.2.1 (IntKind.u64.wrap x.2.1)) (1 : Int))
    some x1
    else
    none)
noncomputable def rv_s_l01At : Lv := [(4, (.v (.int .i64)))]
noncomputable def sg_s_l01At {R : Type} (K : Nat) (k : Nat) : List (Nat × SegS R) := []
noncomputable def su_s_l01At : List (Nat × Unit) := []
noncomputable def en_s_l01At {R : Type} (K : Nat) (k : Nat) : Env R := { L := lk [], X := lk [], S := lk (sg_s_l01At K k), rv := rv_s_l01At }
noncomputable def cf_s_l01At (K : Nat) : Cfg := { ty := lk tys, fn := lk [], prot := 0, nt := Try.f105.ntmps }
theorem e_s_l01At (K : Nat) (x : den as_s_l01At) : s_l01At K x = evFn (cf_s_l01At K) as_s_l01At [false, false] (.int .i64) (en_s_l01At K K) Try.f105.results.toList (bodyOf Try.f105) x := by kernel_rfl
theorem ok_s_l01At (K : Nat) : FnOk Try.prog 105 (sp_s_l01At (s_l01At K)) :=
  fn_ok (cf := cf_s_l01At K) (en := en_s_l01At K K) (c := bodyOf Try.f105) Try.func105 (by kernel_rfl) (by kernel_rfl) tysOk (fns_ok (l := []) trivial) (by kernel_rfl) rfl (Nat.le_of_ble_eq_true (by kernel_rfl)) (by kernel_rfl) (of_decide_eq_true (by kernel_rfl)) (by decide) (fun C hP O => lpOk_of (en := en_s_l01At K K) (S := hasK su_s_l01At) (fun i => hasK_lk (sg_s_l01At K K) i) _ (by rw [show partsOf (hasK su_s_l01At) (bodyOf Try.f105) = [] from by kernel_rfl]; exact trivial)) (fun x y h => by rw [← e_s_l01At]; exact h)
noncomputable def as_s_l06Value : Ty := (.pair (.st (.pair (.int .i64) (.pair (.int .i64) .unit))) (.pair (.sl (.int .i64)) (.pair (.int .i64) .unit)))
noncomputable def sp_s_l06Value (F : ((Int × Int × Unit) × (List Int) × Int × Unit) → Option Int) : FnSpec := ⟨as_s_l06Value, [false, false, false], (.int .i64), F⟩
noncomputable def s_l06Value_l7 {R : Type} (K : Nat) : Nat → (List Int) → Int → (Int × Int × Unit) → Int → Int → Int → Int → ((List Int) → Int → (Int × Int × Unit) → Int → Int → Int → Option R) → Option R
  | 0, _, _, _, _, _, _, _, _ => none
  | k + 1, v1, v2, v3, v7, v8, v9, v10, kx2 =>
    (if (decide (v10 < (v1.length : Int))) = true then
    (if (bnds v10 (v1.length : Int)) = true then
    (if (decide ((0 : Int) ≤ (IntKind.u64.wrap v8))) = true then
    let x1 := (shrI .i64 (v1.getD v10.toNat (0 : Int)) (IntKind.u64.wrap v8))
    (if (decide ((0 : Int) ≤ (IntKind.u64.wrap v10))) = true then
    let x2 := (shlI .i64 (bitI .and .i64 x1 (1 : Int)) (IntKind.u64.wrap v10))
    s_l06Value_l7 K k v1 v2 v3 v7 v8 (bitI .or .i64 v9 x2) (IntKind.i64.wrap (v10 + (1 : Int))) kx2
    else
    none)
    else
    none)
    else
    none)
    else
    kx2 v1 v2 v3 v7 v8 v9)
noncomputable def s_l06Value_l3 {R : Type} (K : Nat) : Nat → (List Int) → Int → (Int × Int × Unit) → Int → Int → (Int → Option R) → Option R
  | 0, _, _, _, _, _, _ => none
  | k + 1, v1, v2, v3, v7, v8, kx0 =>
    (if (decide (v8 < v2)) = true then
    s_l06Value_l7 K k v1 v2 v3 v7 v8 (0 : Int) (0 : Int) (fun z3 z4 z5 z6 z7 z8 =>
    (s_l01At K (z5, z8, ())).bind fun y9 =>
    (if (decide ((0 : Int) ≤ (IntKind.u64.wrap z7))) = true then
    s_l06Value_l3 K k z3 z4 z5 (bitI .or .i64 z6 (shlI .i64 y9 (IntKind.u64.wrap z7))) (IntKind.i64.wrap (z7 + (1 : Int))) kx0
    else
    none))
    else
    kx0 v7)
noncomputable def s_l06Value (K : Nat) (x : ((Int × Int × Unit) × (List Int) × Int × Unit)) : Option Int :=
    s_l06Value_l3 K K x.2.1 x.2.2.1 x.1 (0 : Int) (0 : Int) (fun z10 =>
    some z10)
noncomputable def lv_s_l06Value_L3 : Lv := [(1, (.v (.sl (.int .i64)))), (2, (.v (.int .i64))), (3, (.bx (.v (.st (.pair (.int .i64) (.pair (.int .i64) .unit)))))), (7, (.v (.int .i64))), (8, (.v (.int .i64)))]
noncomputable def lv_s_l06Value_L7 : Lv := [(1, (.v (.sl (.int .i64)))), (2, (.v (.int .i64))), (3, (.bx (.v (.st (.pair (.int .i64) (.pair (.int .i64) .unit)))))), (7, (.v (.int .i64))), (8, (.v (.int .i64))), (9, (.v (.int .i64))), (10, (.v (.int .i64)))]
noncomputable def lv_s_l06Value_X0 : Lv := [(7, (.v (.int .i64)))]
noncomputable def lv_s_l06Value_X2 : Lv := [(1, (.v (.sl (.int .i64)))), (2, (.v (.int .i64))), (3, (.bx (.v (.st (.pair (.int .i64) (.pair (.int .i64) .unit)))))), (7, (.v (.int .i64))), (8, (.v (.int .i64))), (9, (.v (.int .i64)))]
noncomputable def rv_s_l06Value : Lv := [(6, (.v (.int .i64)))]
noncomputable def gs_l06Value_l7 {R : Type} (K : Nat) (k : Nat) (x : den lv_s_l06Value_L7.ty) (kx : Nat → St → Option R) (kr : St → Option R) : Option R := s_l06Value_l7 K k x.1 x.2.1 x.2.2.1 x.2.2.2.1 x.2.2.2.2.1 x.2.2.2.2.2.1 x.2.2.2.2.2.2.1 (fun z0 z1 z2 z3 z4 z5 => kx 2 (mkSt lv_s_l06Value_X2 (z0, z1, z2, z3, z4, z5, ())))
noncomputable def gs_l06Value_l3 {R : Type} (K : Nat) (k : Nat) (x : den lv_s_l06Value_L3.ty) (kx : Nat → St → Option R) (kr : St → Option R) : Option R := s_l06Value_l3 K k x.1 x.2.1 x.2.2.1 x.2.2.2.1 x.2.2.2.2.1 (fun z0 => kx 0 (mkSt lv_s_l06Value_X0 (z0, ())))
noncomputable def sg_s_l06Value {R : Type} (K : Nat) (k : Nat) : List (Nat × SegS R) := []
noncomputable def su_s_l06Value : List (Nat × Unit) := []
noncomputable def en_s_l06Value {R : Type} (K : Nat) (k : Nat) : Env R := { L := lk [(7, mkLoop lv_s_l06Value_L7 (gs_l06Value_l7 K k)), (3, mkLoop lv_s_l06Value_L3 (gs_l06Value_l3 K k))], X := lk [(0, lv_s_l06Value_X0), (2, lv_s_l06Value_X2)], S := lk (sg_s_l06Value K k), rv := rv_s_l06Value }
noncomputable def cf_s_l06Value (K : Nat) : Cfg := { ty := lk tys, fn := lk [(105, sp_s_l01At (s_l01At K))], prot := 0, nt := Try.f249.ntmps }
noncomputable def c_s_l06Value_L3 : Code := nthC (partsOf (hasK su_s_l06Value) (bodyOf Try.f249)) 0
noncomputable def c_s_l06Value_L7 : Code := nthC (partsOf (hasK su_s_l06Value) c_s_l06Value_L3) 0
theorem es_l06Value_l7 {R : Type} (K : Nat) (k : Nat) (x : den lv_s_l06Value_L7.ty) (kx : Nat → St → Option R) (kr : St → Option R) : gs_l06Value_l7 K (k + 1) x kx kr = evC (cf_s_l06Value K) (en_s_l06Value K k) c_s_l06Value_L7 (mkSt lv_s_l06Value_L7 x) (fun s => mkLoop lv_s_l06Value_L7 (gs_l06Value_l7 K k) s kx kr) kx kr := by kernel_rfl
theorem ss_l06Value_l7 {R : Type} (K : Nat) (C : Cx) (hP : C.P = Try.prog) (O : CfgOk C (cf_s_l06Value K)) (k : Nat) : LpS C (R := R) (mkLoop lv_s_l06Value_L7 (gs_l06Value_l7 K k)) c_s_l06Value_L7 :=
  loop_sound O (by rw [hP]; kernel_rfl) (fun x kx kr => rfl) (es_l06Value_l7 K) (fun k => lpOk_of (en := en_s_l06Value K k) (S := hasK su_s_l06Value) (fun i => hasK_lk (sg_s_l06Value K k) i) _ (by rw [show partsOf (hasK su_s_l06Value) c_s_l06Value_L7 = [] from by kernel_rfl]; exact trivial)) k
theorem es_l06Value_l3 {R : Type} (K : Nat) (k : Nat) (x : den lv_s_l06Value_L3.ty) (kx : Nat → St → Option R) (kr : St → Option R) : gs_l06Value_l3 K (k + 1) x kx kr = evC (cf_s_l06Value K) (en_s_l06Value K k) c_s_l06Value_L3 (mkSt lv_s_l06Value_L3 x) (fun s => mkLoop lv_s_l06Value_L3 (gs_l06Value_l3 K k) s kx kr) kx kr := by kernel_rfl
theorem ss_l06Value_l3 {R : Type} (K : Nat) (C : Cx) (hP : C.P = Try.prog) (O : CfgOk C (cf_s_l06Value K)) (k : Nat) : LpS C (R := R) (mkLoop lv_s_l06Value_L3 (gs_l06Value_l3 K k)) c_s_l06Value_L3 :=
  loop_sound O (by rw [hP]; kernel_rfl) (fun x kx kr => rfl) (es_l06Value_l3 K) (fun k => lpOk_of (en := en_s_l06Value K k) (S := hasK su_s_l06Value) (fun i => hasK_lk (sg_s_l06Value K k) i) _ (by rw [show partsOf (hasK su_s_l06Value) c_s_l06Value_L3 = [(true, c_s_l06Value_L7)] from by kernel_rfl]; exact (lpL_loop (f := mkLoop lv_s_l06Value_L7 (gs_l06Value_l7 K k)) (by kernel_rfl) (ss_l06Value_l7 K C hP O k) trivial))) k
theorem e_s_l06Value (K : Nat) (x : den as_s_l06Value) : s_l06Value K x = evFn (cf_s_l06Value K) as_s_l06Value [false, false, false] (.int .i64) (en_s_l06Value K K) Try.f249.results.toList (bodyOf Try.f249) x := by kernel_rfl
theorem ok_s_l06Value (K : Nat) : FnOk Try.prog 249 (sp_s_l06Value (s_l06Value K)) :=
  fn_ok (cf := cf_s_l06Value K) (en := en_s_l06Value K K) (c := bodyOf Try.f249) Try.func249 (by kernel_rfl) (by kernel_rfl) tysOk (fns_ok (l := [(105, sp_s_l01At (s_l01At K))]) ⟨ok_s_l01At K, trivial⟩) (by kernel_rfl) rfl (Nat.le_of_ble_eq_true (by kernel_rfl)) (by kernel_rfl) (of_decide_eq_true (by kernel_rfl)) (by decide) (fun C hP O => lpOk_of (en := en_s_l06Value K K) (S := hasK su_s_l06Value) (fun i => hasK_lk (sg_s_l06Value K K) i) _ (by rw [show partsOf (hasK su_s_l06Value) (bodyOf Try.f249) = [(true, c_s_l06Value_L3)] from by kernel_rfl]; exact (lpL_loop (f := mkLoop lv_s_l06Value_L3 (gs_l06Value_l3 K K)) (by kernel_rfl) (ss_l06Value_l3 K C hP O K) trivial))) (fun x y h => by rw [← e_s_l06Value]; exact h)
noncomputable def s_l06Made_l5 {R : Type} (K : Nat) (r : ((Int × Int × Unit) × (Int × Int × Unit) × (List Int) × (List Int) × Unit) → Option Int) : Nat → (List Int) → (List Int) → (Int × Int × Unit) → (Int × Int × Unit) → Int → Int → (Int → Option R) → Option R
  | 0, _, _, _, _, _, _, _ => none
  | k + 1, v2, v3, v4, v5, v9, v10, kx0 =>
    (if (decide (v10 < (v2.length : Int))) = true then
    (s_l01Own K (v3, ())).bind fun y2 =>
    (if (bnds v10 (v2.length : Int)) = true then
    let l3 := [(v2.getD v10.toNat (0 : Int))]
    (if (decide (y2.length + l3.length ≤ lim)) = true then
    let l4 := (y2 ++ l3)
    (r (v4, v5, v2, l4, ())).bind fun y5 =>
    s_l06Made_l5 K r k v2 v3 v4 v5 (bitI .or .i64 v9 y5) (IntKind.i64.wrap (v10 + (1 : Int))) kx0
    else
    none)
    else
    none)
    else
    kx0 v9)
noncomputable def s_l06Made_b (K : Nat) (r : ((Int × Int × Unit) × (Int × Int × Unit) × (List Int) × (List Int) × Unit) → Option Int) (x : ((Int × Int × Unit) × (Int × Int × Unit) × (List Int) × (List Int) × Unit)) : Option Int :=
    (if (decide ((x.2.2.2.1.length : Int) = x.1.1)) = true then
    (s_l06Value K (x.1, x.2.2.2.1, x.2.1.1, ())).bind fun y1 =>
    (if (decide ((0 : Int) ≤ (IntKind.u64.wrap y1))) = true then
    some (shlI .i64 (1 : Int) (IntKind.u64.wrap y1))
    else
    none)
    else
    s_l06Made_l5 K r K x.2.2.1 x.2.2.2.1 x.1 x.2.1 (0 : Int) (0 : Int) (fun z6 =>
    some z6))
noncomputable def s_l06Made (K : Nat) : Nat → ((Int × Int × Unit) × (Int × Int × Unit) × (List Int) × (List Int) × Unit) → Option Int
  | 0 => fun _ => none
  | k + 1 => s_l06Made_b K (s_l06Made K k)
noncomputable def lv_s_l06Made_L5 : Lv := [(2, (.v (.sl (.int .i64)))), (3, (.v (.sl (.int .i64)))), (4, (.bx (.v (.st (.pair (.int .i64) (.pair (.int .i64) .unit)))))), (5, (.bx (.v (.st (.pair (.int .i64) (.pair (.int .i64) .unit)))))), (9, (.v (.int .i64))), (10, (.v (.int .i64)))]
noncomputable def lv_s_l06Made_X0 : Lv := [(9, (.v (.int .i64)))]
noncomputable def rv_s_l06Made : Lv := [(8, (.v (.int .i64)))]
noncomputable def gs_l06Made_l5 {R : Type} (K : Nat) (r : ((Int × Int × Unit) × (Int × Int × Unit) × (List Int) × (List Int) × Unit) → Option Int) (k : Nat) (x : den lv_s_l06Made_L5.ty) (kx : Nat → St → Option R) (kr : St → Option R) : Option R := s_l06Made_l5 K r k x.1 x.2.1 x.2.2.1 x.2.2.2.1 x.2.2.2.2.1 x.2.2.2.2.2.1 (fun z0 => kx 0 (mkSt lv_s_l06Made_X0 (z0, ())))
noncomputable def sg_s_l06Made {R : Type} (K : Nat) (r : ((Int × Int × Unit) × (Int × Int × Unit) × (List Int) × (List Int) × Unit) → Option Int) (k : Nat) : List (Nat × SegS R) := []
noncomputable def su_s_l06Made : List (Nat × Unit) := []
noncomputable def en_s_l06Made {R : Type} (K : Nat) (r : ((Int × Int × Unit) × (Int × Int × Unit) × (List Int) × (List Int) × Unit) → Option Int) (k : Nat) : Env R := { L := lk [(5, mkLoop lv_s_l06Made_L5 (gs_l06Made_l5 K r k))], X := lk [(0, lv_s_l06Made_X0)], S := lk (sg_s_l06Made K r k), rv := rv_s_l06Made }
noncomputable def cf_s_l06Made (K : Nat) (r : ((Int × Int × Unit) × (Int × Int × Unit) × (List Int) × (List Int) × Unit) → Option Int) : Cfg := { ty := lk tys, fn := lk [(211, sp_s_l01Own (s_l01Own K)), (223, sp_s_l06Made (r)), (249, sp_s_l06Value (s_l06Value K))], prot := 0, nt := Try.f223.ntmps }
noncomputable def c_s_l06Made_L5 : Code := nthC (partsOf (hasK su_s_l06Made) (bodyOf Try.f223)) 0
theorem es_l06Made_l5 {R : Type} (K : Nat) (r : ((Int × Int × Unit) × (Int × Int × Unit) × (List Int) × (List Int) × Unit) → Option Int) (k : Nat) (x : den lv_s_l06Made_L5.ty) (kx : Nat → St → Option R) (kr : St → Option R) : gs_l06Made_l5 K r (k + 1) x kx kr = evC (cf_s_l06Made K r) (en_s_l06Made K r k) c_s_l06Made_L5 (mkSt lv_s_l06Made_L5 x) (fun s => mkLoop lv_s_l06Made_L5 (gs_l06Made_l5 K r k) s kx kr) kx kr := by kernel_rfl
theorem ss_l06Made_l5 {R : Type} (K : Nat) (r : ((Int × Int × Unit) × (Int × Int × Unit) × (List Int) × (List Int) × Unit) → Option Int) (C : Cx) (hP : C.P = Try.prog) (O : CfgOk C (cf_s_l06Made K r)) (k : Nat) : LpS C (R := R) (mkLoop lv_s_l06Made_L5 (gs_l06Made_l5 K r k)) c_s_l06Made_L5 :=
  loop_sound O (by rw [hP]; kernel_rfl) (fun x kx kr => rfl) (es_l06Made_l5 K r) (fun k => lpOk_of (en := en_s_l06Made K r k) (S := hasK su_s_l06Made) (fun i => hasK_lk (sg_s_l06Made K r k) i) _ (by rw [show partsOf (hasK su_s_l06Made) c_s_l06Made_L5 = [] from by kernel_rfl]; exact trivial)) k
theorem e_s_l06Made (K : Nat) (r : ((Int × Int × Unit) × (Int × Int × Unit) × (List Int) × (List Int) × Unit) → Option Int) (x : den as_s_l06Made) : s_l06Made_b K r x = evFn (cf_s_l06Made K r) as_s_l06Made [false, false, false, false] (.int .i64) (en_s_l06Made K r K) Try.f223.results.toList (bodyOf Try.f223) x := by kernel_rfl
theorem okb_s_l06Made (K : Nat) (r : ((Int × Int × Unit) × (Int × Int × Unit) × (List Int) × (List Int) × Unit) → Option Int) (hr : FnOk Try.prog 223 (sp_s_l06Made r)) : FnOk Try.prog 223 (sp_s_l06Made (s_l06Made_b K r)) :=
  fn_ok (cf := cf_s_l06Made K r) (en := en_s_l06Made K r K) (c := bodyOf Try.f223) Try.func223 (by kernel_rfl) (by kernel_rfl) tysOk (fns_ok (l := [(211, sp_s_l01Own (s_l01Own K)), (223, sp_s_l06Made (r)), (249, sp_s_l06Value (s_l06Value K))]) ⟨ok_s_l01Own K, ⟨hr, ⟨ok_s_l06Value K, trivial⟩⟩⟩) (by kernel_rfl) rfl (Nat.le_of_ble_eq_true (by kernel_rfl)) (by kernel_rfl) (of_decide_eq_true (by kernel_rfl)) (by decide) (fun C hP O => lpOk_of (en := en_s_l06Made K r K) (S := hasK su_s_l06Made) (fun i => hasK_lk (sg_s_l06Made K r K) i) _ (by rw [show partsOf (hasK su_s_l06Made) (bodyOf Try.f223) = [(true, c_s_l06Made_L5)] from by kernel_rfl]; exact (lpL_loop (f := mkLoop lv_s_l06Made_L5 (gs_l06Made_l5 K r K)) (by kernel_rfl) (ss_l06Made_l5 K r C hP O K) trivial))) (fun x y h => by rw [← e_s_l06Made]; exact h)
theorem ok_s_l06Made (K : Nat) : ∀ k, FnOk Try.prog 223 (sp_s_l06Made (s_l06Made K k))
  | 0 => fnOk_none
  | k + 1 => okb_s_l06Made K (s_l06Made K k) (ok_s_l06Made K k)
noncomputable def as_s_l06List : Ty := (.pair (.st (.pair (.int .i64) (.pair (.int .i64) .unit))) .unit)
noncomputable def sp_s_l06List (F : ((Int × Int × Unit) × Unit) → Option (List Int)) : FnSpec := ⟨as_s_l06List, [false], (.sl (.int .i64)), F⟩
noncomputable def s_l06List_l3 {R : Type} (K : Nat) : Nat → (Int × Int × Unit) → (List Int) → Int → ((List Int) → Option R) → Option R
  | 0, _, _, _, _ => none
  | k + 1, v1, v3, v4, kx0 =>
    (s_l01Rows K (v1.1, ())).bind fun y2 =>
    (if (decide (v4 < y2)) = true then
    (if (decide ((0 : Int) ≤ (IntKind.u64.wrap v4))) = true then
    let x3 := (bitI .and .i64 (shrI .i64 v1.2.1 (IntKind.u64.wrap v4)) (1 : Int))
    (if (decide (x3 = (1 : Int))) = true then
    (if (decide (v3.length + ([v4]).length ≤ lim)) = true then
    let l4 := (v3 ++ [v4])
    s_l06List_l3 K k v1 l4 (IntKind.i64.wrap (v4 + (1 : Int))) kx0
    else
    none)
    else
    s_l06List_l3 K k v1 v3 (IntKind.i64.wrap (v4 + (1 : Int))) kx0)
    else
    none)
    else
    kx0 v3)
noncomputable def s_l06List (K : Nat) (x : ((Int × Int × Unit) × Unit)) : Option (List Int) :=
    let l1 := ([] : List Int)
    s_l06List_l3 K K x.1 l1 (0 : Int) (fun z5 =>
    some z5)
noncomputable def lv_s_l06List_L3 : Lv := [(1, (.bx (.v (.st (.pair (.int .i64) (.pair (.int .i64) .unit)))))), (3, (.r (.int .i64))), (4, (.v (.int .i64)))]
noncomputable def lv_s_l06List_X0 : Lv := [(3, (.r (.int .i64)))]
noncomputable def rv_s_l06List : Lv := [(2, (.r (.int .i64)))]
noncomputable def gs_l06List_l3 {R : Type} (K : Nat) (k : Nat) (x : den lv_s_l06List_L3.ty) (kx : Nat → St → Option R) (kr : St → Option R) : Option R := s_l06List_l3 K k x.1 x.2.1 x.2.2.1 (fun z0 => kx 0 (mkSt lv_s_l06List_X0 (z0, ())))
noncomputable def sg_s_l06List {R : Type} (K : Nat) (k : Nat) : List (Nat × SegS R) := []
noncomputable def su_s_l06List : List (Nat × Unit) := []
noncomputable def en_s_l06List {R : Type} (K : Nat) (k : Nat) : Env R := { L := lk [(3, mkLoop lv_s_l06List_L3 (gs_l06List_l3 K k))], X := lk [(0, lv_s_l06List_X0)], S := lk (sg_s_l06List K k), rv := rv_s_l06List }
noncomputable def cf_s_l06List (K : Nat) : Cfg := { ty := lk tys, fn := lk [(154, sp_s_l01Rows (s_l01Rows K))], prot := 0, nt := Try.f224.ntmps }
noncomputable def c_s_l06List_L3 : Code := nthC (partsOf (hasK su_s_l06List) (bodyOf Try.f224)) 0
theorem es_l06List_l3 {R : Type} (K : Nat) (k : Nat) (x : den lv_s_l06List_L3.ty) (kx : Nat → St → Option R) (kr : St → Option R) : gs_l06List_l3 K (k + 1) x kx kr = evC (cf_s_l06List K) (en_s_l06List K k) c_s_l06List_L3 (mkSt lv_s_l06List_L3 x) (fun s => mkLoop lv_s_l06List_L3 (gs_l06List_l3 K k) s kx kr) kx kr := by kernel_rfl
theorem ss_l06List_l3 {R : Type} (K : Nat) (C : Cx) (hP : C.P = Try.prog) (O : CfgOk C (cf_s_l06List K)) (k : Nat) : LpS C (R := R) (mkLoop lv_s_l06List_L3 (gs_l06List_l3 K k)) c_s_l06List_L3 :=
  loop_sound O (by rw [hP]; kernel_rfl) (fun x kx kr => rfl) (es_l06List_l3 K) (fun k => lpOk_of (en := en_s_l06List K k) (S := hasK su_s_l06List) (fun i => hasK_lk (sg_s_l06List K k) i) _ (by rw [show partsOf (hasK su_s_l06List) c_s_l06List_L3 = [] from by kernel_rfl]; exact trivial)) k
theorem e_s_l06List (K : Nat) (x : den as_s_l06List) : s_l06List K x = evFn (cf_s_l06List K) as_s_l06List [false] (.sl (.int .i64)) (en_s_l06List K K) Try.f224.results.toList (bodyOf Try.f224) x := by kernel_rfl
theorem ok_s_l06List (K : Nat) : FnOk Try.prog 224 (sp_s_l06List (s_l06List K)) :=
  fn_ok (cf := cf_s_l06List K) (en := en_s_l06List K K) (c := bodyOf Try.f224) Try.func224 (by kernel_rfl) (by kernel_rfl) tysOk (fns_ok (l := [(154, sp_s_l01Rows (s_l01Rows K))]) ⟨ok_s_l01Rows K, trivial⟩) (by kernel_rfl) rfl (Nat.le_of_ble_eq_true (by kernel_rfl)) (by kernel_rfl) (of_decide_eq_true (by kernel_rfl)) (by decide) (fun C hP O => lpOk_of (en := en_s_l06List K K) (S := hasK su_s_l06List) (fun i => hasK_lk (sg_s_l06List K K) i) _ (by rw [show partsOf (hasK su_s_l06List) (bodyOf Try.f224) = [(true, c_s_l06List_L3)] from by kernel_rfl]; exact (lpL_loop (f := mkLoop lv_s_l06List_L3 (gs_l06List_l3 K K)) (by kernel_rfl) (ss_l06List_l3 K C hP O K) trivial))) (fun x y h => by rw [← e_s_l06List]; exact h)
noncomputable def as_s_l06Keeps : Ty := (.pair (.st (.pair (.int .i64) (.pair (.int .i64) .unit))) (.pair (.st (.pair (.int .i64) (.pair (.int .i64) .unit))) .unit))
noncomputable def sp_s_l06Keeps (F : ((Int × Int × Unit) × (Int × Int × Unit) × Unit) → Option Bool) : FnSpec := ⟨as_s_l06Keeps, [false, false], .bool, F⟩
noncomputable def s_l06Keeps (K : Nat) (x : ((Int × Int × Unit) × (Int × Int × Unit) × Unit)) : Option Bool :=
    (s_l06List K (x.2.1, ())).bind fun y1 =>
    let l2 := ([] : List Int)
    (s_l06Made K K (x.1, x.2.1, y1, l2, ())).bind fun y3 =>
    some (decide ((bitI .andNot .i64 y3 x.2.1.2.1) = (0 : Int)))
noncomputable def rv_s_l06Keeps : Lv := [(4, (.v .bool))]
noncomputable def sg_s_l06Keeps {R : Type} (K : Nat) (k : Nat) : List (Nat × SegS R) := []
noncomputable def su_s_l06Keeps : List (Nat × Unit) := []
noncomputable def en_s_l06Keeps {R : Type} (K : Nat) (k : Nat) : Env R := { L := lk [], X := lk [], S := lk (sg_s_l06Keeps K k), rv := rv_s_l06Keeps }
noncomputable def cf_s_l06Keeps (K : Nat) : Cfg := { ty := lk tys, fn := lk [(223, sp_s_l06Made (s_l06Made K K)), (224, sp_s_l06List (s_l06List K))], prot := 0, nt := Try.f156.ntmps }
theorem e_s_l06Keeps (K : Nat) (x : den as_s_l06Keeps) : s_l06Keeps K x = evFn (cf_s_l06Keeps K) as_s_l06Keeps [false, false] .bool (en_s_l06Keeps K K) Try.f156.results.toList (bodyOf Try.f156) x := by kernel_rfl
theorem ok_s_l06Keeps (K : Nat) : FnOk Try.prog 156 (sp_s_l06Keeps (s_l06Keeps K)) :=
  fn_ok (cf := cf_s_l06Keeps K) (en := en_s_l06Keeps K K) (c := bodyOf Try.f156) Try.func156 (by kernel_rfl) (by kernel_rfl) tysOk (fns_ok (l := [(223, sp_s_l06Made (s_l06Made K K)), (224, sp_s_l06List (s_l06List K))]) ⟨ok_s_l06Made K K, ⟨ok_s_l06List K, trivial⟩⟩) (by kernel_rfl) rfl (Nat.le_of_ble_eq_true (by kernel_rfl)) (by kernel_rfl) (of_decide_eq_true (by kernel_rfl)) (by decide) (fun C hP O => lpOk_of (en := en_s_l06Keeps K K) (S := hasK su_s_l06Keeps) (fun i => hasK_lk (sg_s_l06Keeps K K) i) _ (by rw [show partsOf (hasK su_s_l06Keeps) (bodyOf Try.f156) = [] from by kernel_rfl]; exact trivial)) (fun x y h => by rw [← e_s_l06Keeps]; exact h)
noncomputable def as_s_l09Row : Ty := (.pair (.st (.pair (.int .i64) (.pair (.int .i64) .unit))) .unit)
noncomputable def sp_s_l09Row (F : ((Int × Int × Unit) × Unit) → Option (List Int)) : FnSpec := ⟨as_s_l09Row, [false], (.sl (.int .i64)), F⟩
noncomputable def s_l09Row_l8 {R : Type} (K : Nat) : Nat → (Int × Int × Unit) → (List Int) → (List ByteArray) → Int → ((List Int) → Option R) → Option R
  | 0, _, _, _, _, _ => none
  | k + 1, v1, v3, v4, v5, kx0 =>
    (if (decide (v5 < (4 : Int))) = true then
    (if (bnds v5 (v4.length : Int)) = true then
    (s_NamedFunc K ((v4.getD v5.toNat ByteArray.empty), ())).bind fun y8 =>
    (s_l06Keeps K (y8.1, v1, ())).bind fun y9 =>
    (if y9 = true then
    (if (bnds (IntKind.i64.wrap (v5 + (2 : Int))) (v3.length : Int)) = true then
    let l10 := (v3.set (IntKind.i64.wrap (v5 + (2 : Int))).toNat (1 : Int))
    s_l09Row_l8 K k v1 l10 v4 (IntKind.i64.wrap (v5 + (1 : Int))) kx0
    else
    none)
    else
    s_l09Row_l8 K k v1 v3 v4 (IntKind.i64.wrap (v5 + (1 : Int))) kx0)
    else
    none)
    else
    kx0 v3)
noncomputable def s_l09Row_j6 {R : Type} (K : Nat) (k : Nat) (v1 : (Int × Int × Unit)) (v3 : (List Int)) (kn : Option R) (kr : ((List Int) → Option R)) : Option R :=
    let l7 := [(⟨#[97, 110, 100]⟩ : ByteArray), (⟨#[111, 114]⟩ : ByteArray), (⟨#[109, 97, 106, 111, 114, 105, 116, 121]⟩ : ByteArray), (⟨#[109, 105, 110, 111, 114, 105, 116, 121]⟩ : ByteArray)]
    s_l09Row_l8 K k v1 v3 l7 (0 : Int) (fun z11 =>
    kr z11)
noncomputable def s_l09Row_j4 {R : Type} (K : Nat) (k : Nat) (v1 : (Int × Int × Unit)) (v3 : (List Int)) (kn : Option R) (kr : ((List Int) → Option R)) : Option R :=
    (s_l01Rows K (v1.1, ())).bind fun y4 =>
    (s_l09Has K (v1, (IntKind.i64.wrap (y4 - (1 : Int))), ())).bind fun y5 =>
    (if y5 = true then
    (if (bnds (1 : Int) (v3.length : Int)) = true then
    let l6 := (v3.set (1 : Int).toNat (1 : Int))
    s_l09Row_j6 K k v1 l6 none (fun z12 =>
    kr z12)
    else
    none)
    else
    s_l09Row_j6 K k v1 v3 none (fun z13 =>
    kr z13))
noncomputable def s_l09Row (K : Nat) (x : ((Int × Int × Unit) × Unit)) : Option (List Int) :=
    (if (decide (0 ≤ (6 : Int)) && decide ((6 : Int) ≤ (lim : Int)) && decide ((6 : Int) = (6 : Int))) = true then
    let l1 := (List.replicate (6 : Int).toNat (0 : Int))
    (s_l09Has K (x.1, (0 : Int), ())).bind fun y2 =>
    (if y2 = true then
    (if (bnds (0 : Int) (l1.length : Int)) = true then
    let l3 := (l1.set (0 : Int).toNat (1 : Int))
    s_l09Row_j4 K K x.1 l3 none (fun z14 =>
    some z14)
    else
    none)
    else
    s_l09Row_j4 K K x.1 l1 none (fun z15 =>
    some z15))
    else
    none)
noncomputable def lv_s_l09Row_J4 : Lv := [(1, (.bx (.v (.st (.pair (.int .i64) (.pair (.int .i64) .unit)))))), (3, (.r (.int .i64)))]
noncomputable def lv_s_l09Row_J6 : Lv := [(1, (.bx (.v (.st (.pair (.int .i64) (.pair (.int .i64) .unit)))))), (3, (.r (.int .i64)))]
noncomputable def lv_s_l09Row_L8 : Lv := [(1, (.bx (.v (.st (.pair (.int .i64) (.pair (.int .i64) .unit)))))), (3, (.r (.int .i64))), (4, (.r .str)), (5, (.v (.int .i64)))]
noncomputable def lv_s_l09Row_N4 : Lv := []
noncomputable def lv_s_l09Row_N6 : Lv := []
noncomputable def lv_s_l09Row_X0 : Lv := [(3, (.r (.int .i64)))]
noncomputable def rv_s_l09Row : Lv := [(2, (.r (.int .i64)))]
noncomputable def gs_l09Row_l8 {R : Type} (K : Nat) (k : Nat) (x : den lv_s_l09Row_L8.ty) (kx : Nat → St → Option R) (kr : St → Option R) : Option R := s_l09Row_l8 K k x.1 x.2.1 x.2.2.1 x.2.2.2.1 (fun z0 => kx 0 (mkSt lv_s_l09Row_X0 (z0, ())))
noncomputable def gs_l09Row_j6 {R : Type} (K : Nat) (k : Nat) (x : den lv_s_l09Row_J6.ty) (kn : den lv_s_l09Row_N6.ty → Option R) (kx : Nat → St → Option R) (kr : St → Option R) : Option R := s_l09Row_j6 K k x.1 x.2.1 (kn ()) (fun z0 => kr (mkSt rv_s_l09Row (z0, ())))
noncomputable def gs_l09Row_j4 {R : Type} (K : Nat) (k : Nat) (x : den lv_s_l09Row_J4.ty) (kn : den lv_s_l09Row_N4.ty → Option R) (kx : Nat → St → Option R) (kr : St → Option R) : Option R := s_l09Row_j4 K k x.1 x.2.1 (kn ()) (fun z0 => kr (mkSt rv_s_l09Row (z0, ())))
noncomputable def sg_s_l09Row {R : Type} (K : Nat) (k : Nat) : List (Nat × SegS R) := [(6, mkSeg lv_s_l09Row_J6 lv_s_l09Row_N6 (gs_l09Row_j6 K k)), (4, mkSeg lv_s_l09Row_J4 lv_s_l09Row_N4 (gs_l09Row_j4 K k))]
noncomputable def su_s_l09Row : List (Nat × Unit) := [(6, ()), (4, ())]
noncomputable def en_s_l09Row {R : Type} (K : Nat) (k : Nat) : Env R := { L := lk [(8, mkLoop lv_s_l09Row_L8 (gs_l09Row_l8 K k))], X := lk [(0, lv_s_l09Row_X0)], S := lk (sg_s_l09Row K k), rv := rv_s_l09Row }
noncomputable def cf_s_l09Row (K : Nat) : Cfg := { ty := lk tys, fn := lk [(153, sp_s_l09Has (s_l09Has K)), (154, sp_s_l01Rows (s_l01Rows K)), (155, sp_s_NamedFunc (s_NamedFunc K)), (156, sp_s_l06Keeps (s_l06Keeps K))], prot := 0, nt := Try.f87.ntmps }
noncomputable def c_s_l09Row_J4 : Code := nthC (partsOf (hasK su_s_l09Row) (bodyOf Try.f87)) 0
noncomputable def c_s_l09Row_J6 : Code := nthC (partsOf (hasK su_s_l09Row) c_s_l09Row_J4) 0
noncomputable def c_s_l09Row_L8 : Code := nthC (partsOf (hasK su_s_l09Row) c_s_l09Row_J6) 0
theorem es_l09Row_l8 {R : Type} (K : Nat) (k : Nat) (x : den lv_s_l09Row_L8.ty) (kx : Nat → St → Option R) (kr : St → Option R) : gs_l09Row_l8 K (k + 1) x kx kr = evC (cf_s_l09Row K) (en_s_l09Row K k) c_s_l09Row_L8 (mkSt lv_s_l09Row_L8 x) (fun s => mkLoop lv_s_l09Row_L8 (gs_l09Row_l8 K k) s kx kr) kx kr := by kernel_rfl
theorem ss_l09Row_l8 {R : Type} (K : Nat) (C : Cx) (hP : C.P = Try.prog) (O : CfgOk C (cf_s_l09Row K)) (k : Nat) : LpS C (R := R) (mkLoop lv_s_l09Row_L8 (gs_l09Row_l8 K k)) c_s_l09Row_L8 :=
  loop_sound O (by rw [hP]; kernel_rfl) (fun x kx kr => rfl) (es_l09Row_l8 K) (fun k => lpOk_of (en := en_s_l09Row K k) (S := hasK su_s_l09Row) (fun i => hasK_lk (sg_s_l09Row K k) i) _ (by rw [show partsOf (hasK su_s_l09Row) c_s_l09Row_L8 = [] from by kernel_rfl]; exact trivial)) k
theorem es_l09Row_j6 {R : Type} (K : Nat) (k : Nat) (x : den lv_s_l09Row_J6.ty) (kn : den lv_s_l09Row_N6.ty → Option R) (kx : Nat → St → Option R) (kr : St → Option R) : gs_l09Row_j6 K k x kn kx kr = evC (cf_s_l09Row K) (en_s_l09Row K k) c_s_l09Row_J6 (mkSt lv_s_l09Row_J6 x) (cutK lv_s_l09Row_N6 kn) kx kr := by kernel_rfl
theorem ss_l09Row_j6 {R : Type} (K : Nat) (C : Cx) (hP : C.P = Try.prog) (O : CfgOk C (cf_s_l09Row K)) (k : Nat) : SgS C (R := R) (mkSeg lv_s_l09Row_J6 lv_s_l09Row_N6 (gs_l09Row_j6 K k)) c_s_l09Row_J6 :=
  seg_sound O (by rw [hP]; kernel_rfl) (es_l09Row_j6 K k) (lpOk_of (en := en_s_l09Row K k) (S := hasK su_s_l09Row) (fun i => hasK_lk (sg_s_l09Row K k) i) _ (by rw [show partsOf (hasK su_s_l09Row) c_s_l09Row_J6 = [(true, c_s_l09Row_L8)] from by kernel_rfl]; exact (lpL_loop (f := mkLoop lv_s_l09Row_L8 (gs_l09Row_l8 K k)) (by kernel_rfl) (ss_l09Row_l8 K C hP O k) trivial)))
theorem es_l09Row_j4 {R : Type} (K : Nat) (k : Nat) (x : den lv_s_l09Row_J4.ty) (kn : den lv_s_l09Row_N4.ty → Option R) (kx : Nat → St → Option R) (kr : St → Option R) : gs_l09Row_j4 K k x kn kx kr = evC (cf_s_l09Row K) (en_s_l09Row K k) c_s_l09Row_J4 (mkSt lv_s_l09Row_J4 x) (cutK lv_s_l09Row_N4 kn) kx kr := by kernel_rfl
theorem ss_l09Row_j4 {R : Type} (K : Nat) (C : Cx) (hP : C.P = Try.prog) (O : CfgOk C (cf_s_l09Row K)) (k : Nat) : SgS C (R := R) (mkSeg lv_s_l09Row_J4 lv_s_l09Row_N4 (gs_l09Row_j4 K k)) c_s_l09Row_J4 :=
  seg_sound O (by rw [hP]; kernel_rfl) (es_l09Row_j4 K k) (lpOk_of (en := en_s_l09Row K k) (S := hasK su_s_l09Row) (fun i => hasK_lk (sg_s_l09Row K k) i) _ (by rw [show partsOf (hasK su_s_l09Row) c_s_l09Row_J4 = [(false, c_s_l09Row_J6)] from by kernel_rfl]; exact (lpL_seg (f := mkSeg lv_s_l09Row_J6 lv_s_l09Row_N6 (gs_l09Row_j6 K k)) (by kernel_rfl) (ss_l09Row_j6 K C hP O k) trivial)))
theorem e_s_l09Row (K : Nat) (x : den as_s_l09Row) : s_l09Row K x = evFn (cf_s_l09Row K) as_s_l09Row [false] (.sl (.int .i64)) (en_s_l09Row K K) Try.f87.results.toList (bodyOf Try.f87) x := by kernel_rfl
theorem ok_s_l09Row (K : Nat) : FnOk Try.prog 87 (sp_s_l09Row (s_l09Row K)) :=
  fn_ok (cf := cf_s_l09Row K) (en := en_s_l09Row K K) (c := bodyOf Try.f87) Try.func87 (by kernel_rfl) (by kernel_rfl) tysOk (fns_ok (l := [(153, sp_s_l09Has (s_l09Has K)), (154, sp_s_l01Rows (s_l01Rows K)), (155, sp_s_NamedFunc (s_NamedFunc K)), (156, sp_s_l06Keeps (s_l06Keeps K))]) ⟨ok_s_l09Has K, ⟨ok_s_l01Rows K, ⟨ok_s_NamedFunc K, ⟨ok_s_l06Keeps K, trivial⟩⟩⟩⟩) (by kernel_rfl) rfl (Nat.le_of_ble_eq_true (by kernel_rfl)) (by kernel_rfl) (of_decide_eq_true (by kernel_rfl)) (by decide) (fun C hP O => lpOk_of (en := en_s_l09Row K K) (S := hasK su_s_l09Row) (fun i => hasK_lk (sg_s_l09Row K K) i) _ (by rw [show partsOf (hasK su_s_l09Row) (bodyOf Try.f87) = [(false, c_s_l09Row_J4)] from by kernel_rfl]; exact (lpL_seg (f := mkSeg lv_s_l09Row_J4 lv_s_l09Row_N4 (gs_l09Row_j4 K K)) (by kernel_rfl) (ss_l09Row_j4 K C hP O K) trivial))) (fun x y h => by rw [← e_s_l09Row]; exact h)
noncomputable def as_s_EasyClasses : Ty := (.pair (.st (.pair (.int .i64) (.pair (.sl (.st (.pair (.st (.pair (.int .i64) (.pair (.int .i64) .unit))) (.pair (.sl (.int .i64)) .unit)))) .unit))) .unit)
noncomputable def sp_s_EasyClasses (F : ((Int × (List ((Int × Int × Unit) × (List Int) × Unit)) × Unit) × Unit) → Option ((List Int) × Int × Unit)) : FnSpec := ⟨as_s_EasyClasses, [false], (.tup (.pair (.sl (.int .i64)) (.pair (.int .i64) .unit))), F⟩
noncomputable def s_EasyClasses_l9 {R : Type} (K : Nat) : Nat → (Int × (List ((Int × Int × Unit) × (List Int) × Unit)) × Unit) → (List Int) → (List Int) → Int → (List Int) → Int → ((Int × (List ((Int × Int × Unit) × (List Int) × Unit)) × Unit) → (List Int) → (List Int) → Int → Option R) → Option R
  | 0, _, _, _, _, _, _, _ => none
  | k + 1, v1, v4, v5, v6, v7, v8, kx2 =>
    (if (decide (v8 < (6 : Int))) = true then
    (if (bnds v8 (v4.length : Int)) = true then
    (if (bnds v8 (v7.length : Int)) = true then
    let x6 := (IntKind.i64.wrap ((v4.getD v8.toNat (0 : Int)) * (v7.getD v8.toNat (0 : Int))))
    (if (bnds v8 (v4.length : Int)) = true then
    let l7 := (v4.set v8.toNat x6)
    s_EasyClasses_l9 K k v1 l7 v5 v6 v7 (IntKind.i64.wrap (v8 + (1 : Int))) kx2
    else
    none)
    else
    none)
    else
    none)
    else
    kx2 v1 v4 v5 v6)
noncomputable def s_EasyClasses_l5 {R : Type} (K : Nat) : Nat → (Int × (List ((Int × Int × Unit) × (List Int) × Unit)) × Unit) → (List Int) → (List Int) → Int → ((List Int) → (List Int) → Option R) → Option R
  | 0, _, _, _, _, _ => none
  | k + 1, v1, v4, v5, v6, kx0 =>
    (if (decide (v6 < (v1.2.1.length : Int))) = true then
    (if (bnds v6 (v1.2.1.length : Int)) = true then
    let x4 := (v1.2.1.getD v6.toNat (((0 : Int), (0 : Int), ()), ([] : List Int), ()))
    (s_l09Row K (x4.1, ())).bind fun y5 =>
    s_EasyClasses_l9 K k v1 v4 v5 v6 y5 (0 : Int) (fun z8 z9 z10 z11 =>
    s_EasyClasses_l5 K k z8 z9 z10 (IntKind.i64.wrap (z11 + (1 : Int))) kx0)
    else
    none)
    else
    kx0 v4 v5)
noncomputable def s_EasyClasses_l13 {R : Type} (K : Nat) : Nat → (List Int) → (List Int) → Int → ((List Int) → Option R) → Option R
  | 0, _, _, _, _ => none
  | k + 1, v4, v5, v9, kx4 =>
    (if (decide (v9 < (6 : Int))) = true then
    (if (bnds v9 (v4.length : Int)) = true then
    (if (decide ((v4.getD v9.toNat (0 : Int)) = (1 : Int))) = true then
    (if (decide (v5.length + ([v9]).length ≤ lim)) = true then
    let l14 := (v5 ++ [v9])
    s_EasyClasses_l13 K k v4 l14 (IntKind.i64.wrap (v9 + (1 : Int))) kx4
    else
    none)
    else
    s_EasyClasses_l13 K k v4 v5 (IntKind.i64.wrap (v9 + (1 : Int))) kx4)
    else
    none)
    else
    kx4 v5)
noncomputable def s_EasyClasses (K : Nat) (x : ((Int × (List ((Int × Int × Unit) × (List Int) × Unit)) × Unit) × Unit)) : Option ((List Int) × Int × Unit) :=
    (s_l09Is K (x.1, ())).bind fun y1 =>
    (if (!y1) = true then
    some (([] : List Int), (1 : Int), ())
    else
    let l2 := [(1 : Int), (1 : Int), (1 : Int), (1 : Int), (1 : Int), (1 : Int)]
    let l3 := ([] : List Int)
    s_EasyClasses_l5 K K x.1 l2 l3 (0 : Int) (fun z12 z13 =>
    s_EasyClasses_l13 K K z12 z13 (0 : Int) (fun z15 =>
    some (z15, (0 : Int), ()))))
noncomputable def lv_s_EasyClasses_L5 : Lv := [(1, (.bx (.v (.st (.pair (.int .i64) (.pair (.sl (.st (.pair (.st (.pair (.int .i64) (.pair (.int .i64) .unit))) (.pair (.sl (.int .i64)) .unit)))) .unit)))))), (4, (.r (.int .i64))), (5, (.r (.int .i64))), (6, (.v (.int .i64)))]
noncomputable def lv_s_EasyClasses_L9 : Lv := [(1, (.bx (.v (.st (.pair (.int .i64) (.pair (.sl (.st (.pair (.st (.pair (.int .i64) (.pair (.int .i64) .unit))) (.pair (.sl (.int .i64)) .unit)))) .unit)))))), (4, (.r (.int .i64))), (5, (.r (.int .i64))), (6, (.v (.int .i64))), (7, (.r (.int .i64))), (8, (.v (.int .i64)))]
noncomputable def lv_s_EasyClasses_L13 : Lv := [(4, (.r (.int .i64))), (5, (.r (.int .i64))), (9, (.v (.int .i64)))]
noncomputable def lv_s_EasyClasses_X0 : Lv := [(4, (.r (.int .i64))), (5, (.r (.int .i64)))]
noncomputable def lv_s_EasyClasses_X2 : Lv := [(1, (.bx (.v (.st (.pair (.int .i64) (.pair (.sl (.st (.pair (.st (.pair (.int .i64) (.pair (.int .i64) .unit))) (.pair (.sl (.int .i64)) .unit)))) .unit)))))), (4, (.r (.int .i64))), (5, (.r (.int .i64))), (6, (.v (.int .i64)))]
noncomputable def lv_s_EasyClasses_X4 : Lv := [(5, (.r (.int .i64)))]
noncomputable def rv_s_EasyClasses : Lv := [(2, (.r (.int .i64))), (3, (.v (.int .i64)))]
noncomputable def gs_EasyClasses_l9 {R : Type} (K : Nat) (k : Nat) (x : den lv_s_EasyClasses_L9.ty) (kx : Nat → St → Option R) (kr : St → Option R) : Option R := s_EasyClasses_l9 K k x.1 x.2.1 x.2.2.1 x.2.2.2.1 x.2.2.2.2.1 x.2.2.2.2.2.1 (fun z0 z1 z2 z3 => kx 2 (mkSt lv_s_EasyClasses_X2 (z0, z1, z2, z3, ())))
noncomputable def gs_EasyClasses_l5 {R : Type} (K : Nat) (k : Nat) (x : den lv_s_EasyClasses_L5.ty) (kx : Nat → St → Option R) (kr : St → Option R) : Option R := s_EasyClasses_l5 K k x.1 x.2.1 x.2.2.1 x.2.2.2.1 (fun z0 z1 => kx 0 (mkSt lv_s_EasyClasses_X0 (z0, z1, ())))
noncomputable def gs_EasyClasses_l13 {R : Type} (K : Nat) (k : Nat) (x : den lv_s_EasyClasses_L13.ty) (kx : Nat → St → Option R) (kr : St → Option R) : Option R := s_EasyClasses_l13 K k x.1 x.2.1 x.2.2.1 (fun z0 => kx 4 (mkSt lv_s_EasyClasses_X4 (z0, ())))
noncomputable def sg_s_EasyClasses {R : Type} (K : Nat) (k : Nat) : List (Nat × SegS R) := []
noncomputable def su_s_EasyClasses : List (Nat × Unit) := []
noncomputable def en_s_EasyClasses {R : Type} (K : Nat) (k : Nat) : Env R := { L := lk [(9, mkLoop lv_s_EasyClasses_L9 (gs_EasyClasses_l9 K k)), (5, mkLoop lv_s_EasyClasses_L5 (gs_EasyClasses_l5 K k)), (13, mkLoop lv_s_EasyClasses_L13 (gs_EasyClasses_l13 K k))], X := lk [(0, lv_s_EasyClasses_X0), (2, lv_s_EasyClasses_X2), (4, lv_s_EasyClasses_X4)], S := lk (sg_s_EasyClasses K k), rv := rv_s_EasyClasses }
noncomputable def cf_s_EasyClasses (K : Nat) : Cfg := { ty := lk tys, fn := lk [(86, sp_s_l09Is (s_l09Is K)), (87, sp_s_l09Row (s_l09Row K))], prot := 0, nt := Try.f23.ntmps }
noncomputable def c_s_EasyClasses_L5 : Code := nthC (partsOf (hasK su_s_EasyClasses) (bodyOf Try.f23)) 0
noncomputable def c_s_EasyClasses_L9 : Code := nthC (partsOf (hasK su_s_EasyClasses) c_s_EasyClasses_L5) 0
noncomputable def c_s_EasyClasses_L13 : Code := nthC (partsOf (hasK su_s_EasyClasses) (bodyOf Try.f23)) 1
theorem es_EasyClasses_l9 {R : Type} (K : Nat) (k : Nat) (x : den lv_s_EasyClasses_L9.ty) (kx : Nat → St → Option R) (kr : St → Option R) : gs_EasyClasses_l9 K (k + 1) x kx kr = evC (cf_s_EasyClasses K) (en_s_EasyClasses K k) c_s_EasyClasses_L9 (mkSt lv_s_EasyClasses_L9 x) (fun s => mkLoop lv_s_EasyClasses_L9 (gs_EasyClasses_l9 K k) s kx kr) kx kr := by kernel_rfl
theorem ss_EasyClasses_l9 {R : Type} (K : Nat) (C : Cx) (hP : C.P = Try.prog) (O : CfgOk C (cf_s_EasyClasses K)) (k : Nat) : LpS C (R := R) (mkLoop lv_s_EasyClasses_L9 (gs_EasyClasses_l9 K k)) c_s_EasyClasses_L9 :=
  loop_sound O (by rw [hP]; kernel_rfl) (fun x kx kr => rfl) (es_EasyClasses_l9 K) (fun k => lpOk_of (en := en_s_EasyClasses K k) (S := hasK su_s_EasyClasses) (fun i => hasK_lk (sg_s_EasyClasses K k) i) _ (by rw [show partsOf (hasK su_s_EasyClasses) c_s_EasyClasses_L9 = [] from by kernel_rfl]; exact trivial)) k
theorem es_EasyClasses_l5 {R : Type} (K : Nat) (k : Nat) (x : den lv_s_EasyClasses_L5.ty) (kx : Nat → St → Option R) (kr : St → Option R) : gs_EasyClasses_l5 K (k + 1) x kx kr = evC (cf_s_EasyClasses K) (en_s_EasyClasses K k) c_s_EasyClasses_L5 (mkSt lv_s_EasyClasses_L5 x) (fun s => mkLoop lv_s_EasyClasses_L5 (gs_EasyClasses_l5 K k) s kx kr) kx kr := by kernel_rfl
theorem ss_EasyClasses_l5 {R : Type} (K : Nat) (C : Cx) (hP : C.P = Try.prog) (O : CfgOk C (cf_s_EasyClasses K)) (k : Nat) : LpS C (R := R) (mkLoop lv_s_EasyClasses_L5 (gs_EasyClasses_l5 K k)) c_s_EasyClasses_L5 :=
  loop_sound O (by rw [hP]; kernel_rfl) (fun x kx kr => rfl) (es_EasyClasses_l5 K) (fun k => lpOk_of (en := en_s_EasyClasses K k) (S := hasK su_s_EasyClasses) (fun i => hasK_lk (sg_s_EasyClasses K k) i) _ (by rw [show partsOf (hasK su_s_EasyClasses) c_s_EasyClasses_L5 = [(true, c_s_EasyClasses_L9)] from by kernel_rfl]; exact (lpL_loop (f := mkLoop lv_s_EasyClasses_L9 (gs_EasyClasses_l9 K k)) (by kernel_rfl) (ss_EasyClasses_l9 K C hP O k) trivial))) k
theorem es_EasyClasses_l13 {R : Type} (K : Nat) (k : Nat) (x : den lv_s_EasyClasses_L13.ty) (kx : Nat → St → Option R) (kr : St → Option R) : gs_EasyClasses_l13 K (k + 1) x kx kr = evC (cf_s_EasyClasses K) (en_s_EasyClasses K k) c_s_EasyClasses_L13 (mkSt lv_s_EasyClasses_L13 x) (fun s => mkLoop lv_s_EasyClasses_L13 (gs_EasyClasses_l13 K k) s kx kr) kx kr := by kernel_rfl
theorem ss_EasyClasses_l13 {R : Type} (K : Nat) (C : Cx) (hP : C.P = Try.prog) (O : CfgOk C (cf_s_EasyClasses K)) (k : Nat) : LpS C (R := R) (mkLoop lv_s_EasyClasses_L13 (gs_EasyClasses_l13 K k)) c_s_EasyClasses_L13 :=
  loop_sound O (by rw [hP]; kernel_rfl) (fun x kx kr => rfl) (es_EasyClasses_l13 K) (fun k => lpOk_of (en := en_s_EasyClasses K k) (S := hasK su_s_EasyClasses) (fun i => hasK_lk (sg_s_EasyClasses K k) i) _ (by rw [show partsOf (hasK su_s_EasyClasses) c_s_EasyClasses_L13 = [] from by kernel_rfl]; exact trivial)) k
theorem e_s_EasyClasses (K : Nat) (x : den as_s_EasyClasses) : s_EasyClasses K x = evFn (cf_s_EasyClasses K) as_s_EasyClasses [false] (.tup (.pair (.sl (.int .i64)) (.pair (.int .i64) .unit))) (en_s_EasyClasses K K) Try.f23.results.toList (bodyOf Try.f23) x := by kernel_rfl
theorem ok_s_EasyClasses (K : Nat) : FnOk Try.prog 23 (sp_s_EasyClasses (s_EasyClasses K)) :=
  fn_ok (cf := cf_s_EasyClasses K) (en := en_s_EasyClasses K K) (c := bodyOf Try.f23) Try.func23 (by kernel_rfl) (by kernel_rfl) tysOk (fns_ok (l := [(86, sp_s_l09Is (s_l09Is K)), (87, sp_s_l09Row (s_l09Row K))]) ⟨ok_s_l09Is K, ⟨ok_s_l09Row K, trivial⟩⟩) (by kernel_rfl) rfl (Nat.le_of_ble_eq_true (by kernel_rfl)) (by kernel_rfl) (of_decide_eq_true (by kernel_rfl)) (by decide) (fun C hP O => lpOk_of (en := en_s_EasyClasses K K) (S := hasK su_s_EasyClasses) (fun i => hasK_lk (sg_s_EasyClasses K K) i) _ (by rw [show partsOf (hasK su_s_EasyClasses) (bodyOf Try.f23) = [(true, c_s_EasyClasses_L5), (true, c_s_EasyClasses_L13)] from by kernel_rfl]; exact (lpL_loop (f := mkLoop lv_s_EasyClasses_L5 (gs_EasyClasses_l5 K K)) (by kernel_rfl) (ss_EasyClasses_l5 K C hP O K) (lpL_loop (f := mkLoop lv_s_EasyClasses_L13 (gs_EasyClasses_l13 K K)) (by kernel_rfl) (ss_EasyClasses_l13 K C hP O K) trivial)))) (fun x y h => by rw [← e_s_EasyClasses]; exact h)
noncomputable def as_w_szInt64S : Ty := (.pair (.sl (.int .i64)) (.pair (.int .i64) .unit))
noncomputable def sp_w_szInt64S (F : ((List Int) × Int × Unit) → Option Int) : FnSpec := ⟨as_w_szInt64S, [false, false], (.int .i64), F⟩
noncomputable def w_szInt64S (K : Nat) (x : ((List Int) × Int × Unit)) : Option Int :=
    let x1 := (decide ((IntKind.i64.wrap (x.2.1 - (x.1.length : Int))) < (0 : Int)))
    (if x1 = true then
    some (-1 : Int)
    else
    some (IntKind.i64.wrap (x.2.1 - (x.1.length : Int))))
noncomputable def rv_w_szInt64S : Lv := [(4, (.v (.int .i64)))]
noncomputable def sg_w_szInt64S {R : Type} (K : Nat) (k : Nat) : List (Nat × SegS R) := []
noncomputable def su_w_szInt64S : List (Nat × Unit) := []
noncomputable def en_w_szInt64S {R : Type} (K : Nat) (k : Nat) : Env R := { L := lk [], X := lk [], S := lk (sg_w_szInt64S K k), rv := rv_w_szInt64S }
noncomputable def cf_w_szInt64S (K : Nat) : Cfg := { ty := lk tys, fn := lk [], prot := 0, nt := Try.f221.ntmps }
theorem e_w_szInt64S (K : Nat) (x : den as_w_szInt64S) : w_szInt64S K x = evFn (cf_w_szInt64S K) as_w_szInt64S [false, false] (.int .i64) (en_w_szInt64S K K) Try.f221.results.toList (bodyOf Try.f221) x := by kernel_rfl
theorem ok_w_szInt64S (K : Nat) : FnOk Try.prog 221 (sp_w_szInt64S (w_szInt64S K)) :=
  fn_ok (cf := cf_w_szInt64S K) (en := en_w_szInt64S K K) (c := bodyOf Try.f221) Try.func221 (by kernel_rfl) (by kernel_rfl) tysOk (fns_ok (l := []) trivial) (by kernel_rfl) rfl (Nat.le_of_ble_eq_true (by kernel_rfl)) (by kernel_rfl) (of_decide_eq_true (by kernel_rfl)) (by decide) (fun C hP O => lpOk_of (en := en_w_szInt64S K K) (S := hasK su_w_szInt64S) (fun i => hasK_lk (sg_w_szInt64S K K) i) _ (by rw [show partsOf (hasK su_w_szInt64S) (bodyOf Try.f221) = [] from by kernel_rfl]; exact trivial)) (fun x y h => by rw [← e_w_szInt64S]; exact h)
noncomputable def as_w_szClause : Ty := (.pair (.st (.pair (.st (.pair (.int .i64) (.pair (.int .i64) .unit))) (.pair (.sl (.int .i64)) .unit))) (.pair (.int .i64) .unit))
noncomputable def sp_w_szClause (F : (((Int × Int × Unit) × (List Int) × Unit) × Int × Unit) → Option Int) : FnSpec := ⟨as_w_szClause, [false, false], (.int .i64), F⟩
noncomputable def w_szClause (K : Nat) (x : (((Int × Int × Unit) × (List Int) × Unit) × Int × Unit)) : Option Int :=
    (w_szInt64S K (x.1.2.1, x.2.1, ())).bind fun y1 =>
    (if (decide (y1 < (0 : Int))) = true then
    some (-1 : Int)
    else
    some y1)
noncomputable def rv_w_szClause : Lv := [(4, (.v (.int .i64)))]
noncomputable def sg_w_szClause {R : Type} (K : Nat) (k : Nat) : List (Nat × SegS R) := []
noncomputable def su_w_szClause : List (Nat × Unit) := []
noncomputable def en_w_szClause {R : Type} (K : Nat) (k : Nat) : Env R := { L := lk [], X := lk [], S := lk (sg_w_szClause K k), rv := rv_w_szClause }
noncomputable def cf_w_szClause (K : Nat) : Cfg := { ty := lk tys, fn := lk [(221, sp_w_szInt64S (w_szInt64S K))], prot := 0, nt := Try.f151.ntmps }
theorem e_w_szClause (K : Nat) (x : den as_w_szClause) : w_szClause K x = evFn (cf_w_szClause K) as_w_szClause [false, false] (.int .i64) (en_w_szClause K K) Try.f151.results.toList (bodyOf Try.f151) x := by kernel_rfl
theorem ok_w_szClause (K : Nat) : FnOk Try.prog 151 (sp_w_szClause (w_szClause K)) :=
  fn_ok (cf := cf_w_szClause K) (en := en_w_szClause K K) (c := bodyOf Try.f151) Try.func151 (by kernel_rfl) (by kernel_rfl) tysOk (fns_ok (l := [(221, sp_w_szInt64S (w_szInt64S K))]) ⟨ok_w_szInt64S K, trivial⟩) (by kernel_rfl) rfl (Nat.le_of_ble_eq_true (by kernel_rfl)) (by kernel_rfl) (of_decide_eq_true (by kernel_rfl)) (by decide) (fun C hP O => lpOk_of (en := en_w_szClause K K) (S := hasK su_w_szClause) (fun i => hasK_lk (sg_w_szClause K K) i) _ (by rw [show partsOf (hasK su_w_szClause) (bodyOf Try.f151) = [] from by kernel_rfl]; exact trivial)) (fun x y h => by rw [← e_w_szClause]; exact h)
noncomputable def as_w_szClauseS : Ty := (.pair (.sl (.st (.pair (.st (.pair (.int .i64) (.pair (.int .i64) .unit))) (.pair (.sl (.int .i64)) .unit)))) (.pair (.int .i64) .unit))
noncomputable def sp_w_szClauseS (F : ((List ((Int × Int × Unit) × (List Int) × Unit)) × Int × Unit) → Option Int) : FnSpec := ⟨as_w_szClauseS, [false, false], (.int .i64), F⟩
noncomputable def w_szClauseS_l5 {R : Type} (K : Nat) : Nat → (List ((Int × Int × Unit) × (List Int) × Unit)) → Int → Int → (Int → Option R) → (Int → Option R) → Option R
  | 0, _, _, _, _, _ => none
  | k + 1, v0, v1, v5, kx0, kr =>
    (if (decide (v5 < (v0.length : Int))) = true then
    (if (bnds v5 (v0.length : Int)) = true then
    let x2 := (v0.getD v5.toNat (((0 : Int), (0 : Int), ()), ([] : List Int), ()))
    (w_szClause K (x2, v1, ())).bind fun y3 =>
    (if (decide (y3 < (0 : Int))) = true then
    kr (-1 : Int)
    else
    w_szClauseS_l5 K k v0 y3 (IntKind.i64.wrap (v5 + (1 : Int))) kx0 kr)
    else
    none)
    else
    kx0 v1)
noncomputable def w_szClauseS (K : Nat) (x : ((List ((Int × Int × Unit) × (List Int) × Unit)) × Int × Unit)) : Option Int :=
    let x1 := (decide ((IntKind.i64.wrap (x.2.1 - (x.1.length : Int))) < (0 : Int)))
    (if x1 = true then
    some (-1 : Int)
    else
    w_szClauseS_l5 K K x.1 (IntKind.i64.wrap (x.2.1 - (x.1.length : Int))) (0 : Int) (fun z4 =>
    some z4) (fun z5 =>
    some z5))
noncomputable def lv_w_szClauseS_L5 : Lv := [(0, (.v (.sl (.st (.pair (.st (.pair (.int .i64) (.pair (.int .i64) .unit))) (.pair (.sl (.int .i64)) .unit)))))), (1, (.v (.int .i64))), (5, (.v (.int .i64)))]
noncomputable def lv_w_szClauseS_X0 : Lv := [(1, (.v (.int .i64)))]
noncomputable def rv_w_szClauseS : Lv := [(4, (.v (.int .i64)))]
noncomputable def gw_szClauseS_l5 {R : Type} (K : Nat) (k : Nat) (x : den lv_w_szClauseS_L5.ty) (kx : Nat → St → Option R) (kr : St → Option R) : Option R := w_szClauseS_l5 K k x.1 x.2.1 x.2.2.1 (fun z0 => kx 0 (mkSt lv_w_szClauseS_X0 (z0, ()))) (fun z0 => kr (mkSt rv_w_szClauseS (z0, ())))
noncomputable def sg_w_szClauseS {R : Type} (K : Nat) (k : Nat) : List (Nat × SegS R) := []
noncomputable def su_w_szClauseS : List (Nat × Unit) := []
noncomputable def en_w_szClauseS {R : Type} (K : Nat) (k : Nat) : Env R := { L := lk [(5, mkLoop lv_w_szClauseS_L5 (gw_szClauseS_l5 K k))], X := lk [(0, lv_w_szClauseS_X0)], S := lk (sg_w_szClauseS K k), rv := rv_w_szClauseS }
noncomputable def cf_w_szClauseS (K : Nat) : Cfg := { ty := lk tys, fn := lk [(151, sp_w_szClause (w_szClause K))], prot := 0, nt := Try.f85.ntmps }
noncomputable def c_w_szClauseS_L5 : Code := nthC (partsOf (hasK su_w_szClauseS) (bodyOf Try.f85)) 0
theorem ew_szClauseS_l5 {R : Type} (K : Nat) (k : Nat) (x : den lv_w_szClauseS_L5.ty) (kx : Nat → St → Option R) (kr : St → Option R) : gw_szClauseS_l5 K (k + 1) x kx kr = evC (cf_w_szClauseS K) (en_w_szClauseS K k) c_w_szClauseS_L5 (mkSt lv_w_szClauseS_L5 x) (fun s => mkLoop lv_w_szClauseS_L5 (gw_szClauseS_l5 K k) s kx kr) kx kr := by kernel_rfl
theorem sw_szClauseS_l5 {R : Type} (K : Nat) (C : Cx) (hP : C.P = Try.prog) (O : CfgOk C (cf_w_szClauseS K)) (k : Nat) : LpS C (R := R) (mkLoop lv_w_szClauseS_L5 (gw_szClauseS_l5 K k)) c_w_szClauseS_L5 :=
  loop_sound O (by rw [hP]; kernel_rfl) (fun x kx kr => rfl) (ew_szClauseS_l5 K) (fun k => lpOk_of (en := en_w_szClauseS K k) (S := hasK su_w_szClauseS) (fun i => hasK_lk (sg_w_szClauseS K k) i) _ (by rw [show partsOf (hasK su_w_szClauseS) c_w_szClauseS_L5 = [] from by kernel_rfl]; exact trivial)) k
theorem e_w_szClauseS (K : Nat) (x : den as_w_szClauseS) : w_szClauseS K x = evFn (cf_w_szClauseS K) as_w_szClauseS [false, false] (.int .i64) (en_w_szClauseS K K) Try.f85.results.toList (bodyOf Try.f85) x := by kernel_rfl
theorem ok_w_szClauseS (K : Nat) : FnOk Try.prog 85 (sp_w_szClauseS (w_szClauseS K)) :=
  fn_ok (cf := cf_w_szClauseS K) (en := en_w_szClauseS K K) (c := bodyOf Try.f85) Try.func85 (by kernel_rfl) (by kernel_rfl) tysOk (fns_ok (l := [(151, sp_w_szClause (w_szClause K))]) ⟨ok_w_szClause K, trivial⟩) (by kernel_rfl) rfl (Nat.le_of_ble_eq_true (by kernel_rfl)) (by kernel_rfl) (of_decide_eq_true (by kernel_rfl)) (by decide) (fun C hP O => lpOk_of (en := en_w_szClauseS K K) (S := hasK su_w_szClauseS) (fun i => hasK_lk (sg_w_szClauseS K K) i) _ (by rw [show partsOf (hasK su_w_szClauseS) (bodyOf Try.f85) = [(true, c_w_szClauseS_L5)] from by kernel_rfl]; exact (lpL_loop (f := mkLoop lv_w_szClauseS_L5 (gw_szClauseS_l5 K K)) (by kernel_rfl) (sw_szClauseS_l5 K C hP O K) trivial))) (fun x y h => by rw [← e_w_szClauseS]; exact h)
noncomputable def as_w_szInstance : Ty := (.pair (.st (.pair (.int .i64) (.pair (.sl (.st (.pair (.st (.pair (.int .i64) (.pair (.int .i64) .unit))) (.pair (.sl (.int .i64)) .unit)))) .unit))) (.pair (.int .i64) .unit))
noncomputable def sp_w_szInstance (F : ((Int × (List ((Int × Int × Unit) × (List Int) × Unit)) × Unit) × Int × Unit) → Option Int) : FnSpec := ⟨as_w_szInstance, [false, false], (.int .i64), F⟩
noncomputable def w_szInstance (K : Nat) (x : ((Int × (List ((Int × Int × Unit) × (List Int) × Unit)) × Unit) × Int × Unit)) : Option Int :=
    (w_szClauseS K (x.1.2.1, x.2.1, ())).bind fun y1 =>
    (if (decide (y1 < (0 : Int))) = true then
    some (-1 : Int)
    else
    some y1)
noncomputable def rv_w_szInstance : Lv := [(4, (.v (.int .i64)))]
noncomputable def sg_w_szInstance {R : Type} (K : Nat) (k : Nat) : List (Nat × SegS R) := []
noncomputable def su_w_szInstance : List (Nat × Unit) := []
noncomputable def en_w_szInstance {R : Type} (K : Nat) (k : Nat) : Env R := { L := lk [], X := lk [], S := lk (sg_w_szInstance K k), rv := rv_w_szInstance }
noncomputable def cf_w_szInstance (K : Nat) : Cfg := { ty := lk tys, fn := lk [(85, sp_w_szClauseS (w_szClauseS K))], prot := 0, nt := Try.f22.ntmps }
theorem e_w_szInstance (K : Nat) (x : den as_w_szInstance) : w_szInstance K x = evFn (cf_w_szInstance K) as_w_szInstance [false, false] (.int .i64) (en_w_szInstance K K) Try.f22.results.toList (bodyOf Try.f22) x := by kernel_rfl
theorem ok_w_szInstance (K : Nat) : FnOk Try.prog 22 (sp_w_szInstance (w_szInstance K)) :=
  fn_ok (cf := cf_w_szInstance K) (en := en_w_szInstance K K) (c := bodyOf Try.f22) Try.func22 (by kernel_rfl) (by kernel_rfl) tysOk (fns_ok (l := [(85, sp_w_szClauseS (w_szClauseS K))]) ⟨ok_w_szClauseS K, trivial⟩) (by kernel_rfl) rfl (Nat.le_of_ble_eq_true (by kernel_rfl)) (by kernel_rfl) (of_decide_eq_true (by kernel_rfl)) (by decide) (fun C hP O => lpOk_of (en := en_w_szInstance K K) (S := hasK su_w_szInstance) (fun i => hasK_lk (sg_w_szInstance K K) i) _ (by rw [show partsOf (hasK su_w_szInstance) (bodyOf Try.f22) = [] from by kernel_rfl]; exact trivial)) (fun x y h => by rw [← e_w_szInstance]; exact h)
noncomputable def as_w_toRelation : Ty := (.pair (.st (.pair (.int .i64) (.pair (.int .i64) .unit))) .unit)
noncomputable def sp_w_toRelation (F : ((Int × Int × Unit) × Unit) → Option (Int × Int × Unit)) : FnSpec := ⟨as_w_toRelation, [false], (.st (.pair (.int .i64) (.pair (.int .i64) .unit))), F⟩
noncomputable def w_toRelation (K : Nat) (x : ((Int × Int × Unit) × Unit)) : Option (Int × Int × Unit) :=
    some ((x.1.1, ((0 : Int), (0 : Int), ()).2.1, ()).1, x.1.2.1, ())
noncomputable def rv_w_toRelation : Lv := [(2, (.bx (.v (.st (.pair (.int .i64) (.pair (.int .i64) .unit))))))]
noncomputable def sg_w_toRelation {R : Type} (K : Nat) (k : Nat) : List (Nat × SegS R) := []
noncomputable def su_w_toRelation : List (Nat × Unit) := []
noncomputable def en_w_toRelation {R : Type} (K : Nat) (k : Nat) : Env R := { L := lk [], X := lk [], S := lk (sg_w_toRelation K k), rv := rv_w_toRelation }
noncomputable def cf_w_toRelation (K : Nat) : Cfg := { ty := lk tys, fn := lk [], prot := 0, nt := Try.f225.ntmps }
theorem e_w_toRelation (K : Nat) (x : den as_w_toRelation) : w_toRelation K x = evFn (cf_w_toRelation K) as_w_toRelation [false] (.st (.pair (.int .i64) (.pair (.int .i64) .unit))) (en_w_toRelation K K) Try.f225.results.toList (bodyOf Try.f225) x := by kernel_rfl
theorem ok_w_toRelation (K : Nat) : FnOk Try.prog 225 (sp_w_toRelation (w_toRelation K)) :=
  fn_ok (cf := cf_w_toRelation K) (en := en_w_toRelation K K) (c := bodyOf Try.f225) Try.func225 (by kernel_rfl) (by kernel_rfl) tysOk (fns_ok (l := []) trivial) (by kernel_rfl) rfl (Nat.le_of_ble_eq_true (by kernel_rfl)) (by kernel_rfl) (of_decide_eq_true (by kernel_rfl)) (by decide) (fun C hP O => lpOk_of (en := en_w_toRelation K K) (S := hasK su_w_toRelation) (fun i => hasK_lk (sg_w_toRelation K K) i) _ (by rw [show partsOf (hasK su_w_toRelation) (bodyOf Try.f225) = [] from by kernel_rfl]; exact trivial)) (fun x y h => by rw [← e_w_toRelation]; exact h)
noncomputable def as_w_toInt64S : Ty := (.pair (.sl (.int .i64)) .unit)
noncomputable def sp_w_toInt64S (F : ((List Int) × Unit) → Option (List Int)) : FnSpec := ⟨as_w_toInt64S, [false], (.sl (.int .i64)), F⟩
noncomputable def w_toInt64S_l3 {R : Type} (K : Nat) : Nat → (List Int) → (List Int) → Int → ((List Int) → Option R) → Option R
  | 0, _, _, _, _ => none
  | k + 1, v0, v3, v4, kx0 =>
    (if (decide (v4 < (v0.length : Int))) = true then
    (if (bnds v4 (v0.length : Int)) = true then
    (if (bnds v4 (v3.length : Int)) = true then
    let l2 := (v3.set v4.toNat (v0.getD v4.toNat (0 : Int)))
    w_toInt64S_l3 K k v0 l2 (IntKind.i64.wrap (v4 + (1 : Int))) kx0
    else
    none)
    else
    none)
    else
    kx0 v3)
noncomputable def w_toInt64S (K : Nat) (x : ((List Int) × Unit)) : Option (List Int) :=
    (if (decide (0 ≤ (x.1.length : Int)) && decide ((x.1.length : Int) ≤ (lim : Int)) && decide ((x.1.length : Int) = (x.1.length : Int))) = true then
    let l1 := (List.replicate (x.1.length : Int).toNat (0 : Int))
    w_toInt64S_l3 K K x.1 l1 (0 : Int) (fun z3 =>
    some z3)
    else
    none)
noncomputable def lv_w_toInt64S_L3 : Lv := [(0, (.v (.sl (.int .i64)))), (3, (.r (.int .i64))), (4, (.v (.int .i64)))]
noncomputable def lv_w_toInt64S_X0 : Lv := [(3, (.r (.int .i64)))]
noncomputable def rv_w_toInt64S : Lv := [(2, (.r (.int .i64)))]
noncomputable def gw_toInt64S_l3 {R : Type} (K : Nat) (k : Nat) (x : den lv_w_toInt64S_L3.ty) (kx : Nat → St → Option R) (kr : St → Option R) : Option R := w_toInt64S_l3 K k x.1 x.2.1 x.2.2.1 (fun z0 => kx 0 (mkSt lv_w_toInt64S_X0 (z0, ())))
noncomputable def sg_w_toInt64S {R : Type} (K : Nat) (k : Nat) : List (Nat × SegS R) := []
noncomputable def su_w_toInt64S : List (Nat × Unit) := []
noncomputable def en_w_toInt64S {R : Type} (K : Nat) (k : Nat) : Env R := { L := lk [(3, mkLoop lv_w_toInt64S_L3 (gw_toInt64S_l3 K k))], X := lk [(0, lv_w_toInt64S_X0)], S := lk (sg_w_toInt64S K k), rv := rv_w_toInt64S }
noncomputable def cf_w_toInt64S (K : Nat) : Cfg := { ty := lk tys, fn := lk [], prot := 0, nt := Try.f226.ntmps }
noncomputable def c_w_toInt64S_L3 : Code := nthC (partsOf (hasK su_w_toInt64S) (bodyOf Try.f226)) 0
theorem ew_toInt64S_l3 {R : Type} (K : Nat) (k : Nat) (x : den lv_w_toInt64S_L3.ty) (kx : Nat → St → Option R) (kr : St → Option R) : gw_toInt64S_l3 K (k + 1) x kx kr = evC (cf_w_toInt64S K) (en_w_toInt64S K k) c_w_toInt64S_L3 (mkSt lv_w_toInt64S_L3 x) (fun s => mkLoop lv_w_toInt64S_L3 (gw_toInt64S_l3 K k) s kx kr) kx kr := by kernel_rfl
theorem sw_toInt64S_l3 {R : Type} (K : Nat) (C : Cx) (hP : C.P = Try.prog) (O : CfgOk C (cf_w_toInt64S K)) (k : Nat) : LpS C (R := R) (mkLoop lv_w_toInt64S_L3 (gw_toInt64S_l3 K k)) c_w_toInt64S_L3 :=
  loop_sound O (by rw [hP]; kernel_rfl) (fun x kx kr => rfl) (ew_toInt64S_l3 K) (fun k => lpOk_of (en := en_w_toInt64S K k) (S := hasK su_w_toInt64S) (fun i => hasK_lk (sg_w_toInt64S K k) i) _ (by rw [show partsOf (hasK su_w_toInt64S) c_w_toInt64S_L3 = [] from by kernel_rfl]; exact trivial)) k
theorem e_w_toInt64S (K : Nat) (x : den as_w_toInt64S) : w_toInt64S K x = evFn (cf_w_toInt64S K) as_w_toInt64S [false] (.sl (.int .i64)) (en_w_toInt64S K K) Try.f226.results.toList (bodyOf Try.f226) x := by kernel_rfl
theorem ok_w_toInt64S (K : Nat) : FnOk Try.prog 226 (sp_w_toInt64S (w_toInt64S K)) :=
  fn_ok (cf := cf_w_toInt64S K) (en := en_w_toInt64S K K) (c := bodyOf Try.f226) Try.func226 (by kernel_rfl) (by kernel_rfl) tysOk (fns_ok (l := []) trivial) (by kernel_rfl) rfl (Nat.le_of_ble_eq_true (by kernel_rfl)) (by kernel_rfl) (of_decide_eq_true (by kernel_rfl)) (by decide) (fun C hP O => lpOk_of (en := en_w_toInt64S K K) (S := hasK su_w_toInt64S) (fun i => hasK_lk (sg_w_toInt64S K K) i) _ (by rw [show partsOf (hasK su_w_toInt64S) (bodyOf Try.f226) = [(true, c_w_toInt64S_L3)] from by kernel_rfl]; exact (lpL_loop (f := mkLoop lv_w_toInt64S_L3 (gw_toInt64S_l3 K K)) (by kernel_rfl) (sw_toInt64S_l3 K C hP O K) trivial))) (fun x y h => by rw [← e_w_toInt64S]; exact h)
noncomputable def as_w_toClause : Ty := (.pair (.st (.pair (.st (.pair (.int .i64) (.pair (.int .i64) .unit))) (.pair (.sl (.int .i64)) .unit))) .unit)
noncomputable def sp_w_toClause (F : (((Int × Int × Unit) × (List Int) × Unit) × Unit) → Option ((Int × Int × Unit) × (List Int) × Unit)) : FnSpec := ⟨as_w_toClause, [false], (.st (.pair (.st (.pair (.int .i64) (.pair (.int .i64) .unit))) (.pair (.sl (.int .i64)) .unit))), F⟩
noncomputable def w_toClause (K : Nat) (x : (((Int × Int × Unit) × (List Int) × Unit) × Unit)) : Option ((Int × Int × Unit) × (List Int) × Unit) :=
    (w_toRelation K (x.1.1, ())).bind fun y1 =>
    (w_toInt64S K (x.1.2.1, ())).bind fun y2 =>
    some (y1, y2, ())
noncomputable def rv_w_toClause : Lv := [(2, (.bx (.st (.pair (.v (.st (.pair (.int .i64) (.pair (.int .i64) .unit)))) (.pair (.r (.int .i64)) .unit)))))]
noncomputable def sg_w_toClause {R : Type} (K : Nat) (k : Nat) : List (Nat × SegS R) := []
noncomputable def su_w_toClause : List (Nat × Unit) := []
noncomputable def en_w_toClause {R : Type} (K : Nat) (k : Nat) : Env R := { L := lk [], X := lk [], S := lk (sg_w_toClause K k), rv := rv_w_toClause }
noncomputable def cf_w_toClause (K : Nat) : Cfg := { ty := lk tys, fn := lk [(225, sp_w_toRelation (w_toRelation K)), (226, sp_w_toInt64S (w_toInt64S K))], prot := 0, nt := Try.f157.ntmps }
theorem e_w_toClause (K : Nat) (x : den as_w_toClause) : w_toClause K x = evFn (cf_w_toClause K) as_w_toClause [false] (.st (.pair (.st (.pair (.int .i64) (.pair (.int .i64) .unit))) (.pair (.sl (.int .i64)) .unit))) (en_w_toClause K K) Try.f157.results.toList (bodyOf Try.f157) x := by kernel_rfl
theorem ok_w_toClause (K : Nat) : FnOk Try.prog 157 (sp_w_toClause (w_toClause K)) :=
  fn_ok (cf := cf_w_toClause K) (en := en_w_toClause K K) (c := bodyOf Try.f157) Try.func157 (by kernel_rfl) (by kernel_rfl) tysOk (fns_ok (l := [(225, sp_w_toRelation (w_toRelation K)), (226, sp_w_toInt64S (w_toInt64S K))]) ⟨ok_w_toRelation K, ⟨ok_w_toInt64S K, trivial⟩⟩) (by kernel_rfl) rfl (Nat.le_of_ble_eq_true (by kernel_rfl)) (by kernel_rfl) (of_decide_eq_true (by kernel_rfl)) (by decide) (fun C hP O => lpOk_of (en := en_w_toClause K K) (S := hasK su_w_toClause) (fun i => hasK_lk (sg_w_toClause K K) i) _ (by rw [show partsOf (hasK su_w_toClause) (bodyOf Try.f157) = [] from by kernel_rfl]; exact trivial)) (fun x y h => by rw [← e_w_toClause]; exact h)
noncomputable def as_w_toClauseS : Ty := (.pair (.sl (.st (.pair (.st (.pair (.int .i64) (.pair (.int .i64) .unit))) (.pair (.sl (.int .i64)) .unit)))) .unit)
noncomputable def sp_w_toClauseS (F : ((List ((Int × Int × Unit) × (List Int) × Unit)) × Unit) → Option (List ((Int × Int × Unit) × (List Int) × Unit))) : FnSpec := ⟨as_w_toClauseS, [false], (.sl (.st (.pair (.st (.pair (.int .i64) (.pair (.int .i64) .unit))) (.pair (.sl (.int .i64)) .unit)))), F⟩
noncomputable def w_toClauseS_l3 {R : Type} (K : Nat) : Nat → (List ((Int × Int × Unit) × (List Int) × Unit)) → (List ((Int × Int × Unit) × (List Int) × Unit)) → Int → ((List ((Int × Int × Unit) × (List Int) × Unit)) → Option R) → Option R
  | 0, _, _, _, _ => none
  | k + 1, v0, v3, v4, kx0 =>
    (if (decide (v4 < (v0.length : Int))) = true then
    (if (bnds v4 (v0.length : Int)) = true then
    let x2 := (v0.getD v4.toNat (((0 : Int), (0 : Int), ()), ([] : List Int), ()))
    (w_toClause K (x2, ())).bind fun y3 =>
    (if (bnds v4 (v3.length : Int)) = true then
    let l4 := (v3.set v4.toNat (y3.1, y3.2.1, ()))
    w_toClauseS_l3 K k v0 l4 (IntKind.i64.wrap (v4 + (1 : Int))) kx0
    else
    none)
    else
    none)
    else
    kx0 v3)
noncomputable def w_toClauseS (K : Nat) (x : ((List ((Int × Int × Unit) × (List Int) × Unit)) × Unit)) : Option (List ((Int × Int × Unit) × (List Int) × Unit)) :=
    (if (decide (0 ≤ (x.1.length : Int)) && decide ((x.1.length : Int) ≤ (lim : Int)) && decide ((x.1.length : Int) = (x.1.length : Int))) = true then
    let l1 := (List.replicate (x.1.length : Int).toNat (((0 : Int), (0 : Int), ()), ([] : List Int), ()))
    w_toClauseS_l3 K K x.1 l1 (0 : Int) (fun z5 =>
    some z5)
    else
    none)
noncomputable def lv_w_toClauseS_L3 : Lv := [(0, (.v (.sl (.st (.pair (.st (.pair (.int .i64) (.pair (.int .i64) .unit))) (.pair (.sl (.int .i64)) .unit)))))), (3, (.r (.st (.pair (.st (.pair (.int .i64) (.pair (.int .i64) .unit))) (.pair (.sl (.int .i64)) .unit))))), (4, (.v (.int .i64)))]
noncomputable def lv_w_toClauseS_X0 : Lv := [(3, (.r (.st (.pair (.st (.pair (.int .i64) (.pair (.int .i64) .unit))) (.pair (.sl (.int .i64)) .unit)))))]
noncomputable def rv_w_toClauseS : Lv := [(2, (.r (.st (.pair (.st (.pair (.int .i64) (.pair (.int .i64) .unit))) (.pair (.sl (.int .i64)) .unit)))))]
noncomputable def gw_toClauseS_l3 {R : Type} (K : Nat) (k : Nat) (x : den lv_w_toClauseS_L3.ty) (kx : Nat → St → Option R) (kr : St → Option R) : Option R := w_toClauseS_l3 K k x.1 x.2.1 x.2.2.1 (fun z0 => kx 0 (mkSt lv_w_toClauseS_X0 (z0, ())))
noncomputable def sg_w_toClauseS {R : Type} (K : Nat) (k : Nat) : List (Nat × SegS R) := []
noncomputable def su_w_toClauseS : List (Nat × Unit) := []
noncomputable def en_w_toClauseS {R : Type} (K : Nat) (k : Nat) : Env R := { L := lk [(3, mkLoop lv_w_toClauseS_L3 (gw_toClauseS_l3 K k))], X := lk [(0, lv_w_toClauseS_X0)], S := lk (sg_w_toClauseS K k), rv := rv_w_toClauseS }
noncomputable def cf_w_toClauseS (K : Nat) : Cfg := { ty := lk tys, fn := lk [(157, sp_w_toClause (w_toClause K))], prot := 0, nt := Try.f88.ntmps }
noncomputable def c_w_toClauseS_L3 : Code := nthC (partsOf (hasK su_w_toClauseS) (bodyOf Try.f88)) 0
theorem ew_toClauseS_l3 {R : Type} (K : Nat) (k : Nat) (x : den lv_w_toClauseS_L3.ty) (kx : Nat → St → Option R) (kr : St → Option R) : gw_toClauseS_l3 K (k + 1) x kx kr = evC (cf_w_toClauseS K) (en_w_toClauseS K k) c_w_toClauseS_L3 (mkSt lv_w_toClauseS_L3 x) (fun s => mkLoop lv_w_toClauseS_L3 (gw_toClauseS_l3 K k) s kx kr) kx kr := by kernel_rfl
theorem sw_toClauseS_l3 {R : Type} (K : Nat) (C : Cx) (hP : C.P = Try.prog) (O : CfgOk C (cf_w_toClauseS K)) (k : Nat) : LpS C (R := R) (mkLoop lv_w_toClauseS_L3 (gw_toClauseS_l3 K k)) c_w_toClauseS_L3 :=
  loop_sound O (by rw [hP]; kernel_rfl) (fun x kx kr => rfl) (ew_toClauseS_l3 K) (fun k => lpOk_of (en := en_w_toClauseS K k) (S := hasK su_w_toClauseS) (fun i => hasK_lk (sg_w_toClauseS K k) i) _ (by rw [show partsOf (hasK su_w_toClauseS) c_w_toClauseS_L3 = [] from by kernel_rfl]; exact trivial)) k
theorem e_w_toClauseS (K : Nat) (x : den as_w_toClauseS) : w_toClauseS K x = evFn (cf_w_toClauseS K) as_w_toClauseS [false] (.sl (.st (.pair (.st (.pair (.int .i64) (.pair (.int .i64) .unit))) (.pair (.sl (.int .i64)) .unit)))) (en_w_toClauseS K K) Try.f88.results.toList (bodyOf Try.f88) x := by kernel_rfl
theorem ok_w_toClauseS (K : Nat) : FnOk Try.prog 88 (sp_w_toClauseS (w_toClauseS K)) :=
  fn_ok (cf := cf_w_toClauseS K) (en := en_w_toClauseS K K) (c := bodyOf Try.f88) Try.func88 (by kernel_rfl) (by kernel_rfl) tysOk (fns_ok (l := [(157, sp_w_toClause (w_toClause K))]) ⟨ok_w_toClause K, trivial⟩) (by kernel_rfl) rfl (Nat.le_of_ble_eq_true (by kernel_rfl)) (by kernel_rfl) (of_decide_eq_true (by kernel_rfl)) (by decide) (fun C hP O => lpOk_of (en := en_w_toClauseS K K) (S := hasK su_w_toClauseS) (fun i => hasK_lk (sg_w_toClauseS K K) i) _ (by rw [show partsOf (hasK su_w_toClauseS) (bodyOf Try.f88) = [(true, c_w_toClauseS_L3)] from by kernel_rfl]; exact (lpL_loop (f := mkLoop lv_w_toClauseS_L3 (gw_toClauseS_l3 K K)) (by kernel_rfl) (sw_toClauseS_l3 K C hP O K) trivial))) (fun x y h => by rw [← e_w_toClauseS]; exact h)
noncomputable def as_w_toInstance : Ty := (.pair (.st (.pair (.int .i64) (.pair (.sl (.st (.pair (.st (.pair (.int .i64) (.pair (.int .i64) .unit))) (.pair (.sl (.int .i64)) .unit)))) .unit))) .unit)
noncomputable def sp_w_toInstance (F : ((Int × (List ((Int × Int × Unit) × (List Int) × Unit)) × Unit) × Unit) → Option (Int × (List ((Int × Int × Unit) × (List Int) × Unit)) × Unit)) : FnSpec := ⟨as_w_toInstance, [false], (.st (.pair (.int .i64) (.pair (.sl (.st (.pair (.st (.pair (.int .i64) (.pair (.int .i64) .unit))) (.pair (.sl (.int .i64)) .unit)))) .unit))), F⟩
noncomputable def w_toInstance (K : Nat) (x : ((Int × (List ((Int × Int × Unit) × (List Int) × Unit)) × Unit) × Unit)) : Option (Int × (List ((Int × Int × Unit) × (List Int) × Unit)) × Unit) :=
    (w_toClauseS K (x.1.2.1, ())).bind fun y1 =>
    some (x.1.1, y1, ())
noncomputable def rv_w_toInstance : Lv := [(2, (.bx (.st (.pair (.v (.int .i64)) (.pair (.r (.st (.pair (.st (.pair (.int .i64) (.pair (.int .i64) .unit))) (.pair (.sl (.int .i64)) .unit)))) .unit)))))]
noncomputable def sg_w_toInstance {R : Type} (K : Nat) (k : Nat) : List (Nat × SegS R) := []
noncomputable def su_w_toInstance : List (Nat × Unit) := []
noncomputable def en_w_toInstance {R : Type} (K : Nat) (k : Nat) : Env R := { L := lk [], X := lk [], S := lk (sg_w_toInstance K k), rv := rv_w_toInstance }
noncomputable def cf_w_toInstance (K : Nat) : Cfg := { ty := lk tys, fn := lk [(88, sp_w_toClauseS (w_toClauseS K))], prot := 0, nt := Try.f24.ntmps }
theorem e_w_toInstance (K : Nat) (x : den as_w_toInstance) : w_toInstance K x = evFn (cf_w_toInstance K) as_w_toInstance [false] (.st (.pair (.int .i64) (.pair (.sl (.st (.pair (.st (.pair (.int .i64) (.pair (.int .i64) .unit))) (.pair (.sl (.int .i64)) .unit)))) .unit))) (en_w_toInstance K K) Try.f24.results.toList (bodyOf Try.f24) x := by kernel_rfl
theorem ok_w_toInstance (K : Nat) : FnOk Try.prog 24 (sp_w_toInstance (w_toInstance K)) :=
  fn_ok (cf := cf_w_toInstance K) (en := en_w_toInstance K K) (c := bodyOf Try.f24) Try.func24 (by kernel_rfl) (by kernel_rfl) tysOk (fns_ok (l := [(88, sp_w_toClauseS (w_toClauseS K))]) ⟨ok_w_toClauseS K, trivial⟩) (by kernel_rfl) rfl (Nat.le_of_ble_eq_true (by kernel_rfl)) (by kernel_rfl) (of_decide_eq_true (by kernel_rfl)) (by decide) (fun C hP O => lpOk_of (en := en_w_toInstance K K) (S := hasK su_w_toInstance) (fun i => hasK_lk (sg_w_toInstance K K) i) _ (by rw [show partsOf (hasK su_w_toInstance) (bodyOf Try.f24) = [] from by kernel_rfl]; exact trivial)) (fun x y h => by rw [← e_w_toInstance]; exact h)
noncomputable def as_w_eqInt64S : Ty := (.pair (.sl (.int .i64)) (.pair (.sl (.int .i64)) .unit))
noncomputable def sp_w_eqInt64S (F : ((List Int) × (List Int) × Unit) → Option Bool) : FnSpec := ⟨as_w_eqInt64S, [false, false], .bool, F⟩
noncomputable def w_eqInt64S_l4 {R : Type} (K : Nat) : Nat → (List Int) → (List Int) → Int → (Option R) → (Bool → Option R) → Option R
  | 0, _, _, _, _, _ => none
  | k + 1, v0, v1, v5, kx0, kr =>
    (if (decide (v5 < (v0.length : Int))) = true then
    (if (bnds v5 (v0.length : Int)) = true then
    (if (bnds v5 (v1.length : Int)) = true then
    let x1 := (!decide ((v0.getD v5.toNat (0 : Int)) = (v1.getD v5.toNat (0 : Int))))
    (if x1 = true then
    kr false
    else
    w_eqInt64S_l4 K k v0 v1 (IntKind.i64.wrap (v5 + (1 : Int))) kx0 kr)
    else
    none)
    else
    none)
    else
    kx0)
noncomputable def w_eqInt64S (K : Nat) (x : ((List Int) × (List Int) × Unit)) : Option Bool :=
    (if (!decide ((x.1.length : Int) = (x.2.1.length : Int))) = true then
    some false
    else
    w_eqInt64S_l4 K K x.1 x.2.1 (0 : Int) (some true) (fun z2 =>
    some z2))
noncomputable def lv_w_eqInt64S_L4 : Lv := [(0, (.v (.sl (.int .i64)))), (1, (.v (.sl (.int .i64)))), (5, (.v (.int .i64)))]
noncomputable def lv_w_eqInt64S_X0 : Lv := []
noncomputable def rv_w_eqInt64S : Lv := [(4, (.v .bool))]
noncomputable def gw_eqInt64S_l4 {R : Type} (K : Nat) (k : Nat) (x : den lv_w_eqInt64S_L4.ty) (kx : Nat → St → Option R) (kr : St → Option R) : Option R := w_eqInt64S_l4 K k x.1 x.2.1 x.2.2.1 (kx 0 (mkSt lv_w_eqInt64S_X0 ())) (fun z0 => kr (mkSt rv_w_eqInt64S (z0, ())))
noncomputable def sg_w_eqInt64S {R : Type} (K : Nat) (k : Nat) : List (Nat × SegS R) := []
noncomputable def su_w_eqInt64S : List (Nat × Unit) := []
noncomputable def en_w_eqInt64S {R : Type} (K : Nat) (k : Nat) : Env R := { L := lk [(4, mkLoop lv_w_eqInt64S_L4 (gw_eqInt64S_l4 K k))], X := lk [(0, lv_w_eqInt64S_X0)], S := lk (sg_w_eqInt64S K k), rv := rv_w_eqInt64S }
noncomputable def cf_w_eqInt64S (K : Nat) : Cfg := { ty := lk tys, fn := lk [], prot := 0, nt := Try.f26.ntmps }
noncomputable def c_w_eqInt64S_L4 : Code := nthC (partsOf (hasK su_w_eqInt64S) (bodyOf Try.f26)) 0
theorem ew_eqInt64S_l4 {R : Type} (K : Nat) (k : Nat) (x : den lv_w_eqInt64S_L4.ty) (kx : Nat → St → Option R) (kr : St → Option R) : gw_eqInt64S_l4 K (k + 1) x kx kr = evC (cf_w_eqInt64S K) (en_w_eqInt64S K k) c_w_eqInt64S_L4 (mkSt lv_w_eqInt64S_L4 x) (fun s => mkLoop lv_w_eqInt64S_L4 (gw_eqInt64S_l4 K k) s kx kr) kx kr := by kernel_rfl
theorem sw_eqInt64S_l4 {R : Type} (K : Nat) (C : Cx) (hP : C.P = Try.prog) (O : CfgOk C (cf_w_eqInt64S K)) (k : Nat) : LpS C (R := R) (mkLoop lv_w_eqInt64S_L4 (gw_eqInt64S_l4 K k)) c_w_eqInt64S_L4 :=
  loop_sound O (by rw [hP]; kernel_rfl) (fun x kx kr => rfl) (ew_eqInt64S_l4 K) (fun k => lpOk_of (en := en_w_eqInt64S K k) (S := hasK su_w_eqInt64S) (fun i => hasK_lk (sg_w_eqInt64S K k) i) _ (by rw [show partsOf (hasK su_w_eqInt64S) c_w_eqInt64S_L4 = [] from by kernel_rfl]; exact trivial)) k
theorem e_w_eqInt64S (K : Nat) (x : den as_w_eqInt64S) : w_eqInt64S K x = evFn (cf_w_eqInt64S K) as_w_eqInt64S [false, false] .bool (en_w_eqInt64S K K) Try.f26.results.toList (bodyOf Try.f26) x := by kernel_rfl
theorem ok_w_eqInt64S (K : Nat) : FnOk Try.prog 26 (sp_w_eqInt64S (w_eqInt64S K)) :=
  fn_ok (cf := cf_w_eqInt64S K) (en := en_w_eqInt64S K K) (c := bodyOf Try.f26) Try.func26 (by kernel_rfl) (by kernel_rfl) tysOk (fns_ok (l := []) trivial) (by kernel_rfl) rfl (Nat.le_of_ble_eq_true (by kernel_rfl)) (by kernel_rfl) (of_decide_eq_true (by kernel_rfl)) (by decide) (fun C hP O => lpOk_of (en := en_w_eqInt64S K K) (S := hasK su_w_eqInt64S) (fun i => hasK_lk (sg_w_eqInt64S K K) i) _ (by rw [show partsOf (hasK su_w_eqInt64S) (bodyOf Try.f26) = [(true, c_w_eqInt64S_L4)] from by kernel_rfl]; exact (lpL_loop (f := mkLoop lv_w_eqInt64S_L4 (gw_eqInt64S_l4 K K)) (by kernel_rfl) (sw_eqInt64S_l4 K C hP O K) trivial))) (fun x y h => by rw [← e_w_eqInt64S]; exact h)
noncomputable def as_w_eqRelation : Ty := (.pair (.st (.pair (.int .i64) (.pair (.int .i64) .unit))) (.pair (.st (.pair (.int .i64) (.pair (.int .i64) .unit))) .unit))
noncomputable def sp_w_eqRelation (F : ((Int × Int × Unit) × (Int × Int × Unit) × Unit) → Option Bool) : FnSpec := ⟨as_w_eqRelation, [false, false], .bool, F⟩
noncomputable def w_eqRelation (K : Nat) (x : ((Int × Int × Unit) × (Int × Int × Unit) × Unit)) : Option Bool :=
    (if (!decide (x.1.1 = x.2.1.1)) = true then
    some false
    else
    (if (!decide (x.1.2.1 = x.2.1.2.1)) = true then
    some false
    else
    some true))
noncomputable def rv_w_eqRelation : Lv := [(4, (.v .bool))]
noncomputable def sg_w_eqRelation {R : Type} (K : Nat) (k : Nat) : List (Nat × SegS R) := []
noncomputable def su_w_eqRelation : List (Nat × Unit) := []
noncomputable def en_w_eqRelation {R : Type} (K : Nat) (k : Nat) : Env R := { L := lk [], X := lk [], S := lk (sg_w_eqRelation K k), rv := rv_w_eqRelation }
noncomputable def cf_w_eqRelation (K : Nat) : Cfg := { ty := lk tys, fn := lk [], prot := 0, nt := Try.f233.ntmps }
theorem e_w_eqRelation (K : Nat) (x : den as_w_eqRelation) : w_eqRelation K x = evFn (cf_w_eqRelation K) as_w_eqRelation [false, false] .bool (en_w_eqRelation K K) Try.f233.results.toList (bodyOf Try.f233) x := by kernel_rfl
theorem ok_w_eqRelation (K : Nat) : FnOk Try.prog 233 (sp_w_eqRelation (w_eqRelation K)) :=
  fn_ok (cf := cf_w_eqRelation K) (en := en_w_eqRelation K K) (c := bodyOf Try.f233) Try.func233 (by kernel_rfl) (by kernel_rfl) tysOk (fns_ok (l := []) trivial) (by kernel_rfl) rfl (Nat.le_of_ble_eq_true (by kernel_rfl)) (by kernel_rfl) (of_decide_eq_true (by kernel_rfl)) (by decide) (fun C hP O => lpOk_of (en := en_w_eqRelation K K) (S := hasK su_w_eqRelation) (fun i => hasK_lk (sg_w_eqRelation K K) i) _ (by rw [show partsOf (hasK su_w_eqRelation) (bodyOf Try.f233) = [] from by kernel_rfl]; exact trivial)) (fun x y h => by rw [← e_w_eqRelation]; exact h)
noncomputable def as_w_eqClause : Ty := (.pair (.st (.pair (.st (.pair (.int .i64) (.pair (.int .i64) .unit))) (.pair (.sl (.int .i64)) .unit))) (.pair (.st (.pair (.st (.pair (.int .i64) (.pair (.int .i64) .unit))) (.pair (.sl (.int .i64)) .unit))) .unit))
noncomputable def sp_w_eqClause (F : (((Int × Int × Unit) × (List Int) × Unit) × ((Int × Int × Unit) × (List Int) × Unit) × Unit) → Option Bool) : FnSpec := ⟨as_w_eqClause, [false, false], .bool, F⟩
noncomputable def w_eqClause (K : Nat) (x : (((Int × Int × Unit) × (List Int) × Unit) × ((Int × Int × Unit) × (List Int) × Unit) × Unit)) : Option Bool :=
    (w_eqRelation K (x.1.1, x.2.1.1, ())).bind fun y1 =>
    (if (!y1) = true then
    some false
    else
    (w_eqInt64S K (x.1.2.1, x.2.1.2.1, ())).bind fun y2 =>
    (if (!y2) = true then
    some false
    else
    some true))
noncomputable def rv_w_eqClause : Lv := [(4, (.v .bool))]
noncomputable def sg_w_eqClause {R : Type} (K : Nat) (k : Nat) : List (Nat × SegS R) := []
noncomputable def su_w_eqClause : List (Nat × Unit) := []
noncomputable def en_w_eqClause {R : Type} (K : Nat) (k : Nat) : Env R := { L := lk [], X := lk [], S := lk (sg_w_eqClause K k), rv := rv_w_eqClause }
noncomputable def cf_w_eqClause (K : Nat) : Cfg := { ty := lk tys, fn := lk [(26, sp_w_eqInt64S (w_eqInt64S K)), (233, sp_w_eqRelation (w_eqRelation K))], prot := 0, nt := Try.f167.ntmps }
theorem e_w_eqClause (K : Nat) (x : den as_w_eqClause) : w_eqClause K x = evFn (cf_w_eqClause K) as_w_eqClause [false, false] .bool (en_w_eqClause K K) Try.f167.results.toList (bodyOf Try.f167) x := by kernel_rfl
theorem ok_w_eqClause (K : Nat) : FnOk Try.prog 167 (sp_w_eqClause (w_eqClause K)) :=
  fn_ok (cf := cf_w_eqClause K) (en := en_w_eqClause K K) (c := bodyOf Try.f167) Try.func167 (by kernel_rfl) (by kernel_rfl) tysOk (fns_ok (l := [(26, sp_w_eqInt64S (w_eqInt64S K)), (233, sp_w_eqRelation (w_eqRelation K))]) ⟨ok_w_eqInt64S K, ⟨ok_w_eqRelation K, trivial⟩⟩) (by kernel_rfl) rfl (Nat.le_of_ble_eq_true (by kernel_rfl)) (by kernel_rfl) (of_decide_eq_true (by kernel_rfl)) (by decide) (fun C hP O => lpOk_of (en := en_w_eqClause K K) (S := hasK su_w_eqClause) (fun i => hasK_lk (sg_w_eqClause K K) i) _ (by rw [show partsOf (hasK su_w_eqClause) (bodyOf Try.f167) = [] from by kernel_rfl]; exact trivial)) (fun x y h => by rw [← e_w_eqClause]; exact h)
noncomputable def as_w_eqClauseS : Ty := (.pair (.sl (.st (.pair (.st (.pair (.int .i64) (.pair (.int .i64) .unit))) (.pair (.sl (.int .i64)) .unit)))) (.pair (.sl (.st (.pair (.st (.pair (.int .i64) (.pair (.int .i64) .unit))) (.pair (.sl (.int .i64)) .unit)))) .unit))
noncomputable def sp_w_eqClauseS (F : ((List ((Int × Int × Unit) × (List Int) × Unit)) × (List ((Int × Int × Unit) × (List Int) × Unit)) × Unit) → Option Bool) : FnSpec := ⟨as_w_eqClauseS, [false, false], .bool, F⟩
noncomputable def w_eqClauseS_l4 {R : Type} (K : Nat) : Nat → (List ((Int × Int × Unit) × (List Int) × Unit)) → (List ((Int × Int × Unit) × (List Int) × Unit)) → Int → (Option R) → (Bool → Option R) → Option R
  | 0, _, _, _, _, _ => none
  | k + 1, v0, v1, v5, kx0, kr =>
    (if (decide (v5 < (v0.length : Int))) = true then
    (if (bnds v5 (v0.length : Int)) = true then
    let x1 := (v0.getD v5.toNat (((0 : Int), (0 : Int), ()), ([] : List Int), ()))
    (if (bnds v5 (v1.length : Int)) = true then
    let x2 := (v1.getD v5.toNat (((0 : Int), (0 : Int), ()), ([] : List Int), ()))
    (w_eqClause K (x1, x2, ())).bind fun y3 =>
    (if (!y3) = true then
    kr false
    else
    w_eqClauseS_l4 K k v0 v1 (IntKind.i64.wrap (v5 + (1 : Int))) kx0 kr)
    else
    none)
    else
    none)
    else
    kx0)
noncomputable def w_eqClauseS (K : Nat) (x : ((List ((Int × Int × Unit) × (List Int) × Unit)) × (List ((Int × Int × Unit) × (List Int) × Unit)) × Unit)) : Option Bool :=
    (if (!decide ((x.1.length : Int) = (x.2.1.length : Int))) = true then
    some false
    else
    w_eqClauseS_l4 K K x.1 x.2.1 (0 : Int) (some true) (fun z4 =>
    some z4))
noncomputable def lv_w_eqClauseS_L4 : Lv := [(0, (.v (.sl (.st (.pair (.st (.pair (.int .i64) (.pair (.int .i64) .unit))) (.pair (.sl (.int .i64)) .unit)))))), (1, (.v (.sl (.st (.pair (.st (.pair (.int .i64) (.pair (.int .i64) .unit))) (.pair (.sl (.int .i64)) .unit)))))), (5, (.v (.int .i64)))]
noncomputable def lv_w_eqClauseS_X0 : Lv := []
noncomputable def rv_w_eqClauseS : Lv := [(4, (.v .bool))]
noncomputable def gw_eqClauseS_l4 {R : Type} (K : Nat) (k : Nat) (x : den lv_w_eqClauseS_L4.ty) (kx : Nat → St → Option R) (kr : St → Option R) : Option R := w_eqClauseS_l4 K k x.1 x.2.1 x.2.2.1 (kx 0 (mkSt lv_w_eqClauseS_X0 ())) (fun z0 => kr (mkSt rv_w_eqClauseS (z0, ())))
noncomputable def sg_w_eqClauseS {R : Type} (K : Nat) (k : Nat) : List (Nat × SegS R) := []
noncomputable def su_w_eqClauseS : List (Nat × Unit) := []
noncomputable def en_w_eqClauseS {R : Type} (K : Nat) (k : Nat) : Env R := { L := lk [(4, mkLoop lv_w_eqClauseS_L4 (gw_eqClauseS_l4 K k))], X := lk [(0, lv_w_eqClauseS_X0)], S := lk (sg_w_eqClauseS K k), rv := rv_w_eqClauseS }
noncomputable def cf_w_eqClauseS (K : Nat) : Cfg := { ty := lk tys, fn := lk [(167, sp_w_eqClause (w_eqClause K))], prot := 0, nt := Try.f91.ntmps }
noncomputable def c_w_eqClauseS_L4 : Code := nthC (partsOf (hasK su_w_eqClauseS) (bodyOf Try.f91)) 0
theorem ew_eqClauseS_l4 {R : Type} (K : Nat) (k : Nat) (x : den lv_w_eqClauseS_L4.ty) (kx : Nat → St → Option R) (kr : St → Option R) : gw_eqClauseS_l4 K (k + 1) x kx kr = evC (cf_w_eqClauseS K) (en_w_eqClauseS K k) c_w_eqClauseS_L4 (mkSt lv_w_eqClauseS_L4 x) (fun s => mkLoop lv_w_eqClauseS_L4 (gw_eqClauseS_l4 K k) s kx kr) kx kr := by kernel_rfl
theorem sw_eqClauseS_l4 {R : Type} (K : Nat) (C : Cx) (hP : C.P = Try.prog) (O : CfgOk C (cf_w_eqClauseS K)) (k : Nat) : LpS C (R := R) (mkLoop lv_w_eqClauseS_L4 (gw_eqClauseS_l4 K k)) c_w_eqClauseS_L4 :=
  loop_sound O (by rw [hP]; kernel_rfl) (fun x kx kr => rfl) (ew_eqClauseS_l4 K) (fun k => lpOk_of (en := en_w_eqClauseS K k) (S := hasK su_w_eqClauseS) (fun i => hasK_lk (sg_w_eqClauseS K k) i) _ (by rw [show partsOf (hasK su_w_eqClauseS) c_w_eqClauseS_L4 = [] from by kernel_rfl]; exact trivial)) k
theorem e_w_eqClauseS (K : Nat) (x : den as_w_eqClauseS) : w_eqClauseS K x = evFn (cf_w_eqClauseS K) as_w_eqClauseS [false, false] .bool (en_w_eqClauseS K K) Try.f91.results.toList (bodyOf Try.f91) x := by kernel_rfl
theorem ok_w_eqClauseS (K : Nat) : FnOk Try.prog 91 (sp_w_eqClauseS (w_eqClauseS K)) :=
  fn_ok (cf := cf_w_eqClauseS K) (en := en_w_eqClauseS K K) (c := bodyOf Try.f91) Try.func91 (by kernel_rfl) (by kernel_rfl) tysOk (fns_ok (l := [(167, sp_w_eqClause (w_eqClause K))]) ⟨ok_w_eqClause K, trivial⟩) (by kernel_rfl) rfl (Nat.le_of_ble_eq_true (by kernel_rfl)) (by kernel_rfl) (of_decide_eq_true (by kernel_rfl)) (by decide) (fun C hP O => lpOk_of (en := en_w_eqClauseS K K) (S := hasK su_w_eqClauseS) (fun i => hasK_lk (sg_w_eqClauseS K K) i) _ (by rw [show partsOf (hasK su_w_eqClauseS) (bodyOf Try.f91) = [(true, c_w_eqClauseS_L4)] from by kernel_rfl]; exact (lpL_loop (f := mkLoop lv_w_eqClauseS_L4 (gw_eqClauseS_l4 K K)) (by kernel_rfl) (sw_eqClauseS_l4 K C hP O K) trivial))) (fun x y h => by rw [← e_w_eqClauseS]; exact h)
noncomputable def as_w_eqInstance : Ty := (.pair (.st (.pair (.int .i64) (.pair (.sl (.st (.pair (.st (.pair (.int .i64) (.pair (.int .i64) .unit))) (.pair (.sl (.int .i64)) .unit)))) .unit))) (.pair (.st (.pair (.int .i64) (.pair (.sl (.st (.pair (.st (.pair (.int .i64) (.pair (.int .i64) .unit))) (.pair (.sl (.int .i64)) .unit)))) .unit))) .unit))
noncomputable def sp_w_eqInstance (F : ((Int × (List ((Int × Int × Unit) × (List Int) × Unit)) × Unit) × (Int × (List ((Int × Int × Unit) × (List Int) × Unit)) × Unit) × Unit) → Option Bool) : FnSpec := ⟨as_w_eqInstance, [false, false], .bool, F⟩
noncomputable def w_eqInstance (K : Nat) (x : ((Int × (List ((Int × Int × Unit) × (List Int) × Unit)) × Unit) × (Int × (List ((Int × Int × Unit) × (List Int) × Unit)) × Unit) × Unit)) : Option Bool :=
    (if (!decide (x.1.1 = x.2.1.1)) = true then
    some false
    else
    (w_eqClauseS K (x.1.2.1, x.2.1.2.1, ())).bind fun y1 =>
    (if (!y1) = true then
    some false
    else
    some true))
noncomputable def rv_w_eqInstance : Lv := [(4, (.v .bool))]
noncomputable def sg_w_eqInstance {R : Type} (K : Nat) (k : Nat) : List (Nat × SegS R) := []
noncomputable def su_w_eqInstance : List (Nat × Unit) := []
noncomputable def en_w_eqInstance {R : Type} (K : Nat) (k : Nat) : Env R := { L := lk [], X := lk [], S := lk (sg_w_eqInstance K k), rv := rv_w_eqInstance }
noncomputable def cf_w_eqInstance (K : Nat) : Cfg := { ty := lk tys, fn := lk [(91, sp_w_eqClauseS (w_eqClauseS K))], prot := 0, nt := Try.f27.ntmps }
theorem e_w_eqInstance (K : Nat) (x : den as_w_eqInstance) : w_eqInstance K x = evFn (cf_w_eqInstance K) as_w_eqInstance [false, false] .bool (en_w_eqInstance K K) Try.f27.results.toList (bodyOf Try.f27) x := by kernel_rfl
theorem ok_w_eqInstance (K : Nat) : FnOk Try.prog 27 (sp_w_eqInstance (w_eqInstance K)) :=
  fn_ok (cf := cf_w_eqInstance K) (en := en_w_eqInstance K K) (c := bodyOf Try.f27) Try.func27 (by kernel_rfl) (by kernel_rfl) tysOk (fns_ok (l := [(91, sp_w_eqClauseS (w_eqClauseS K))]) ⟨ok_w_eqClauseS K, trivial⟩) (by kernel_rfl) rfl (Nat.le_of_ble_eq_true (by kernel_rfl)) (by kernel_rfl) (of_decide_eq_true (by kernel_rfl)) (by decide) (fun C hP O => lpOk_of (en := en_w_eqInstance K K) (S := hasK su_w_eqInstance) (fun i => hasK_lk (sg_w_eqInstance K K) i) _ (by rw [show partsOf (hasK su_w_eqInstance) (bodyOf Try.f27) = [] from by kernel_rfl]; exact trivial)) (fun x y h => by rw [← e_w_eqInstance]; exact h)
end Go.Proofs.Ytckkagmccbkfbaa.E
