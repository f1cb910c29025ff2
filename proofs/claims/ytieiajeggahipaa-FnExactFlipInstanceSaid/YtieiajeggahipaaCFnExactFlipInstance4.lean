/-
  Contracts of slices.Clone over any element that leads to no memory, and of the library's search for a byte. Conditions: those of each theorem.
-/
import Derived.Test.YtieiajeggahipaaCFnExactFlipInstance3
namespace Go.Proofs.Ytieiajeggahipaa.E
open Go Go.RowKit Go.Shelf
set_option linter.unusedVariables false
set_option linter.unusedSimpArgs false
theorem cellAt {w : World} {b o : Nat} {arr : Array Value} {t : TypeId} {fz : Nat × Nat} (h : w.heap[b]? = some (.cells arr t fz)) (j : Nat) : w.cell? ⟨b, o + j, none⟩ = arr[o + j]? := by
  simp [World.cell?, h]
set_option maxHeartbeats 2000000 in
set_option maxRecDepth 100000 in
/-- slices.Clone of a slice that is not nil, whatever its address. -/
theorem clone_calls {P : Program} {ρ : Ren} (L : SlLaysE0.n41 P ρ) (i0 : TypeInfo) (z : Value) (size bytes : Nat) (hi : P.info? (ρ.t 23) = some i0) (hz0 : i0.zero = some z) (hz1 : i0.size = size) (hz2 : i0.bytes = bytes) (hzs : z.cells.size = size) (hsz : 0 < size)
    (z23 : ∀ w, (Go.sizeOf (ρ.t 23)).run P w = .ok size w) (a : Addr) (n c : Nat) (news : List Value) (w : World) (hl : news.length = n * size) (hn : n ≤ maxLen) (hbig : n * bytes ≤ 140737488355328)
    (hc : ∀ j u, news[j]? = some u → w.cell? (a.add j) = some u) (h1 : ∀ u ∈ news, u.oneCell' = true) :
    Calls P (ρ.f 41) #[.slice (some a) n c] w fun e w' => ∃ v', e = .returned v' ∧ w'.ownsRow w.heap.size (ρ.t 23) size v' n news ∧ Below w.heap.size w w' := by
  have mixed := L.mixed; have t4 := L.t4; have a4 := L.a4; have z4 := L.z4; have v4 := L.v4; have t22 := L.t22; have a22 := L.a22; have z22 := L.z22; have v22 := L.v22
  have q22 : ∀ (w : World) (a : Option Addr) (n c n' c' : Nat), (binOp .eql (ρ.t 22) (.slice a n c) (.slice none n' c')).run P w = .ok (.bool a.isNone) w := fun w a n c n' c' => Lib.run_eql_slice_nil w _ _ a n c n' c' L.t22
  have u22 : ∀ w, Sem.run P (underlying (ρ.t 22)) w = .ok (TypeDesc.slice (ρ.t 23)) w := run_underlying t22
  have A : Aside (∀ j u, news[j]? = some u → w.cell? (a.add j) = some u) := hc
  clear hc
  obtain ⟨_, _, FG⟩ := L.f41
  go_enter FG, SlBodyN.n41_ntmps ρ
  go_wp2_with (at_builtin; refine wpList_append_own _ rfl _ _ (ρ.t 22) rfl w.heap.size (ρ.t 23) i0 z size bytes t22 hi hz0 hz1 hz2 hzs hsz _ _ _ rfl (World.ownsRow_made w #[] 0 (Nat.le_refl _) (Nat.zero_le _) (by simp)) a n c news rfl ?qc1 ?qc2 ?qc3 ?qc4 ?qc5 ?qc6 ?_)
  case qc1 => exact hl
  case qc2 =>
    intro j u hj
    exact Lib.cell?_alloc_some _ (A.out j u hj)
  case qc3 => exact h1
  case qc4 => rw [Nat.zero_add]; exact hn
  case qc5 => rw [Nat.zero_add]; exact hbig
  case qc6 => simp
  intro v' w1 hown hgrow hnil
  go_wp2
  go_ret
  refine ⟨v', rfl, by simpa using hown, ?_⟩
  exact ((Below.refl _ w).alloc (Nat.le_refl _) _).grown hgrow (by simp) (by intro k hk; simp [Value.ownBlock] at hk; omega)
theorem clone_ok {P : Program} {ρ : Ren} (L : SlLaysE0.n41 P ρ) {ty : Nat → Option Ty} {e : Ty} (ht : TyOk P ty (ρ.t 23) e) (hm : e.mem = false) {z : SV} (hz : zeroSV e = some z) (hw : e.ownable = true) (hs : 0 < e.sz) :
    FnOk P (ρ.f 41) ⟨.pair (.sl e) .unit, [false], .sl e, fun x => if (x.1 : List (den e)).length ≤ lim then some x.1 else none⟩ := by
  refine ⟨fun _ => ?_, fun h => by cases h⟩
  intro w vs x y hx hy
  obtain ⟨c, r, rfl, hc, hr⟩ := hx
  have hr : r = [] := hr
  subst hr
  obtain ⟨a, n, cp, rfl, hn, hcp, hl⟩ := hc
  have hy : (if (x.1 : List (den e)).length ≤ lim then some x.1 else none) = some y := hy
  split at hy
  case isFalse => cases hy
  rename_i hlim
  cases hy
  obtain ⟨nm, hnm, hf⟩ := L.f41
  obtain ⟨i, hi, hsz, hb1, hb2, hzz⟩ := zero_val ht hz hw
  refine cf_of_calls hf hnm rfl ?_
  have nil_case : x.1 = [] → Calls P (ρ.f 41) #[.slice none n cp] w fun e' w' => ∃ v, e' = .returned v ∧ Ret (.sl e) x.1 w v w' := fun h0 => by
    refine (AnyE.slices_Clone_nil L n cp w).mono ?_
    rintro e' w' ⟨rfl, rfl⟩
    exact ⟨_, rfl, [], ⟨_, rfl, .inl ⟨rfl, h0, rfl⟩⟩, List.nodup_nil, fun b hb => (by cases hb), Below.refl _ _⟩
  cases a with
  | none =>
    rcases hl with h0 | ⟨b, o, arr, t, fz, h1, _⟩
    · exact nil_case h0
    · cases h1
  | some a =>
    have hcl : ∃ news : List Value, news.length = n * e.sz ∧ (∀ j u, news[j]? = some u → w.cell? (a.add j) = some u) ∧ (∀ u ∈ news, u.oneCell' = true) ∧
        ∀ (i : Nat) y, (x.1 : List (den e))[i]? = some y → TC e w (seg news (i * e.sz) e.sz) y [] := by
      rcases hl with h0 | ⟨b, o, arr, t, fz, h1, hb, hh, ho, hel⟩
      · have h0 : (x.1 : List (den e)) = [] := h0
        have hn0 : n = 0 := by rw [hn, h0]; rfl
        exact ⟨[], by rw [hn0]; simp, fun j u h => (by simp at h), fun u h => (by cases h), fun i y h => by rw [h0] at h; simp at h⟩
      · cases h1
        have hal : arr.toList.length = arr.size := Array.length_toList
        have hlen : (seg arr.toList o (n * e.sz)).length = n * e.sz := seg_len (by rw [hal]; exact ho)
        have hel' : ∀ (i : Nat) y, (x.1 : List (den e))[i]? = some y → TC e w (seg (seg arr.toList o (n * e.sz)) (i * e.sz) e.sz) y [] := fun i y hy => by
          have hi : i < n := by rw [hn]; exact (List.getElem?_eq_some_iff.1 hy).1
          have hm1 : (i + 1) * e.sz ≤ n * e.sz := Nat.mul_le_mul_right _ hi
          rw [Nat.succ_mul] at hm1
          rw [seg_seg _ hm1]
          exact TC_of_RX P e hm (hel i y hy)
        refine ⟨seg arr.toList o (n * e.sz), hlen, fun j u hj => ?_, fun u hu => ?_, hel'⟩
        · rw [seg_get] at hj
          split at hj
          case isFalse => cases hj
          rw [show (⟨b, o, none⟩ : Addr).add j = ⟨b, o + j, none⟩ from Addr.add_lit .., cellAt hh, ← Array.getElem?_toList]
          exact hj
        · obtain ⟨k, hk⟩ := List.getElem?_of_mem hu
          have hk2 := (List.getElem?_eq_some_iff.1 hk).1
          rw [hlen] at hk2
          have hi : k / e.sz < n := Nat.div_lt_of_lt_mul (by rw [Nat.mul_comm]; exact hk2)
          have hmod := Nat.mod_lt k hs
          have hi2 : k / e.sz < (x.1 : List (den e)).length := by rw [← hn]; exact hi
          have := TC_one (hel' (k / e.sz) _ (List.getElem?_eq_getElem hi2)) u (by
            refine List.mem_of_getElem? (i := k % e.sz) ?_
            rw [seg_get, if_pos hmod, Nat.mul_comm (k / e.sz), Nat.div_add_mod]; exact hk)
          exact this
    obtain ⟨news, hl1, hl2, hl3, hl4⟩ := hcl
    have hn40 : n ≤ 1099511627776 := by rw [hn]; exact hlim
    refine (clone_calls L i _ e.sz i.bytes hi hzz.1 hsz rfl (by rw [hzz.2]; simp; exact TC_len _ _ _ _ _ (TC_zero e (w := w) hz hw)) hs (fun w => ht.sizeOf w) a n cp news w hl1 (by unfold maxLen; omega) ?_ hl2 hl3).mono ?_
    · have := Nat.mul_le_mul hn40 hb1; omega
    rintro e' w' ⟨v', rfl, hown, hbel⟩
    refine ⟨v', rfl, ?_⟩
    obtain ⟨ho1, ho2⟩ := hown
    rcases ho2 with ⟨rfl, h0⟩ | ⟨g, cap, cur, rfl, hg, hcur, hle, hmx, hcs, htk⟩
    · have h0' : (x.1 : List (den e)) = [] := List.length_eq_zero_iff.1 (by rw [← hn]; exact h0)
      exact ⟨[], ⟨_, rfl, .inl ⟨rfl, h0', rfl⟩⟩, List.nodup_nil, fun b hb => (by cases hb), hbel⟩
    · refine ⟨[g], ⟨_, rfl, .inr ⟨g, 0, n, cap, cur, _, List.replicate n [], rfl, ?_, hn, hcur, hle, by rw [hcs]; omega, by simp, fun j y bi hy hbi => ?_⟩⟩, by simp, fun b hb => ?_, hbel⟩
      · congr 1; simp
      · have hbi' : bi = [] := List.eq_of_mem_replicate (List.mem_of_getElem? hbi)
        subst hbi'
        have hj : j < n := by rw [hn]; exact (List.getElem?_eq_some_iff.1 hy).1
        have hm1 : (j + 1) * e.sz ≤ n * e.sz := Nat.mul_le_mul_right _ hj
        rw [Nat.succ_mul] at hm1
        have e1 : seg cur.toList (0 + j * e.sz) e.sz = seg news (j * e.sz) e.sz := by
          rw [Nat.zero_add, ← htk]
          apply List.ext_getElem?
          intro k
          rw [seg_get, seg_get]
          by_cases hk : k < e.sz
          · rw [if_pos hk, if_pos hk, List.getElem?_take, if_pos (by omega)]
          · rw [if_neg hk, if_neg hk]
        rw [e1]
        exact TC_congr e (fun b hb => by cases hb) (hl4 j y hy)
      · simp only [List.mem_singleton] at hb; subst hb
        exact ⟨hg, (Array.getElem?_eq_some_iff.1 hcur).1⟩
/-- The library's search for a byte in a string. -/
theorem indexByte_ok {P : Program} {f : FuncId} {fn : Func} (hf : P.funcs[f]? = some fn) (hname : (fn.name == "runtime.NumGoroutine") = false) (hb : fn.body.isNone = true) (hn : Extern.findNext fn = none) (he : Extern.find fn = some Extern.BytealgIndexByte.indexByte) :
    FnOk P f ⟨.pair .str (.pair (.int .u8) .unit), [false, false], .int .i64, fun x => some (Lib.indexByte (x.1 : ByteArray).data.toList (x.2.1 : Int).toNat.toUInt8)⟩ := by
  refine ⟨fun _ => ?_, fun h => by cases h⟩
  intro w vs x y hx hy
  obtain ⟨c, r, rfl, hc, c2, r2, rfl, hc2, hr⟩ := hx
  have hr : r2 = [] := hr
  subst hr
  have hc : c = [.string x.1] := hc
  have hc2 : c2 = [.int .u8 x.2.1] := hc2
  subst hc; subst hc2
  cases hy
  refine cf_of_value (by
    rw [run_callFunc_extern hf hname hb hn he]
    show ((Extern.BytealgIndexByte.indexByte #[.string x.1, .int .u8 x.2.1]).run P w).andThen _ = _
    rw [Lib.run_indexByteString]; rfl) ?_
  exact ⟨[], ⟨_, rfl, rfl, rfl⟩, List.nodup_nil, fun b hb => (by cases hb), Below.refl _ _⟩
end Go.Proofs.Ytieiajeggahipaa.E
namespace Go.Proofs.Ytieiajeggahipaa.E
open Go Go.RowKit Go.ChangeShapes Go.WideShapes Go.ChangeAt
set_option linter.unusedVariables false
set_option linter.unusedSimpArgs false
theorem ok_valOf {P : Program} {ty : Nat → Option Ty} {w : World} {base t : Nat} {T : Ty} (h : TyOk P ty t T) (hd : dataB T = true) {v : Value} (hv : Value.okWide P w .any base t v) : v = valOf T v.cells.toList := by
  obtain ⟨d, hu, hok⟩ := h.und
  cases T with
  | st f =>
    cases d <;> simp only [UnOk] at hok
    simp only [Value.okWide, hu] at hv
    obtain ⟨cs, rfl, _⟩ := hv
    simp [Value.cells, valOf]
  | int k =>
    cases d <;> simp only [UnOk] at hok
    simp only [Value.okWide, Cell.okWide, hu] at hv
    cases v <;> simp_all [Cell.ok, Value.cells, valOf]
  | bool =>
    cases d <;> simp only [UnOk] at hok
    simp only [Value.okWide, Cell.okWide, hu] at hv
    cases v <;> simp_all [Cell.ok, Value.cells, valOf]
  | str =>
    cases d <;> simp only [UnOk] at hok
    simp only [Value.okWide, Cell.okWide, hu] at hv
    cases v <;> simp_all [Cell.ok, Value.cells, valOf]
  | sl e =>
    cases d <;> simp only [UnOk] at hok
    simp only [Value.okWide, Cell.okWide, hu] at hv
    cases v <;> simp_all [Cell.ok, Value.cells, valOf]
  | unit => exact (no_unit h).elim
  | pair a b => exact (no_pair h).elim
  | tup _ => cases hd
  | arr _ _ => cases hd
  | ptr _ => cases hd
  | fn _ _ => cases hd
/-- One argument: what it reads as, its cells, what is known of it. -/
theorem arg_open {P : Program} {ty : Nat → Option Ty} {w : World} {base t : Nat} {T : Ty} (O : ∀ t T, ty t = some T → TyOk P ty t T) (ht : ty t = some T) (hd : dataB T = true) {v : Value} (hv : Value.okWide P w .any base t v)
    {H : Type} {enc : TypeId × Value → H} {spare : Nat → Bool} {held : Bool} {d : DataW H} {ps : List MemPlace} (h : DataW.Trod enc P w 0 spare held t v d ps) :
    ∃ y : den T, v = valOf T v.cells.toList ∧ RX P T false w (fun b => b < w.heap.size) v.cells.toList y ∧ okD T y := by
  obtain ⟨m, hm⟩ := h
  obtain ⟨y, y1, y2⟩ := (opensAll (w := w) O T).1 t ht hd H enc spare held m _ _ hm
  exact ⟨y, ok_valOf (O t T ht) hd hv, y1, y2⟩
theorem ret_bool {w w' : World} {v : Value} {b : Bool} (h : Ret .bool b w v w') : v = .bool b ∧ Below w.heap.size w w' := by
  obtain ⟨bs, ⟨cs, e, h1, h2⟩, _, _, h3⟩ := h
  refine ⟨?_, h3⟩
  have h1 : cs = [.bool b] := h1
  subst h1
  simpa [valOf] using e
end Go.Proofs.Ytieiajeggahipaa.E
namespace Go.Proofs.Ytieiajeggahipaa.E
open Go Go.Proofs Go.Proofs.Ytieiajeggahipaa
set_option maxRecDepth 100000
noncomputable def tys : List (Nat × Ty) := [(2, (.int .i64)), (3, (.int .i64)), (4, .bool), (5, (.int .u8)), (9, .str), (22, (.sl (.int .i64))), (27, (.fn (.pair (.int .i64) .unit) .bool)), (28, (.sl (.st (.pair (.st (.pair (.int .i64) (.pair (.int .i64) .unit))) (.pair (.sl (.int .i64)) .unit))))), (30, (.st (.pair (.int .i64) (.pair (.sl (.st (.pair (.st (.pair (.int .i64) (.pair (.int .i64) .unit))) (.pair (.sl (.int .i64)) .unit)))) .unit)))), (34, (.sl (.st (.pair (.st (.pair (.int .i64) (.pair (.int .i64) .unit))) (.pair (.sl (.int .i64)) .unit))))), (36, (.st (.pair (.int .i64) (.pair (.sl (.st (.pair (.st (.pair (.int .i64) (.pair (.int .i64) .unit))) (.pair (.sl (.int .i64)) .unit)))) .unit)))), (41, (.st (.pair (.int .i64) (.pair (.int .i64) .unit)))), (42, (.sl (.st (.pair (.int .i64) (.pair (.int .i64) .unit))))), (44, (.st (.pair (.int .i64) (.pair (.int .i64) .unit)))), (46, (.st (.pair (.st (.pair (.int .i64) (.pair (.int .i64) .unit))) (.pair (.sl (.st (.pair (.int .i64) (.pair (.int .i64) .unit)))) (.pair (.st (.pair (.int .i64) (.pair (.int .i64) .unit))) .unit))))), (62, (.st (.pair (.int .i64) (.pair (.int .i64) .unit)))), (83, (.st (.pair (.st (.pair (.int .i64) (.pair (.int .i64) .unit))) (.pair (.sl (.int .i64)) .unit)))), (92, (.int .u64)), (106, (.st (.pair (.st (.pair (.int .i64) (.pair (.int .i64) .unit))) (.pair (.sl (.int .i64)) .unit)))), (110, (.sl (.st (.pair .str (.pair .str .unit))))), (113, (.st (.pair .str (.pair .str .unit)))), (119, (.arr 2 .bool)), (121, (.sl .str)), (130, (.int .u64)), (137, (.sl (.int .u8))), (140, (.int .u32))]
theorem tysOk : ∀ t T, lk tys t = some T → TyOk Try.prog (lk tys) t T := tys_ok (by kernel_rfl)
noncomputable def as_i_Func_made : Ty := (.pair (.st (.pair (.int .i64) (.pair (.int .i64) .unit))) (.pair (.int .i64) (.pair (.sl (.int .i64)) (.pair (.sl (.int .i64)) (.pair (.int .i64) (.pair (.fn (.pair (.int .i64) .unit) .bool) .unit))))))
noncomputable def sp_i_Func_made (F : ((Int × Int × Unit) × Int × (List Int) × (List Int) × Int × ((Int × Unit) → Option Bool) × Unit) → Option Bool) : FnSpec := ⟨as_i_Func_made, [false, false, false, false, false, false], .bool, F⟩
noncomputable def as_s_l06Made : Ty := (.pair (.st (.pair (.int .i64) (.pair (.int .i64) .unit))) (.pair (.st (.pair (.int .i64) (.pair (.int .i64) .unit))) (.pair (.sl (.int .i64)) (.pair (.sl (.int .i64)) .unit))))
noncomputable def sp_s_l06Made (F : ((Int × Int × Unit) × (Int × Int × Unit) × (List Int) × (List Int) × Unit) → Option Int) : FnSpec := ⟨as_s_l06Made, [false, false, false, false], (.int .i64), F⟩
end Go.Proofs.Ytieiajeggahipaa.E
namespace Go.Proofs.Ytieiajeggahipaa.E
open Go Go.Proofs Go.Proofs.Ytieiajeggahipaa
set_option maxRecDepth 100000
set_option linter.unusedVariables false
noncomputable def as_i_within : Ty := (.pair (.int .i64) (.pair (.int .i64) (.pair (.int .i64) .unit)))
noncomputable def sp_i_within (F : (Int × Int × Int × Unit) → Option Bool) : FnSpec := ⟨as_i_within, [false, false, false], .bool, F⟩
noncomputable def i_within (K : Nat) (x : (Int × Int × Int × Unit)) : Option Bool :=
    (if (decide (x.1 ≥ x.2.1)) = true then
    some (decide (x.1 ≤ x.2.2.1))
    else
    some false)
noncomputable def rv_i_within : Lv := [(6, (.v .bool))]
noncomputable def sg_i_within {R : Type} (K : Nat) (k : Nat) : List (Nat × SegS R) := []
noncomputable def su_i_within : List (Nat × Unit) := []
noncomputable def en_i_within {R : Type} (K : Nat) (k : Nat) : Env R := { L := lk [], X := lk [], S := lk (sg_i_within K k), rv := rv_i_within }
noncomputable def cf_i_within (K : Nat) : Cfg := { ty := lk tys, fn := lk [], prot := 0, nt := Try.f79.ntmps }
theorem e_i_within (K : Nat) (x : den as_i_within) : i_within K x = evFn (cf_i_within K) as_i_within [false, false, false] .bool (en_i_within K K) Try.f79.results.toList (bodyOf Try.f79) x := by kernel_rfl
theorem ok_i_within (K : Nat) : FnOk Try.prog 79 (sp_i_within (i_within K)) :=
  fn_ok (cf := cf_i_within K) (en := en_i_within K K) (c := bodyOf Try.f79) Try.func79 (by kernel_rfl) (by kernel_rfl) tysOk (fns_ok (l := []) trivial) (by kernel_rfl) rfl (Nat.le_of_ble_eq_true (by kernel_rfl)) (by kernel_rfl) (of_decide_eq_true (by kernel_rfl)) (by decide) (fun C hP O => lpOk_of (en := en_i_within K K) (S := hasK su_i_within) (fun i => hasK_lk (sg_i_within K K) i) _ (by rw [show partsOf (hasK su_i_within) (bodyOf Try.f79) = [] from by kernel_rfl]; exact trivial)) (fun x y h => by rw [← e_i_within]; exact h)
noncomputable def as_i_isArity : Ty := (.pair (.int .i64) .unit)
noncomputable def sp_i_isArity (F : (Int × Unit) → Option Bool) : FnSpec := ⟨as_i_isArity, [false], .bool, F⟩
noncomputable def i_isArity (K : Nat) (x : (Int × Unit)) : Option Bool :=
    (i_within K (x.1, (0 : Int), (4 : Int), ())).bind fun y1 =>
    some y1
noncomputable def rv_i_isArity : Lv := [(2, (.v .bool))]
noncomputable def sg_i_isArity {R : Type} (K : Nat) (k : Nat) : List (Nat × SegS R) := []
noncomputable def su_i_isArity : List (Nat × Unit) := []
noncomputable def en_i_isArity {R : Type} (K : Nat) (k : Nat) : Env R := { L := lk [], X := lk [], S := lk (sg_i_isArity K k), rv := rv_i_isArity }
noncomputable def cf_i_isArity (K : Nat) : Cfg := { ty := lk tys, fn := lk [(79, sp_i_within (i_within K))], prot := 0, nt := Try.f57.ntmps }
theorem e_i_isArity (K : Nat) (x : den as_i_isArity) : i_isArity K x = evFn (cf_i_isArity K) as_i_isArity [false] .bool (en_i_isArity K K) Try.f57.results.toList (bodyOf Try.f57) x := by kernel_rfl
theorem ok_i_isArity (K : Nat) : FnOk Try.prog 57 (sp_i_isArity (i_isArity K)) :=
  fn_ok (cf := cf_i_isArity K) (en := en_i_isArity K K) (c := bodyOf Try.f57) Try.func57 (by kernel_rfl) (by kernel_rfl) tysOk (fns_ok (l := [(79, sp_i_within (i_within K))]) ⟨ok_i_within K, trivial⟩) (by kernel_rfl) rfl (Nat.le_of_ble_eq_true (by kernel_rfl)) (by kernel_rfl) (of_decide_eq_true (by kernel_rfl)) (by decide) (fun C hP O => lpOk_of (en := en_i_isArity K K) (S := hasK su_i_isArity) (fun i => hasK_lk (sg_i_isArity K K) i) _ (by rw [show partsOf (hasK su_i_isArity) (bodyOf Try.f57) = [] from by kernel_rfl]; exact trivial)) (fun x y h => by rw [← e_i_isArity]; exact h)
noncomputable def as_i_rowsOf : Ty := (.pair (.int .i64) .unit)
noncomputable def sp_i_rowsOf (F : (Int × Unit) → Option Int) : FnSpec := ⟨as_i_rowsOf, [false], (.int .i64), F⟩
noncomputable def i_rowsOf (K : Nat) (x : (Int × Unit)) : Option Int :=
    (if (decide ((0 : Int) ≤ x.1)) = true then
    some (shlI .i64 (1 : Int) x.1)
    else
    none)
noncomputable def rv_i_rowsOf : Lv := [(2, (.v (.int .i64)))]
noncomputable def sg_i_rowsOf {R : Type} (K : Nat) (k : Nat) : List (Nat × SegS R) := []
noncomputable def su_i_rowsOf : List (Nat × Unit) := []
noncomputable def en_i_rowsOf {R : Type} (K : Nat) (k : Nat) : Env R := { L := lk [], X := lk [], S := lk (sg_i_rowsOf K k), rv := rv_i_rowsOf }
noncomputable def cf_i_rowsOf (K : Nat) : Cfg := { ty := lk tys, fn := lk [], prot := 0, nt := Try.f90.ntmps }
theorem e_i_rowsOf (K : Nat) (x : den as_i_rowsOf) : i_rowsOf K x = evFn (cf_i_rowsOf K) as_i_rowsOf [false] (.int .i64) (en_i_rowsOf K K) Try.f90.results.toList (bodyOf Try.f90) x := by kernel_rfl
theorem ok_i_rowsOf (K : Nat) : FnOk Try.prog 90 (sp_i_rowsOf (i_rowsOf K)) :=
  fn_ok (cf := cf_i_rowsOf K) (en := en_i_rowsOf K K) (c := bodyOf Try.f90) Try.func90 (by kernel_rfl) (by kernel_rfl) tysOk (fns_ok (l := []) trivial) (by kernel_rfl) rfl (Nat.le_of_ble_eq_true (by kernel_rfl)) (by kernel_rfl) (of_decide_eq_true (by kernel_rfl)) (by decide) (fun C hP O => lpOk_of (en := en_i_rowsOf K K) (S := hasK su_i_rowsOf) (fun i => hasK_lk (sg_i_rowsOf K K) i) _ (by rw [show partsOf (hasK su_i_rowsOf) (bodyOf Try.f90) = [] from by kernel_rfl]; exact trivial)) (fun x y h => by rw [← e_i_rowsOf]; exact h)
noncomputable def as_i_funcsOf : Ty := (.pair (.int .i64) .unit)
noncomputable def sp_i_funcsOf (F : (Int × Unit) → Option Int) : FnSpec := ⟨as_i_funcsOf, [false], (.int .i64), F⟩
noncomputable def i_funcsOf (K : Nat) (x : (Int × Unit)) : Option Int :=
    (i_rowsOf K (x.1, ())).bind fun y1 =>
    (if (decide ((0 : Int) ≤ y1)) = true then
    some (shlI .i64 (1 : Int) y1)
    else
    none)
noncomputable def rv_i_funcsOf : Lv := [(2, (.v (.int .i64)))]
noncomputable def sg_i_funcsOf {R : Type} (K : Nat) (k : Nat) : List (Nat × SegS R) := []
noncomputable def su_i_funcsOf : List (Nat × Unit) := []
noncomputable def en_i_funcsOf {R : Type} (K : Nat) (k : Nat) : Env R := { L := lk [], X := lk [], S := lk (sg_i_funcsOf K k), rv := rv_i_funcsOf }
noncomputable def cf_i_funcsOf (K : Nat) : Cfg := { ty := lk tys, fn := lk [(90, sp_i_rowsOf (i_rowsOf K))], prot := 0, nt := Try.f58.ntmps }
theorem e_i_funcsOf (K : Nat) (x : den as_i_funcsOf) : i_funcsOf K x = evFn (cf_i_funcsOf K) as_i_funcsOf [false] (.int .i64) (en_i_funcsOf K K) Try.f58.results.toList (bodyOf Try.f58) x := by kernel_rfl
theorem ok_i_funcsOf (K : Nat) : FnOk Try.prog 58 (sp_i_funcsOf (i_funcsOf K)) :=
  fn_ok (cf := cf_i_funcsOf K) (en := en_i_funcsOf K K) (c := bodyOf Try.f58) Try.func58 (by kernel_rfl) (by kernel_rfl) tysOk (fns_ok (l := [(90, sp_i_rowsOf (i_rowsOf K))]) ⟨ok_i_rowsOf K, trivial⟩) (by kernel_rfl) rfl (Nat.le_of_ble_eq_true (by kernel_rfl)) (by kernel_rfl) (of_decide_eq_true (by kernel_rfl)) (by decide) (fun C hP O => lpOk_of (en := en_i_funcsOf K K) (S := hasK su_i_funcsOf) (fun i => hasK_lk (sg_i_funcsOf K K) i) _ (by rw [show partsOf (hasK su_i_funcsOf) (bodyOf Try.f58) = [] from by kernel_rfl]; exact trivial)) (fun x y h => by rw [← e_i_funcsOf]; exact h)
noncomputable def as_i_IsFunc : Ty := (.pair (.st (.pair (.int .i64) (.pair (.int .i64) .unit))) .unit)
noncomputable def sp_i_IsFunc (F : ((Int × Int × Unit) × Unit) → Option Bool) : FnSpec := ⟨as_i_IsFunc, [false], .bool, F⟩
noncomputable def i_IsFunc (K : Nat) (x : ((Int × Int × Unit) × Unit)) : Option Bool :=
    (i_isArity K (x.1.1, ())).bind fun y1 =>
    (if y1 = true then
    (i_funcsOf K (x.1.1, ())).bind fun y2 =>
    (i_within K (x.1.2.1, (0 : Int), (IntKind.i64.wrap (y2 - (1 : Int))), ())).bind fun y3 =>
    some y3
    else
    some false)
noncomputable def rv_i_IsFunc : Lv := [(2, (.v .bool))]
noncomputable def sg_i_IsFunc {R : Type} (K : Nat) (k : Nat) : List (Nat × SegS R) := []
noncomputable def su_i_IsFunc : List (Nat × Unit) := []
noncomputable def en_i_IsFunc {R : Type} (K : Nat) (k : Nat) : Env R := { L := lk [], X := lk [], S := lk (sg_i_IsFunc K k), rv := rv_i_IsFunc }
noncomputable def cf_i_IsFunc (K : Nat) : Cfg := { ty := lk tys, fn := lk [(57, sp_i_isArity (i_isArity K)), (58, sp_i_funcsOf (i_funcsOf K)), (79, sp_i_within (i_within K))], prot := 0, nt := Try.f137.ntmps }
theorem e_i_IsFunc (K : Nat) (x : den as_i_IsFunc) : i_IsFunc K x = evFn (cf_i_IsFunc K) as_i_IsFunc [false] .bool (en_i_IsFunc K K) Try.f137.results.toList (bodyOf Try.f137) x := by kernel_rfl
theorem ok_i_IsFunc (K : Nat) : FnOk Try.prog 137 (sp_i_IsFunc (i_IsFunc K)) :=
  fn_ok (cf := cf_i_IsFunc K) (en := en_i_IsFunc K K) (c := bodyOf Try.f137) Try.func137 (by kernel_rfl) (by kernel_rfl) tysOk (fns_ok (l := [(57, sp_i_isArity (i_isArity K)), (58, sp_i_funcsOf (i_funcsOf K)), (79, sp_i_within (i_within K))]) ⟨ok_i_isArity K, ⟨ok_i_funcsOf K, ⟨ok_i_within K, trivial⟩⟩⟩) (by kernel_rfl) rfl (Nat.le_of_ble_eq_true (by kernel_rfl)) (by kernel_rfl) (of_decide_eq_true (by kernel_rfl)) (by decide) (fun C hP O => lpOk_of (en := en_i_IsFunc K K) (S := hasK su_i_IsFunc) (fun i => hasK_lk (sg_i_IsFunc K K) i) _ (by rw [show partsOf (hasK su_i_IsFunc) (bodyOf Try.f137) = [] from by kernel_rfl]; exact trivial)) (fun x y h => by rw [← e_i_IsFunc]; exact h)
noncomputable def as_s_l01In : Ty := (.pair (.int .i64) (.pair (.int .i64) (.pair (.int .i64) .unit)))
noncomputable def sp_s_l01In (F : (Int × Int × Int × Unit) → Option Bool) : FnSpec := ⟨as_s_l01In, [false, false, false], .bool, F⟩
noncomputable def s_l01In (K : Nat) (x : (Int × Int × Int × Unit)) : Option Bool :=
    (if (decide (x.1 ≥ x.2.1)) = true then
    some (decide (x.1 ≤ x.2.2.1))
    else
    some false)
noncomputable def rv_s_l01In : Lv := [(6, (.v .bool))]
noncomputable def sg_s_l01In {R : Type} (K : Nat) (k : Nat) : List (Nat × SegS R) := []
noncomputable def su_s_l01In : List (Nat × Unit) := []
noncomputable def en_s_l01In {R : Type} (K : Nat) (k : Nat) : Env R := { L := lk [], X := lk [], S := lk (sg_s_l01In K k), rv := rv_s_l01In }
noncomputable def cf_s_l01In (K : Nat) : Cfg := { ty := lk tys, fn := lk [], prot := 0, nt := Try.f52.ntmps }
theorem e_s_l01In (K : Nat) (x : den as_s_l01In) : s_l01In K x = evFn (cf_s_l01In K) as_s_l01In [false, false, false] .bool (en_s_l01In K K) Try.f52.results.toList (bodyOf Try.f52) x := by kernel_rfl
theorem ok_s_l01In (K : Nat) : FnOk Try.prog 52 (sp_s_l01In (s_l01In K)) :=
  fn_ok (cf := cf_s_l01In K) (en := en_s_l01In K K) (c := bodyOf Try.f52) Try.func52 (by kernel_rfl) (by kernel_rfl) tysOk (fns_ok (l := []) trivial) (by kernel_rfl) rfl (Nat.le_of_ble_eq_true (by kernel_rfl)) (by kernel_rfl) (of_decide_eq_true (by kernel_rfl)) (by decide) (fun C hP O => lpOk_of (en := en_s_l01In K K) (S := hasK su_s_l01In) (fun i => hasK_lk (sg_s_l01In K K) i) _ (by rw [show partsOf (hasK su_s_l01In) (bodyOf Try.f52) = [] from by kernel_rfl]; exact trivial)) (fun x y h => by rw [← e_s_l01In]; exact h)
noncomputable def as_s_l01Rows : Ty := (.pair (.int .i64) .unit)
noncomputable def sp_s_l01Rows (F : (Int × Unit) → Option Int) : FnSpec := ⟨as_s_l01Rows, [false], (.int .i64), F⟩
noncomputable def s_l01Rows (K : Nat) (x : (Int × Unit)) : Option Int :=
    (if (decide ((0 : Int) ≤ (IntKind.u64.wrap x.1))) = true then
    some (shlI .i64 (1 : Int) (IntKind.u64.wrap x.1))
    else
    none)
noncomputable def rv_s_l01Rows : Lv := [(2, (.v (.int .i64)))]
noncomputable def sg_s_l01Rows {R : Type} (K : Nat) (k : Nat) : List (Nat × SegS R) := []
noncomputable def su_s_l01Rows : List (Nat × Unit) := []
noncomputable def en_s_l01Rows {R : Type} (K : Nat) (k : Nat) : Env R := { L := lk [], X := lk [], S := lk (sg_s_l01Rows K k), rv := rv_s_l01Rows }
noncomputable def cf_s_l01Rows (K : Nat) : Cfg := { ty := lk tys, fn := lk [], prot := 0, nt := Try.f75.ntmps }
theorem e_s_l01Rows (K : Nat) (x : den as_s_l01Rows) : s_l01Rows K x = evFn (cf_s_l01Rows K) as_s_l01Rows [false] (.int .i64) (en_s_l01Rows K K) Try.f75.results.toList (bodyOf Try.f75) x := by kernel_rfl
theorem ok_s_l01Rows (K : Nat) : FnOk Try.prog 75 (sp_s_l01Rows (s_l01Rows K)) :=
  fn_ok (cf := cf_s_l01Rows K) (en := en_s_l01Rows K K) (c := bodyOf Try.f75) Try.func75 (by kernel_rfl) (by kernel_rfl) tysOk (fns_ok (l := []) trivial) (by kernel_rfl) rfl (Nat.le_of_ble_eq_true (by kernel_rfl)) (by kernel_rfl) (of_decide_eq_true (by kernel_rfl)) (by decide) (fun C hP O => lpOk_of (en := en_s_l01Rows K K) (S := hasK su_s_l01Rows) (fun i => hasK_lk (sg_s_l01Rows K K) i) _ (by rw [show partsOf (hasK su_s_l01Rows) (bodyOf Try.f75) = [] from by kernel_rfl]; exact trivial)) (fun x y h => by rw [← e_s_l01Rows]; exact h)
noncomputable def as_s_l01All : Ty := (.pair (.int .i64) .unit)
noncomputable def sp_s_l01All (F : (Int × Unit) → Option Int) : FnSpec := ⟨as_s_l01All, [false], (.int .i64), F⟩
noncomputable def s_l01All (K : Nat) (x : (Int × Unit)) : Option Int :=
    (s_l01Rows K (x.1, ())).bind fun y1 =>
    (if (decide ((0 : Int) ≤ (IntKind.u64.wrap y1))) = true then
    let x2 := (IntKind.i64.wrap ((shlI .i64 (1 : Int) (IntKind.u64.wrap y1)) - (1 : Int)))
    some x2
    else
    none)
noncomputable def rv_s_l01All : Lv := [(2, (.v (.int .i64)))]
noncomputable def sg_s_l01All {R : Type} (K : Nat) (k : Nat) : List (Nat × SegS R) := []
noncomputable def su_s_l01All : List (Nat × Unit) := []
noncomputable def en_s_l01All {R : Type} (K : Nat) (k : Nat) : Env R := { L := lk [], X := lk [], S := lk (sg_s_l01All K k), rv := rv_s_l01All }
noncomputable def cf_s_l01All (K : Nat) : Cfg := { ty := lk tys, fn := lk [(75, sp_s_l01Rows (s_l01Rows K))], prot := 0, nt := Try.f53.ntmps }
theorem e_s_l01All (K : Nat) (x : den as_s_l01All) : s_l01All K x = evFn (cf_s_l01All K) as_s_l01All [false] (.int .i64) (en_s_l01All K K) Try.f53.results.toList (bodyOf Try.f53) x := by kernel_rfl
theorem ok_s_l01All (K : Nat) : FnOk Try.prog 53 (sp_s_l01All (s_l01All K)) :=
  fn_ok (cf := cf_s_l01All K) (en := en_s_l01All K K) (c := bodyOf Try.f53) Try.func53 (by kernel_rfl) (by kernel_rfl) tysOk (fns_ok (l := [(75, sp_s_l01Rows (s_l01Rows K))]) ⟨ok_s_l01Rows K, trivial⟩) (by kernel_rfl) rfl (Nat.le_of_ble_eq_true (by kernel_rfl)) (by kernel_rfl) (of_decide_eq_true (by kernel_rfl)) (by decide) (fun C hP O => lpOk_of (en := en_s_l01All K K) (S := hasK su_s_l01All) (fun i => hasK_lk (sg_s_l01All K K) i) _ (by rw [show partsOf (hasK su_s_l01All) (bodyOf Try.f53) = [] from by kernel_rfl]; exact trivial)) (fun x y h => by rw [← e_s_l01All]; exact h)
noncomputable def as_s_l06Is : Ty := (.pair (.st (.pair (.int .i64) (.pair (.int .i64) .unit))) .unit)
noncomputable def sp_s_l06Is (F : ((Int × Int × Unit) × Unit) → Option Bool) : FnSpec := ⟨as_s_l06Is, [false], .bool, F⟩
noncomputable def s_l06Is (K : Nat) (x : ((Int × Int × Unit) × Unit)) : Option Bool :=
    (s_l01In K (x.1.1, (1 : Int), (4 : Int), ())).bind fun y1 =>
    (if y1 = true then
    (s_l01All K (x.1.1, ())).bind fun y2 =>
    (s_l01In K (x.1.2.1, (0 : Int), y2, ())).bind fun y3 =>
    some y3
    else
    some false)
noncomputable def rv_s_l06Is : Lv := [(2, (.v .bool))]
noncomputable def sg_s_l06Is {R : Type} (K : Nat) (k : Nat) : List (Nat × SegS R) := []
noncomputable def su_s_l06Is : List (Nat × Unit) := []
noncomputable def en_s_l06Is {R : Type} (K : Nat) (k : Nat) : Env R := { L := lk [], X := lk [], S := lk (sg_s_l06Is K k), rv := rv_s_l06Is }
noncomputable def cf_s_l06Is (K : Nat) : Cfg := { ty := lk tys, fn := lk [(52, sp_s_l01In (s_l01In K)), (53, sp_s_l01All (s_l01All K))], prot := 0, nt := Try.f106.ntmps }
theorem e_s_l06Is (K : Nat) (x : den as_s_l06Is) : s_l06Is K x = evFn (cf_s_l06Is K) as_s_l06Is [false] .bool (en_s_l06Is K K) Try.f106.results.toList (bodyOf Try.f106) x := by kernel_rfl
theorem ok_s_l06Is (K : Nat) : FnOk Try.prog 106 (sp_s_l06Is (s_l06Is K)) :=
  fn_ok (cf := cf_s_l06Is K) (en := en_s_l06Is K K) (c := bodyOf Try.f106) Try.func106 (by kernel_rfl) (by kernel_rfl) tysOk (fns_ok (l := [(52, sp_s_l01In (s_l01In K)), (53, sp_s_l01All (s_l01All K))]) ⟨ok_s_l01In K, ⟨ok_s_l01All K, trivial⟩⟩) (by kernel_rfl) rfl (Nat.le_of_ble_eq_true (by kernel_rfl)) (by kernel_rfl) (of_decide_eq_true (by kernel_rfl)) (by decide) (fun C hP O => lpOk_of (en := en_s_l06Is K K) (S := hasK su_s_l06Is) (fun i => hasK_lk (sg_s_l06Is K K) i) _ (by rw [show partsOf (hasK su_s_l06Is) (bodyOf Try.f106) = [] from by kernel_rfl]; exact trivial)) (fun x y h => by rw [← e_s_l06Is]; exact h)
noncomputable def as_i_IsRelation : Ty := (.pair (.st (.pair (.int .i64) (.pair (.int .i64) .unit))) .unit)
noncomputable def sp_i_IsRelation (F : ((Int × Int × Unit) × Unit) → Option Bool) : FnSpec := ⟨as_i_IsRelation, [false], .bool, F⟩
noncomputable def i_IsRelation (K : Nat) (x : ((Int × Int × Unit) × Unit)) : Option Bool :=
    (i_within K (x.1.1, (1 : Int), (4 : Int), ())).bind fun y1 =>
    (if y1 = true then
    (i_funcsOf K (x.1.1, ())).bind fun y2 =>
    (i_within K (x.1.2.1, (0 : Int), (IntKind.i64.wrap (y2 - (1 : Int))), ())).bind fun y3 =>
    some y3
    else
    some false)
noncomputable def rv_i_IsRelation : Lv := [(2, (.v .bool))]
noncomputable def sg_i_IsRelation {R : Type} (K : Nat) (k : Nat) : List (Nat × SegS R) := []
noncomputable def su_i_IsRelation : List (Nat × Unit) := []
noncomputable def en_i_IsRelation {R : Type} (K : Nat) (k : Nat) : Env R := { L := lk [], X := lk [], S := lk (sg_i_IsRelation K k), rv := rv_i_IsRelation }
noncomputable def cf_i_IsRelation (K : Nat) : Cfg := { ty := lk tys, fn := lk [(58, sp_i_funcsOf (i_funcsOf K)), (79, sp_i_within (i_within K))], prot := 0, nt := Try.f108.ntmps }
theorem e_i_IsRelation (K : Nat) (x : den as_i_IsRelation) : i_IsRelation K x = evFn (cf_i_IsRelation K) as_i_IsRelation [false] .bool (en_i_IsRelation K K) Try.f108.results.toList (bodyOf Try.f108) x := by kernel_rfl
theorem ok_i_IsRelation (K : Nat) : FnOk Try.prog 108 (sp_i_IsRelation (i_IsRelation K)) :=
  fn_ok (cf := cf_i_IsRelation K) (en := en_i_IsRelation K K) (c := bodyOf Try.f108) Try.func108 (by kernel_rfl) (by kernel_rfl) tysOk (fns_ok (l := [(58, sp_i_funcsOf (i_funcsOf K)), (79, sp_i_within (i_within K))]) ⟨ok_i_funcsOf K, ⟨ok_i_within K, trivial⟩⟩) (by kernel_rfl) rfl (Nat.le_of_ble_eq_true (by kernel_rfl)) (by kernel_rfl) (of_decide_eq_true (by kernel_rfl)) (by decide) (fun C hP O => lpOk_of (en := en_i_IsRelation K K) (S := hasK su_i_IsRelation) (fun i => hasK_lk (sg_i_IsRelation K K) i) _ (by rw [show partsOf (hasK su_i_IsRelation) (bodyOf Try.f108) = [] from by kernel_rfl]; exact trivial)) (fun x y h => by rw [← e_i_IsRelation]; exact h)
noncomputable def as_i_bit : Ty := (.pair (.int .i64) (.pair (.int .i64) .unit))
noncomputable def sp_i_bit (F : (Int × Int × Unit) → Option Int) : FnSpec := ⟨as_i_bit, [false, false], (.int .i64), F⟩
noncomputable def i_bit (K : Nat) (x : (Int × Int × Unit)) : Option Int :=
    (if (decide ((0 : Int) ≤ x.2.1)) = true then
    some (bitI .and .i64 (shrI .i64 x.1 x.2.1) (1 : Int))
    else
    none)
noncomputable def rv_i_bit : Lv := [(4, (.v (.int .i64)))]
noncomputable def sg_i_bit {R : Type} (K : Nat) (k : Nat) : List (Nat × SegS R) := []
noncomputable def su_i_bit : List (Nat × Unit) := []
noncomputable def en_i_bit {R : Type} (K : Nat) (k : Nat) : Env R := { L := lk [], X := lk [], S := lk (sg_i_bit K k), rv := rv_i_bit }
noncomputable def cf_i_bit (K : Nat) : Cfg := { ty := lk tys, fn := lk [], prot := 0, nt := Try.f96.ntmps }
theorem e_i_bit (K : Nat) (x : den as_i_bit) : i_bit K x = evFn (cf_i_bit K) as_i_bit [false, false] (.int .i64) (en_i_bit K K) Try.f96.results.toList (bodyOf Try.f96) x := by kernel_rfl
theorem ok_i_bit (K : Nat) : FnOk Try.prog 96 (sp_i_bit (i_bit K)) :=
  fn_ok (cf := cf_i_bit K) (en := en_i_bit K K) (c := bodyOf Try.f96) Try.func96 (by kernel_rfl) (by kernel_rfl) tysOk (fns_ok (l := []) trivial) (by kernel_rfl) rfl (Nat.le_of_ble_eq_true (by kernel_rfl)) (by kernel_rfl) (of_decide_eq_true (by kernel_rfl)) (by decide) (fun C hP O => lpOk_of (en := en_i_bit K K) (S := hasK su_i_bit) (fun i => hasK_lk (sg_i_bit K K) i) _ (by rw [show partsOf (hasK su_i_bit) (bodyOf Try.f96) = [] from by kernel_rfl]; exact trivial)) (fun x y h => by rw [← e_i_bit]; exact h)
noncomputable def as_i_Relation_has : Ty := (.pair (.st (.pair (.int .i64) (.pair (.int .i64) .unit))) (.pair (.int .i64) .unit))
noncomputable def sp_i_Relation_has (F : ((Int × Int × Unit) × Int × Unit) → Option Bool) : FnSpec := ⟨as_i_Relation_has, [false, false], .bool, F⟩
noncomputable def i_Relation_has (K : Nat) (x : ((Int × Int × Unit) × Int × Unit)) : Option Bool :=
    (i_bit K (x.1.2.1, x.2.1, ())).bind fun y1 =>
    some (decide (y1 = (1 : Int)))
noncomputable def rv_i_Relation_has : Lv := [(4, (.v .bool))]
noncomputable def sg_i_Relation_has {R : Type} (K : Nat) (k : Nat) : List (Nat × SegS R) := []
noncomputable def su_i_Relation_has : List (Nat × Unit) := []
noncomputable def en_i_Relation_has {R : Type} (K : Nat) (k : Nat) : Env R := { L := lk [], X := lk [], S := lk (sg_i_Relation_has K k), rv := rv_i_Relation_has }
noncomputable def cf_i_Relation_has (K : Nat) : Cfg := { ty := lk tys, fn := lk [(96, sp_i_bit (i_bit K))], prot := 0, nt := Try.f93.ntmps }
theorem e_i_Relation_has (K : Nat) (x : den as_i_Relation_has) : i_Relation_has K x = evFn (cf_i_Relation_has K) as_i_Relation_has [false, false] .bool (en_i_Relation_has K K) Try.f93.results.toList (bodyOf Try.f93) x := by kernel_rfl
theorem ok_i_Relation_has (K : Nat) : FnOk Try.prog 93 (sp_i_Relation_has (i_Relation_has K)) :=
  fn_ok (cf := cf_i_Relation_has K) (en := en_i_Relation_has K K) (c := bodyOf Try.f93) Try.func93 (by kernel_rfl) (by kernel_rfl) tysOk (fns_ok (l := [(96, sp_i_bit (i_bit K))]) ⟨ok_i_bit K, trivial⟩) (by kernel_rfl) rfl (Nat.le_of_ble_eq_true (by kernel_rfl)) (by kernel_rfl) (of_decide_eq_true (by kernel_rfl)) (by decide) (fun C hP O => lpOk_of (en := en_i_Relation_has K K) (S := hasK su_i_Relation_has) (fun i => hasK_lk (sg_i_Relation_has K K) i) _ (by rw [show partsOf (hasK su_i_Relation_has) (bodyOf Try.f93) = [] from by kernel_rfl]; exact trivial)) (fun x y h => by rw [← e_i_Relation_has]; exact h)
noncomputable def as_s_l09Has : Ty := (.pair (.st (.pair (.int .i64) (.pair (.int .i64) .unit))) (.pair (.int .i64) .unit))
noncomputable def sp_s_l09Has (F : ((Int × Int × Unit) × Int × Unit) → Option Bool) : FnSpec := ⟨as_s_l09Has, [false, false], .bool, F⟩
noncomputable def s_l09Has (K : Nat) (x : ((Int × Int × Unit) × Int × Unit)) : Option Bool :=
    (if (decide ((0 : Int) ≤ (IntKind.u64.wrap x.2.1))) = true then
    let x1 := (bitI .and .i64 (shrI .i64 x.1.2.1 (IntKind.u64.wrap x.2.1)) (1 : Int))
    some (decide (x1 = (1 : Int)))
    else
    none)
noncomputable def rv_s_l09Has : Lv := [(4, (.v .bool))]
noncomputable def sg_s_l09Has {R : Type} (K : Nat) (k : Nat) : List (Nat × SegS R) := []
noncomputable def su_s_l09Has : List (Nat × Unit) := []
noncomputable def en_s_l09Has {R : Type} (K : Nat) (k : Nat) : Env R := { L := lk [], X := lk [], S := lk (sg_s_l09Has K k), rv := rv_s_l09Has }
noncomputable def cf_s_l09Has (K : Nat) : Cfg := { ty := lk tys, fn := lk [], prot := 0, nt := Try.f76.ntmps }
theorem e_s_l09Has (K : Nat) (x : den as_s_l09Has) : s_l09Has K x = evFn (cf_s_l09Has K) as_s_l09Has [false, false] .bool (en_s_l09Has K K) Try.f76.results.toList (bodyOf Try.f76) x := by kernel_rfl
theorem ok_s_l09Has (K : Nat) : FnOk Try.prog 76 (sp_s_l09Has (s_l09Has K)) :=
  fn_ok (cf := cf_s_l09Has K) (en := en_s_l09Has K K) (c := bodyOf Try.f76) Try.func76 (by kernel_rfl) (by kernel_rfl) tysOk (fns_ok (l := []) trivial) (by kernel_rfl) rfl (Nat.le_of_ble_eq_true (by kernel_rfl)) (by kernel_rfl) (of_decide_eq_true (by kernel_rfl)) (by decide) (fun C hP O => lpOk_of (en := en_s_l09Has K K) (S := hasK su_s_l09Has) (fun i => hasK_lk (sg_s_l09Has K K) i) _ (by rw [show partsOf (hasK su_s_l09Has) (bodyOf Try.f76) = [] from by kernel_rfl]; exact trivial)) (fun x y h => by rw [← e_s_l09Has]; exact h)
noncomputable def as_i_Func_at : Ty := (.pair (.st (.pair (.int .i64) (.pair (.int .i64) .unit))) (.pair (.int .i64) .unit))
noncomputable def sp_i_Func_at (F : ((Int × Int × Unit) × Int × Unit) → Option Int) : FnSpec := ⟨as_i_Func_at, [false, false], (.int .i64), F⟩
noncomputable def i_Func_at (K : Nat) (x : ((Int × Int × Unit) × Int × Unit)) : Option Int :=
    (i_bit K (x.1.2.1, x.2.1, ())).bind fun y1 =>
    some y1
noncomputable def rv_i_Func_at : Lv := [(4, (.v (.int .i64)))]
noncomputable def sg_i_Func_at {R : Type} (K : Nat) (k : Nat) : List (Nat × SegS R) := []
noncomputable def su_i_Func_at : List (Nat × Unit) := []
noncomputable def en_i_Func_at {R : Type} (K : Nat) (k : Nat) : Env R := { L := lk [], X := lk [], S := lk (sg_i_Func_at K k), rv := rv_i_Func_at }
noncomputable def cf_i_Func_at (K : Nat) : Cfg := { ty := lk tys, fn := lk [(96, sp_i_bit (i_bit K))], prot := 0, nt := Try.f112.ntmps }
theorem e_i_Func_at (K : Nat) (x : den as_i_Func_at) : i_Func_at K x = evFn (cf_i_Func_at K) as_i_Func_at [false, false] (.int .i64) (en_i_Func_at K K) Try.f112.results.toList (bodyOf Try.f112) x := by kernel_rfl
theorem ok_i_Func_at (K : Nat) : FnOk Try.prog 112 (sp_i_Func_at (i_Func_at K)) :=
  fn_ok (cf := cf_i_Func_at K) (en := en_i_Func_at K K) (c := bodyOf Try.f112) Try.func112 (by kernel_rfl) (by kernel_rfl) tysOk (fns_ok (l := [(96, sp_i_bit (i_bit K))]) ⟨ok_i_bit K, trivial⟩) (by kernel_rfl) rfl (Nat.le_of_ble_eq_true (by kernel_rfl)) (by kernel_rfl) (of_decide_eq_true (by kernel_rfl)) (by decide) (fun C hP O => lpOk_of (en := en_i_Func_at K K) (S := hasK su_i_Func_at) (fun i => hasK_lk (sg_i_Func_at K K) i) _ (by rw [show partsOf (hasK su_i_Func_at) (bodyOf Try.f112) = [] from by kernel_rfl]; exact trivial)) (fun x y h => by rw [← e_i_Func_at]; exact h)
noncomputable def as_s_l01At : Ty := (.pair (.st (.pair (.int .i64) (.pair (.int .i64) .unit))) (.pair (.int .i64) .unit))
noncomputable def sp_s_l01At (F : ((Int × Int × Unit) × Int × Unit) → Option Int) : FnSpec := ⟨as_s_l01At, [false, false], (.int .i64), F⟩
noncomputable def s_l01At (K : Nat) (x : ((Int × Int × Unit) × Int × Unit)) : Option Int :=
    (if (decide ((0 : Int) ≤ (IntKind.u64.wrap x.2.1))) = true then
    let x1 := (bitI .and .i64 (shrI .i64 x.1.2.1 (IntKind.u64.wrap x.2.1)) (1 : Int))
    some x1
    else
    none)
noncomputable def rv_s_l01At : Lv := [(4, (.v (.int .i64)))]
noncomputable def sg_s_l01At {R : Type} (K : Nat) (k : Nat) : List (Nat × SegS R) := []
noncomputable def su_s_l01At : List (Nat × Unit) := []
noncomputable def en_s_l01At {R : Type} (K : Nat) (k : Nat) : Env R := { L := lk [], X := lk [], S := lk (sg_s_l01At K k), rv := rv_s_l01At }
noncomputable def cf_s_l01At (K : Nat) : Cfg := { ty := lk tys, fn := lk [], prot := 0, nt := Try.f110.ntmps }
theorem e_s_l01At (K : Nat) (x : den as_s_l01At) : s_l01At K x = evFn (cf_s_l01At K) as_s_l01At [false, false] (.int .i64) (en_s_l01At K K) Try.f110.results.toList (bodyOf Try.f110) x := by kernel_rfl
theorem ok_s_l01At (K : Nat) : FnOk Try.prog 110 (sp_s_l01At (s_l01At K)) :=
  fn_ok (cf := cf_s_l01At K) (en := en_s_l01At K K) (c := bodyOf Try.f110) Try.func110 (by kernel_rfl) (by kernel_rfl) tysOk (fns_ok (l := []) trivial) (by kernel_rfl) rfl (Nat.le_of_ble_eq_true (by kernel_rfl)) (by kernel_rfl) (of_decide_eq_true (by kernel_rfl)) (by decide) (fun C hP O => lpOk_of (en := en_s_l01At K K) (S := hasK su_s_l01At) (fun i => hasK_lk (sg_s_l01At K K) i) _ (by rw [show partsOf (hasK su_s_l01At) (bodyOf Try.f110) = [] from by kernel_rfl]; exact trivial)) (fun x y h => by rw [← e_s_l01At]; exact h)
noncomputable def as_i_Func_rows : Ty := (.pair (.st (.pair (.int .i64) (.pair (.int .i64) .unit))) .unit)
noncomputable def sp_i_Func_rows (F : ((Int × Int × Unit) × Unit) → Option Int) : FnSpec := ⟨as_i_Func_rows, [false], (.int .i64), F⟩
noncomputable def i_Func_rows (K : Nat) (x : ((Int × Int × Unit) × Unit)) : Option Int :=
    (i_rowsOf K (x.1.1, ())).bind fun y1 =>
    some y1
noncomputable def rv_i_Func_rows : Lv := [(2, (.v (.int .i64)))]
noncomputable def sg_i_Func_rows {R : Type} (K : Nat) (k : Nat) : List (Nat × SegS R) := []
noncomputable def su_i_Func_rows : List (Nat × Unit) := []
noncomputable def en_i_Func_rows {R : Type} (K : Nat) (k : Nat) : Env R := { L := lk [], X := lk [], S := lk (sg_i_Func_rows K k), rv := rv_i_Func_rows }
noncomputable def cf_i_Func_rows (K : Nat) : Cfg := { ty := lk tys, fn := lk [(90, sp_i_rowsOf (i_rowsOf K))], prot := 0, nt := Try.f113.ntmps }
theorem e_i_Func_rows (K : Nat) (x : den as_i_Func_rows) : i_Func_rows K x = evFn (cf_i_Func_rows K) as_i_Func_rows [false] (.int .i64) (en_i_Func_rows K K) Try.f113.results.toList (bodyOf Try.f113) x := by kernel_rfl
theorem ok_i_Func_rows (K : Nat) : FnOk Try.prog 113 (sp_i_Func_rows (i_Func_rows K)) :=
  fn_ok (cf := cf_i_Func_rows K) (en := en_i_Func_rows K K) (c := bodyOf Try.f113) Try.func113 (by kernel_rfl) (by kernel_rfl) tysOk (fns_ok (l := [(90, sp_i_rowsOf (i_rowsOf K))]) ⟨ok_i_rowsOf K, trivial⟩) (by kernel_rfl) rfl (Nat.le_of_ble_eq_true (by kernel_rfl)) (by kernel_rfl) (of_decide_eq_true (by kernel_rfl)) (by decide) (fun C hP O => lpOk_of (en := en_i_Func_rows K K) (S := hasK su_i_Func_rows) (fun i => hasK_lk (sg_i_Func_rows K K) i) _ (by rw [show partsOf (hasK su_i_Func_rows) (bodyOf Try.f113) = [] from by kernel_rfl]; exact trivial)) (fun x y h => by rw [← e_i_Func_rows]; exact h)
noncomputable def as_i_one : Ty := (.pair .bool .unit)
noncomputable def sp_i_one (F : (Bool × Unit) → Option Int) : FnSpec := ⟨as_i_one, [false], (.int .i64), F⟩
noncomputable def i_one (K : Nat) (x : (Bool × Unit)) : Option Int :=
    (if x.1 = true then
    some (1 : Int)
    else
    some (0 : Int))
noncomputable def rv_i_one : Lv := [(2, (.v (.int .i64)))]
noncomputable def sg_i_one {R : Type} (K : Nat) (k : Nat) : List (Nat × SegS R) := []
noncomputable def su_i_one : List (Nat × Unit) := []
noncomputable def en_i_one {R : Type} (K : Nat) (k : Nat) : Env R := { L := lk [], X := lk [], S := lk (sg_i_one K k), rv := rv_i_one }
noncomputable def cf_i_one (K : Nat) : Cfg := { ty := lk tys, fn := lk [], prot := 0, nt := Try.f61.ntmps }
theorem e_i_one (K : Nat) (x : den as_i_one) : i_one K x = evFn (cf_i_one K) as_i_one [false] (.int .i64) (en_i_one K K) Try.f61.results.toList (bodyOf Try.f61) x := by kernel_rfl
theorem ok_i_one (K : Nat) : FnOk Try.prog 61 (sp_i_one (i_one K)) :=
  fn_ok (cf := cf_i_one K) (en := en_i_one K K) (c := bodyOf Try.f61) Try.func61 (by kernel_rfl) (by kernel_rfl) tysOk (fns_ok (l := []) trivial) (by kernel_rfl) rfl (Nat.le_of_ble_eq_true (by kernel_rfl)) (by kernel_rfl) (of_decide_eq_true (by kernel_rfl)) (by decide) (fun C hP O => lpOk_of (en := en_i_one K K) (S := hasK su_i_one) (fun i => hasK_lk (sg_i_one K K) i) _ (by rw [show partsOf (hasK su_i_one) (bodyOf Try.f61) = [] from by kernel_rfl]; exact trivial)) (fun x y h => by rw [← e_i_one]; exact h)
end Go.Proofs.Ytieiajeggahipaa.E
namespace Go.Proofs.Ytieiajeggahipaa.E
open Go Go.Proofs
set_option linter.unusedVariables false
set_option linter.unusedSimpArgs false
variable {K : Nat}
abbrev DF := Int × Int × Unit
theorem i_within_eq (a b c : Int) : i_within K (a, b, c, ()) = some (decide (b ≤ a) && decide (a ≤ c)) := by
  simp only [i_within]
  by_cases h : b ≤ a
  · rw [if_pos (decide_eq_true h)]; simp [h]
  · rw [if_neg (by simpa using h)]; simp [h]
theorem s_l01In_eq (a b c : Int) : s_l01In K (a, b, c, ()) = some (decide (b ≤ a) && decide (a ≤ c)) := by
  simp only [s_l01In]
  by_cases h : b ≤ a
  · rw [if_pos (decide_eq_true h)]; simp [h]
  · rw [if_neg (by simpa using h)]; simp [h]
theorem i_one_eq (b : Bool) : i_one K (b, ()) = some (if b then 1 else 0) := by cases b <;> rfl
theorem i_rowsOf_eq {n : Nat} (h : n < 63) : i_rowsOf K ((n : Int), ()) = some ((2 ^ n : Nat) : Int) := by
  simp only [i_rowsOf]; rw [if_pos (nn n), shl1 h]
theorem s_l01Rows_eq {n : Nat} (h : n < 63) : s_l01Rows K ((n : Int), ()) = some ((2 ^ n : Nat) : Int) := by
  simp only [s_l01Rows]; rw [if_pos (u64_dec _), u64n (by omega), shl1 h]
theorem i_Func_rows_eq {n : Nat} (b : Int) (h : n < 63) : i_Func_rows K (((n : Int), b, ()), ()) = some ((2 ^ n : Nat) : Int) := by
  simp only [i_Func_rows, i_rowsOf_eq h]; rfl
theorem pw4 {n : Nat} (h : n ≤ 4) : 2 ^ n ≤ 16 := Nat.pow_le_pow_right (by decide) h
theorem ppw4 {n : Nat} (h : n ≤ 4) : 2 ^ 2 ^ n ≤ 65536 := Nat.pow_le_pow_right (by decide) (pw4 h)
theorem i_funcsOf_eq {n : Nat} (h : n ≤ 4) : i_funcsOf K ((n : Int), ()) = some ((2 ^ 2 ^ n : Nat) : Int) := by
  have h4 := pw4 h
  simp only [i_funcsOf, i_rowsOf_eq (show n < 63 by omega), some_bind']
  rw [if_pos (nn _), shl1 (by omega)]
theorem s_l01All_eq {n : Nat} (h : n ≤ 4) : s_l01All K ((n : Int), ()) = some ((2 ^ 2 ^ n : Nat) - 1 : Int) := by
  have h4 := pw4 h
  have h5 := ppw4 h
  simp only [s_l01All, s_l01Rows_eq (show n < 63 by omega), some_bind']
  rw [if_pos (u64_dec _), u64n (by omega), shl1 (by omega), w64m1 (by omega)]
/-- What is a function, or a relation with as many places. -/
def isF (lo : Int) (f : DF) : Bool := decide (lo ≤ f.1) && decide (f.1 ≤ 4) && decide (0 ≤ f.2.1) && decide (f.2.1 < ((2 ^ 2 ^ f.1.toNat : Nat) : Int))
theorem isF_nat {lo : Int} {f : DF} (h : isF lo f = true) (hl : 0 ≤ lo) : ∃ n b : Nat, f = ((n : Int), (b : Int), ()) ∧ n ≤ 4 ∧ b < 2 ^ 2 ^ n ∧ lo ≤ n := by
  obtain ⟨a, c, u⟩ := f
  simp only [isF, Bool.and_eq_true, decide_eq_true_eq] at h
  refine ⟨a.toNat, c.toNat, ?_, by omega, by have := h.2; omega, by omega⟩
  rw [Int.toNat_of_nonneg (by omega), Int.toNat_of_nonneg (by omega)]
theorem isF_mk {lo : Int} {n b : Nat} (h1 : lo ≤ n) (h2 : n ≤ 4) (h3 : b < 2 ^ 2 ^ n) : isF lo ((n : Int), (b : Int), ()) = true := by
  simp only [isF, Bool.and_eq_true, decide_eq_true_eq, Int.toNat_natCast]
  exact ⟨⟨⟨h1, by omega⟩, by omega⟩, by omega⟩
theorem bits_lt {n b : Nat} (h : n ≤ 4) (hb : b < 2 ^ 2 ^ n) : b < 9223372036854775808 := by have := ppw4 h; omega
theorem isF_range {lo : Int} (hl : 0 ≤ lo) {a c : Int} {u : Unit} (h : lo ≤ a ∧ a ≤ 4) : (decide ((0 : Int) ≤ c) && decide (c ≤ ((2 ^ 2 ^ a.toNat : Nat) : Int) - 1)) = isF lo (a, c, u) := by
  simp only [isF, h.1, h.2, decide_true, Bool.true_and]
  congr 1
  apply decide_eq_decide.2; omega
theorem isF_out {lo : Int} {a c : Int} {u : Unit} (h : ¬ (lo ≤ a ∧ a ≤ 4)) : isF lo (a, c, u) = false := by
  simp only [isF, Bool.and_eq_false_iff, decide_eq_false_iff_not]; omega
theorem and_dec {a b : Prop} [Decidable a] [Decidable b] : ((decide a && decide b) = true) ↔ (a ∧ b) := by simp
theorem i_IsFunc_eq (f : DF) : i_IsFunc K (f, ()) = some (isF 0 f) := by
  obtain ⟨a, c, u⟩ := f
  simp only [i_IsFunc, i_isArity, i_within_eq, some_bind']
  by_cases h : 0 ≤ a ∧ a ≤ 4
  · obtain ⟨n, rfl⟩ := Int.eq_ofNat_of_zero_le h.1
    rw [if_pos (and_dec.2 h), i_funcsOf_eq (by omega), some_bind']
    have h5 := ppw4 (show n ≤ 4 by omega)
    rw [w64m1 (by omega)]
    have := isF_range (lo := 0) (by decide) (c := c) (u := u) h
    rw [Int.toNat_natCast] at this
    rw [this]
  · rw [if_neg (fun e => h (and_dec.1 e)), isF_out h]
theorem i_IsRelation_eq (f : DF) : i_IsRelation K (f, ()) = some (isF 1 f) := by
  obtain ⟨a, c, u⟩ := f
  simp only [i_IsRelation, i_within_eq, some_bind']
  by_cases h : 1 ≤ a ∧ a ≤ 4
  · obtain ⟨n, rfl⟩ := Int.eq_ofNat_of_zero_le (show 0 ≤ a by omega)
    rw [if_pos (and_dec.2 h), i_funcsOf_eq (by omega), some_bind']
    have h5 := ppw4 (show n ≤ 4 by omega)
    rw [w64m1 (by omega)]
    have := isF_range (lo := 1) (by decide) (c := c) (u := u) h
    rw [Int.toNat_natCast] at this
    rw [this]
  · rw [if_neg (fun e => h (and_dec.1 e)), isF_out h]
theorem s_l06Is_eq (f : DF) : s_l06Is K (f, ()) = some (isF 1 f) := by
  obtain ⟨a, c, u⟩ := f
  simp only [s_l06Is, s_l01In_eq, some_bind']
  by_cases h : 1 ≤ a ∧ a ≤ 4
  · obtain ⟨n, rfl⟩ := Int.eq_ofNat_of_zero_le (show 0 ≤ a by omega)
    rw [if_pos (and_dec.2 h), s_l01All_eq (by omega), some_bind']
    have := isF_range (lo := 1) (by decide) (c := c) (u := u) h
    rw [Int.toNat_natCast] at this
    rw [this]
  · rw [if_neg (fun e => h (and_dec.1 e)), isF_out h]
theorem i_bit_eq {b : Nat} (j : Nat) (h : b < 9223372036854775808) : i_bit K ((b : Int), (j : Int), ()) = some (bt b j) := by
  simp only [i_bit]; rw [if_pos (nn j), bitI_bt j h]
theorem i_Func_at_eq {n : Int} {b : Nat} (j : Nat) (h : b < 9223372036854775808) : i_Func_at K ((n, (b : Int), ()), (j : Int), ()) = some (bt b j) := by
  simp only [i_Func_at, i_bit_eq j h]; rfl
theorem s_l01At_eq {n : Int} {b j : Nat} (h : b < 9223372036854775808) (hj : j < 9223372036854775808) : s_l01At K ((n, (b : Int), ()), (j : Int), ()) = some (bt b j) := by
  simp only [s_l01At]; rw [if_pos (u64_dec _), u64n (by omega), bitI_bt j h]
theorem bt_dec (b j : Nat) : decide (bt b j = 1) = b.testBit j := by unfold bt; cases b.testBit j <;> rfl
theorem bt_dec0 (b j : Nat) : decide (bt b j = 0) = !b.testBit j := by unfold bt; cases b.testBit j <;> rfl
theorem i_Relation_has_eq {n : Int} {b : Nat} (j : Nat) (h : b < 9223372036854775808) : i_Relation_has K ((n, (b : Int), ()), (j : Int), ()) = some (b.testBit j) := by
  simp only [i_Relation_has, i_bit_eq j h, some_bind', bt_dec]
theorem s_l09Has_eq {n : Int} {b j : Nat} (h : b < 9223372036854775808) (hj : j < 9223372036854775808) : s_l09Has K ((n, (b : Int), ()), (j : Int), ()) = some (b.testBit j) := by
  simp only [s_l09Has]; rw [if_pos (u64_dec _), u64n (by omega), bitI_bt j h, bt_dec]
end Go.Proofs.Ytieiajeggahipaa.E
namespace Go.Proofs.Ytieiajeggahipaa.E
open Go Go.Proofs Go.Proofs.Ytieiajeggahipaa
set_option maxRecDepth 100000
set_option linter.unusedVariables false
noncomputable def as_w_eqInt64S : Ty := (.pair (.sl (.int .i64)) (.pair (.sl (.int .i64)) .unit))
noncomputable def sp_w_eqInt64S (F : ((List Int) × (List Int) × Unit) → Option Bool) : FnSpec := ⟨as_w_eqInt64S, [false, false], .bool, F⟩
noncomputable def w_eqInt64S_l4 {R : Type} (K : Nat) : Nat → (List Int) → (List Int) → Int → (Option R) → (Bool → Option R) → Option R
  | 0, _, _, _, _, _ => none
  | k + 1, v0, v1, v5, kx0, kr =>
    (if (decide (v5 < (v0.length : Int))) = true then
    (if (bnds v5 (v0.length : Int)) = true then
    (if (bnds v5 (v1.length : Int)) = true then
    let x1 := (!decide ((v0.getD v5.toNat (0 : Int)) = (v1.getD v5.toNat (0 : Int))))
    (if x1 = true then
    kr false
    else
    w_eqInt64S_l4 K k v0 v1 (IntKind.i64.wrap (v5 + (1 : Int))) kx0 kr)
    else
    none)
    else
    none)
    else
    kx0)
noncomputable def w_eqInt64S (K : Nat) (x : ((List Int) × (List Int) × Unit)) : Option Bool :=
    (if (!decide ((x.1.length : Int) = (x.2.1.length : Int))) = true then
    some false
    else
    w_eqInt64S_l4 K K x.1 x.2.1 (0 : Int) (some true) (fun z2 =>
    some z2))
noncomputable def lv_w_eqInt64S_L4 : Lv := [(0, (.v (.sl (.int .i64)))), (1, (.v (.sl (.int .i64)))), (5, (.v (.int .i64)))]
noncomputable def lv_w_eqInt64S_X0 : Lv := []
noncomputable def rv_w_eqInt64S : Lv := [(4, (.v .bool))]
noncomputable def gw_eqInt64S_l4 {R : Type} (K : Nat) (k : Nat) (x : den lv_w_eqInt64S_L4.ty) (kx : Nat → St → Option R) (kr : St → Option R) : Option R := w_eqInt64S_l4 K k x.1 x.2.1 x.2.2.1 (kx 0 (mkSt lv_w_eqInt64S_X0 ())) (fun z0 => kr (mkSt rv_w_eqInt64S (z0, ())))
noncomputable def sg_w_eqInt64S {R : Type} (K : Nat) (k : Nat) : List (Nat × SegS R) := []
noncomputable def su_w_eqInt64S : List (Nat × Unit) := []
noncomputable def en_w_eqInt64S {R : Type} (K : Nat) (k : Nat) : Env R := { L := lk [(4, mkLoop lv_w_eqInt64S_L4 (gw_eqInt64S_l4 K k))], X := lk [(0, lv_w_eqInt64S_X0)], S := lk (sg_w_eqInt64S K k), rv := rv_w_eqInt64S }
noncomputable def cf_w_eqInt64S (K : Nat) : Cfg := { ty := lk tys, fn := lk [], prot := 0, nt := Try.f17.ntmps }
noncomputable def c_w_eqInt64S_L4 : Code := nthC (partsOf (hasK su_w_eqInt64S) (bodyOf Try.f17)) 0
theorem ew_eqInt64S_l4 {R : Type} (K : Nat) (k : Nat) (x : den lv_w_eqInt64S_L4.ty) (kx : Nat → St → Option R) (kr : St → Option R) : gw_eqInt64S_l4 K (k + 1) x kx kr = evC (cf_w_eqInt64S K) (en_w_eqInt64S K k) c_w_eqInt64S_L4 (mkSt lv_w_eqInt64S_L4 x) (fun s => mkLoop lv_w_eqInt64S_L4 (gw_eqInt64S_l4 K k) s kx kr) kx kr := by kernel_rfl
theorem sw_eqInt64S_l4 {R : Type} (K : Nat) (C : Cx) (hP : C.P = Try.prog) (O : CfgOk C (cf_w_eqInt64S K)) (k : Nat) : LpS C (R := R) (mkLoop lv_w_eqInt64S_L4 (gw_eqInt64S_l4 K k)) c_w_eqInt64S_L4 :=
  loop_sound O (by rw [hP]; kernel_rfl) (fun x kx kr => rfl) (ew_eqInt64S_l4 K) (fun k => lpOk_of (en := en_w_eqInt64S K k) (S := hasK su_w_eqInt64S) (fun i => hasK_lk (sg_w_eqInt64S K k) i) _ (by rw [show partsOf (hasK su_w_eqInt64S) c_w_eqInt64S_L4 = [] from by kernel_rfl]; exact trivial)) k
theorem e_w_eqInt64S (K : Nat) (x : den as_w_eqInt64S) : w_eqInt64S K x = evFn (cf_w_eqInt64S K) as_w_eqInt64S [false, false] .bool (en_w_eqInt64S K K) Try.f17.results.toList (bodyOf Try.f17) x := by kernel_rfl
theorem ok_w_eqInt64S (K : Nat) : FnOk Try.prog 17 (sp_w_eqInt64S (w_eqInt64S K)) :=
  fn_ok (cf := cf_w_eqInt64S K) (en := en_w_eqInt64S K K) (c := bodyOf Try.f17) Try.func17 (by kernel_rfl) (by kernel_rfl) tysOk (fns_ok (l := []) trivial) (by kernel_rfl) rfl (Nat.le_of_ble_eq_true (by kernel_rfl)) (by kernel_rfl) (of_decide_eq_true (by kernel_rfl)) (by decide) (fun C hP O => lpOk_of (en := en_w_eqInt64S K K) (S := hasK su_w_eqInt64S) (fun i => hasK_lk (sg_w_eqInt64S K K) i) _ (by rw [show partsOf (hasK su_w_eqInt64S) (bodyOf Try.f17) = [(true, c_w_eqInt64S_L4)] from by kernel_rfl]; exact (lpL_loop (f := mkLoop lv_w_eqInt64S_L4 (gw_eqInt64S_l4 K K)) (by kernel_rfl) (sw_eqInt64S_l4 K C hP O K) trivial))) (fun x y h => by rw [← e_w_eqInt64S]; exact h)
noncomputable def as_w_eqRelation : Ty := (.pair (.st (.pair (.int .i64) (.pair (.int .i64) .unit))) (.pair (.st (.pair (.int .i64) (.pair (.int .i64) .unit))) .unit))
noncomputable def sp_w_eqRelation (F : ((Int × Int × Unit) × (Int × Int × Unit) × Unit) → Option Bool) : FnSpec := ⟨as_w_eqRelation, [false, false], .bool, F⟩
noncomputable def w_eqRelation (K : Nat) (x : ((Int × Int × Unit) × (Int × Int × Unit) × Unit)) : Option Bool :=
    (if (!decide (x.1.1 = x.2.1.1)) = true then
    some false
    else
    (if (!decide (x.1.2.1 = x.2.1.2.1)) = true then
    some false
    else
    some true))
noncomputable def rv_w_eqRelation : Lv := [(4, (.v .bool))]
noncomputable def sg_w_eqRelation {R : Type} (K : Nat) (k : Nat) : List (Nat × SegS R) := []
noncomputable def su_w_eqRelation : List (Nat × Unit) := []
noncomputable def en_w_eqRelation {R : Type} (K : Nat) (k : Nat) : Env R := { L := lk [], X := lk [], S := lk (sg_w_eqRelation K k), rv := rv_w_eqRelation }
noncomputable def cf_w_eqRelation (K : Nat) : Cfg := { ty := lk tys, fn := lk [], prot := 0, nt := Try.f72.ntmps }
theorem e_w_eqRelation (K : Nat) (x : den as_w_eqRelation) : w_eqRelation K x = evFn (cf_w_eqRelation K) as_w_eqRelation [false, false] .bool (en_w_eqRelation K K) Try.f72.results.toList (bodyOf Try.f72) x := by kernel_rfl
theorem ok_w_eqRelation (K : Nat) : FnOk Try.prog 72 (sp_w_eqRelation (w_eqRelation K)) :=
  fn_ok (cf := cf_w_eqRelation K) (en := en_w_eqRelation K K) (c := bodyOf Try.f72) Try.func72 (by kernel_rfl) (by kernel_rfl) tysOk (fns_ok (l := []) trivial) (by kernel_rfl) rfl (Nat.le_of_ble_eq_true (by kernel_rfl)) (by kernel_rfl) (of_decide_eq_true (by kernel_rfl)) (by decide) (fun C hP O => lpOk_of (en := en_w_eqRelation K K) (S := hasK su_w_eqRelation) (fun i => hasK_lk (sg_w_eqRelation K K) i) _ (by rw [show partsOf (hasK su_w_eqRelation) (bodyOf Try.f72) = [] from by kernel_rfl]; exact trivial)) (fun x y h => by rw [← e_w_eqRelation]; exact h)
noncomputable def as_w_eqClause : Ty := (.pair (.st (.pair (.st (.pair (.int .i64) (.pair (.int .i64) .unit))) (.pair (.sl (.int .i64)) .unit))) (.pair (.st (.pair (.st (.pair (.int .i64) (.pair (.int .i64) .unit))) (.pair (.sl (.int .i64)) .unit))) .unit))
noncomputable def sp_w_eqClause (F : (((Int × Int × Unit) × (List Int) × Unit) × ((Int × Int × Unit) × (List Int) × Unit) × Unit) → Option Bool) : FnSpec := ⟨as_w_eqClause, [false, false], .bool, F⟩
noncomputable def w_eqClause (K : Nat) (x : (((Int × Int × Unit) × (List Int) × Unit) × ((Int × Int × Unit) × (List Int) × Unit) × Unit)) : Option Bool :=
    (w_eqRelation K (x.1.1, x.2.1.1, ())).bind fun y1 =>
    (if (!y1) = true then
    some false
    else
    (w_eqInt64S K (x.1.2.1, x.2.1.2.1, ())).bind fun y2 =>
    (if (!y2) = true then
    some false
    else
    some true))
noncomputable def rv_w_eqClause : Lv := [(4, (.v .bool))]
noncomputable def sg_w_eqClause {R : Type} (K : Nat) (k : Nat) : List (Nat × SegS R) := []
noncomputable def su_w_eqClause : List (Nat × Unit) := []
noncomputable def en_w_eqClause {R : Type} (K : Nat) (k : Nat) : Env R := { L := lk [], X := lk [], S := lk (sg_w_eqClause K k), rv := rv_w_eqClause }
noncomputable def cf_w_eqClause (K : Nat) : Cfg := { ty := lk tys, fn := lk [(17, sp_w_eqInt64S (w_eqInt64S K)), (72, sp_w_eqRelation (w_eqRelation K))], prot := 0, nt := Try.f118.ntmps }
theorem e_w_eqClause (K : Nat) (x : den as_w_eqClause) : w_eqClause K x = evFn (cf_w_eqClause K) as_w_eqClause [false, false] .bool (en_w_eqClause K K) Try.f118.results.toList (bodyOf Try.f118) x := by kernel_rfl
theorem ok_w_eqClause (K : Nat) : FnOk Try.prog 118 (sp_w_eqClause (w_eqClause K)) :=
  fn_ok (cf := cf_w_eqClause K) (en := en_w_eqClause K K) (c := bodyOf Try.f118) Try.func118 (by kernel_rfl) (by kernel_rfl) tysOk (fns_ok (l := [(17, sp_w_eqInt64S (w_eqInt64S K)), (72, sp_w_eqRelation (w_eqRelation K))]) ⟨ok_w_eqInt64S K, ⟨ok_w_eqRelation K, trivial⟩⟩) (by kernel_rfl) rfl (Nat.le_of_ble_eq_true (by kernel_rfl)) (by kernel_rfl) (of_decide_eq_true (by kernel_rfl)) (by decide) (fun C hP O => lpOk_of (en := en_w_eqClause K K) (S := hasK su_w_eqClause) (fun i => hasK_lk (sg_w_eqClause K K) i) _ (by rw [show partsOf (hasK su_w_eqClause) (bodyOf Try.f118) = [] from by kernel_rfl]; exact trivial)) (fun x y h => by rw [← e_w_eqClause]; exact h)
noncomputable def as_w_eqClauseS : Ty := (.pair (.sl (.st (.pair (.st (.pair (.int .i64) (.pair (.int .i64) .unit))) (.pair (.sl (.int .i64)) .unit)))) (.pair (.sl (.st (.pair (.st (.pair (.int .i64) (.pair (.int .i64) .unit))) (.pair (.sl (.int .i64)) .unit)))) .unit))
noncomputable def sp_w_eqClauseS (F : ((List ((Int × Int × Unit) × (List Int) × Unit)) × (List ((Int × Int × Unit) × (List Int) × Unit)) × Unit) → Option Bool) : FnSpec := ⟨as_w_eqClauseS, [false, false], .bool, F⟩
noncomputable def w_eqClauseS_l4 {R : Type} (K : Nat) : Nat → (List ((Int × Int × Unit) × (List Int) × Unit)) → (List ((Int × Int × Unit) × (List Int) × Unit)) → Int → (Option R) → (Bool → Option R) → Option R
  | 0, _, _, _, _, _ => none
  | k + 1, v0, v1, v5, kx0, kr =>
    (if (decide (v5 < (v0.length : Int))) = true then
    (if (bnds v5 (v0.length : Int)) = true then
    let x1 := (v0.getD v5.toNat (((0 : Int), (0 : Int), ()), ([] : List Int), ()))
    (if (bnds v5 (v1.length : Int)) = true then
    let x2 := (v1.getD v5.toNat (((0 : Int), (0 : Int), ()), ([] : List Int), ()))
    (w_eqClause K (x1, x2, ())).bind fun y3 =>
    (if (!y3) = true then
    kr false
    else
    w_eqClauseS_l4 K k v0 v1 (IntKind.i64.wrap (v5 + (1 : Int))) kx0 kr)
    else
    none)
    else
    none)
    else
    kx0)
noncomputable def w_eqClauseS (K : Nat) (x : ((List ((Int × Int × Unit) × (List Int) × Unit)) × (List ((Int × Int × Unit) × (List Int) × Unit)) × Unit)) : Option Bool :=
    (if (!decide ((x.1.length : Int) = (x.2.1.length : Int))) = true then
    some false
    else
    w_eqClauseS_l4 K K x.1 x.2.1 (0 : Int) (some true) (fun z4 =>
    some z4))
noncomputable def lv_w_eqClauseS_L4 : Lv := [(0, (.v (.sl (.st (.pair (.st (.pair (.int .i64) (.pair (.int .i64) .unit))) (.pair (.sl (.int .i64)) .unit)))))), (1, (.v (.sl (.st (.pair (.st (.pair (.int .i64) (.pair (.int .i64) .unit))) (.pair (.sl (.int .i64)) .unit)))))), (5, (.v (.int .i64)))]
noncomputable def lv_w_eqClauseS_X0 : Lv := []
noncomputable def rv_w_eqClauseS : Lv := [(4, (.v .bool))]
noncomputable def gw_eqClauseS_l4 {R : Type} (K : Nat) (k : Nat) (x : den lv_w_eqClauseS_L4.ty) (kx : Nat → St → Option R) (kr : St → Option R) : Option R := w_eqClauseS_l4 K k x.1 x.2.1 x.2.2.1 (kx 0 (mkSt lv_w_eqClauseS_X0 ())) (fun z0 => kr (mkSt rv_w_eqClauseS (z0, ())))
noncomputable def sg_w_eqClauseS {R : Type} (K : Nat) (k : Nat) : List (Nat × SegS R) := []
noncomputable def su_w_eqClauseS : List (Nat × Unit) := []
noncomputable def en_w_eqClauseS {R : Type} (K : Nat) (k : Nat) : Env R := { L := lk [(4, mkLoop lv_w_eqClauseS_L4 (gw_eqClauseS_l4 K k))], X := lk [(0, lv_w_eqClauseS_X0)], S := lk (sg_w_eqClauseS K k), rv := rv_w_eqClauseS }
noncomputable def cf_w_eqClauseS (K : Nat) : Cfg := { ty := lk tys, fn := lk [(118, sp_w_eqClause (w_eqClause K))], prot := 0, nt := Try.f67.ntmps }
noncomputable def c_w_eqClauseS_L4 : Code := nthC (partsOf (hasK su_w_eqClauseS) (bodyOf Try.f67)) 0
theorem ew_eqClauseS_l4 {R : Type} (K : Nat) (k : Nat) (x : den lv_w_eqClauseS_L4.ty) (kx : Nat → St → Option R) (kr : St → Option R) : gw_eqClauseS_l4 K (k + 1) x kx kr = evC (cf_w_eqClauseS K) (en_w_eqClauseS K k) c_w_eqClauseS_L4 (mkSt lv_w_eqClauseS_L4 x) (fun s => mkLoop lv_w_eqClauseS_L4 (gw_eqClauseS_l4 K k) s kx kr) kx kr := by kernel_rfl
theorem sw_eqClauseS_l4 {R : Type} (K : Nat) (C : Cx) (hP : C.P = Try.prog) (O : CfgOk C (cf_w_eqClauseS K)) (k : Nat) : LpS C (R := R) (mkLoop lv_w_eqClauseS_L4 (gw_eqClauseS_l4 K k)) c_w_eqClauseS_L4 :=
  loop_sound O (by rw [hP]; kernel_rfl) (fun x kx kr => rfl) (ew_eqClauseS_l4 K) (fun k => lpOk_of (en := en_w_eqClauseS K k) (S := hasK su_w_eqClauseS) (fun i => hasK_lk (sg_w_eqClauseS K k) i) _ (by rw [show partsOf (hasK su_w_eqClauseS) c_w_eqClauseS_L4 = [] from by kernel_rfl]; exact trivial)) k
theorem e_w_eqClauseS (K : Nat) (x : den as_w_eqClauseS) : w_eqClauseS K x = evFn (cf_w_eqClauseS K) as_w_eqClauseS [false, false] .bool (en_w_eqClauseS K K) Try.f67.results.toList (bodyOf Try.f67) x := by kernel_rfl
theorem ok_w_eqClauseS (K : Nat) : FnOk Try.prog 67 (sp_w_eqClauseS (w_eqClauseS K)) :=
  fn_ok (cf := cf_w_eqClauseS K) (en := en_w_eqClauseS K K) (c := bodyOf Try.f67) Try.func67 (by kernel_rfl) (by kernel_rfl) tysOk (fns_ok (l := [(118, sp_w_eqClause (w_eqClause K))]) ⟨ok_w_eqClause K, trivial⟩) (by kernel_rfl) rfl (Nat.le_of_ble_eq_true (by kernel_rfl)) (by kernel_rfl) (of_decide_eq_true (by kernel_rfl)) (by decide) (fun C hP O => lpOk_of (en := en_w_eqClauseS K K) (S := hasK su_w_eqClauseS) (fun i => hasK_lk (sg_w_eqClauseS K K) i) _ (by rw [show partsOf (hasK su_w_eqClauseS) (bodyOf Try.f67) = [(true, c_w_eqClauseS_L4)] from by kernel_rfl]; exact (lpL_loop (f := mkLoop lv_w_eqClauseS_L4 (gw_eqClauseS_l4 K K)) (by kernel_rfl) (sw_eqClauseS_l4 K C hP O K) trivial))) (fun x y h => by rw [← e_w_eqClauseS]; exact h)
noncomputable def as_w_eqInstance : Ty := (.pair (.st (.pair (.int .i64) (.pair (.sl (.st (.pair (.st (.pair (.int .i64) (.pair (.int .i64) .unit))) (.pair (.sl (.int .i64)) .unit)))) .unit))) (.pair (.st (.pair (.int .i64) (.pair (.sl (.st (.pair (.st (.pair (.int .i64) (.pair (.int .i64) .unit))) (.pair (.sl (.int .i64)) .unit)))) .unit))) .unit))
noncomputable def sp_w_eqInstance (F : ((Int × (List ((Int × Int × Unit) × (List Int) × Unit)) × Unit) × (Int × (List ((Int × Int × Unit) × (List Int) × Unit)) × Unit) × Unit) → Option Bool) : FnSpec := ⟨as_w_eqInstance, [false, false], .bool, F⟩
noncomputable def w_eqInstance (K : Nat) (x : ((Int × (List ((Int × Int × Unit) × (List Int) × Unit)) × Unit) × (Int × (List ((Int × Int × Unit) × (List Int) × Unit)) × Unit) × Unit)) : Option Bool :=
    (if (!decide (x.1.1 = x.2.1.1)) = true then
    some false
    else
    (w_eqClauseS K (x.1.2.1, x.2.1.2.1, ())).bind fun y1 =>
    (if (!y1) = true then
    some false
    else
    some true))
noncomputable def rv_w_eqInstance : Lv := [(4, (.v .bool))]
noncomputable def sg_w_eqInstance {R : Type} (K : Nat) (k : Nat) : List (Nat × SegS R) := []
noncomputable def su_w_eqInstance : List (Nat × Unit) := []
noncomputable def en_w_eqInstance {R : Type} (K : Nat) (k : Nat) : Env R := { L := lk [], X := lk [], S := lk (sg_w_eqInstance K k), rv := rv_w_eqInstance }
noncomputable def cf_w_eqInstance (K : Nat) : Cfg := { ty := lk tys, fn := lk [(67, sp_w_eqClauseS (w_eqClauseS K))], prot := 0, nt := Try.f24.ntmps }
theorem e_w_eqInstance (K : Nat) (x : den as_w_eqInstance) : w_eqInstance K x = evFn (cf_w_eqInstance K) as_w_eqInstance [false, false] .bool (en_w_eqInstance K K) Try.f24.results.toList (bodyOf Try.f24) x := by kernel_rfl
theorem ok_w_eqInstance (K : Nat) : FnOk Try.prog 24 (sp_w_eqInstance (w_eqInstance K)) :=
  fn_ok (cf := cf_w_eqInstance K) (en := en_w_eqInstance K K) (c := bodyOf Try.f24) Try.func24 (by kernel_rfl) (by kernel_rfl) tysOk (fns_ok (l := [(67, sp_w_eqClauseS (w_eqClauseS K))]) ⟨ok_w_eqClauseS K, trivial⟩) (by kernel_rfl) rfl (Nat.le_of_ble_eq_true (by kernel_rfl)) (by kernel_rfl) (of_decide_eq_true (by kernel_rfl)) (by decide) (fun C hP O => lpOk_of (en := en_w_eqInstance K K) (S := hasK su_w_eqInstance) (fun i => hasK_lk (sg_w_eqInstance K K) i) _ (by rw [show partsOf (hasK su_w_eqInstance) (bodyOf Try.f24) = [] from by kernel_rfl]; exact trivial)) (fun x y h => by rw [← e_w_eqInstance]; exact h)
noncomputable def as_w_markInt64S : Ty := (.pair (.sl (.int .i64)) (.pair (.int .i64) .unit))
noncomputable def sp_w_markInt64S (F : ((List Int) × Int × Unit) → Option (Int × ((List Int) × Unit))) : FnSpec := ⟨as_w_markInt64S, [true, false], (.pair (.int .i64) (.pair (.sl (.int .i64)) .unit)), F⟩
noncomputable def w_markInt64S_l2 {R : Type} (K : Nat) : Nat → (List Int) → Int → Int → ((List Int) → Int → Option R) → Option R
  | 0, _, _, _, _ => none
  | k + 1, v0, v1, v5, kx0 =>
    (if (decide (v5 < (v0.length : Int))) = true then
    (if (bnds v5 (v0.length : Int)) = true then
    let l1 := (v0.set v5.toNat v1)
    w_markInt64S_l2 K k l1 (IntKind.i64.wrap (v1 + (1 : Int))) (IntKind.i64.wrap (v5 + (1 : Int))) kx0
    else
    none)
    else
    kx0 v0 v1)
noncomputable def w_markInt64S (K : Nat) (x : ((List Int) × Int × Unit)) : Option (Int × ((List Int) × Unit)) :=
    w_markInt64S_l2 K K x.1 x.2.1 (0 : Int) (fun z2 z3 =>
    some (z3, (z2, ())))
noncomputable def lv_w_markInt64S_L2 : Lv := [(0, (.r (.int .i64))), (1, (.v (.int .i64))), (5, (.v (.int .i64)))]
noncomputable def lv_w_markInt64S_X0 : Lv := [(0, (.r (.int .i64))), (1, (.v (.int .i64)))]
noncomputable def rv_w_markInt64S : Lv := [(0, (.r (.int .i64))), (4, (.v (.int .i64)))]
noncomputable def gw_markInt64S_l2 {R : Type} (K : Nat) (k : Nat) (x : den lv_w_markInt64S_L2.ty) (kx : Nat → St → Option R) (kr : St → Option R) : Option R := w_markInt64S_l2 K k x.1 x.2.1 x.2.2.1 (fun z0 z1 => kx 0 (mkSt lv_w_markInt64S_X0 (z0, z1, ())))
noncomputable def sg_w_markInt64S {R : Type} (K : Nat) (k : Nat) : List (Nat × SegS R) := []
noncomputable def su_w_markInt64S : List (Nat × Unit) := []
noncomputable def en_w_markInt64S {R : Type} (K : Nat) (k : Nat) : Env R := { L := lk [(2, mkLoop lv_w_markInt64S_L2 (gw_markInt64S_l2 K k))], X := lk [(0, lv_w_markInt64S_X0)], S := lk (sg_w_markInt64S K k), rv := rv_w_markInt64S }
noncomputable def cf_w_markInt64S (K : Nat) : Cfg := { ty := lk tys, fn := lk [], prot := 1, nt := Try.f18.ntmps }
noncomputable def c_w_markInt64S_L2 : Code := nthC (partsOf (hasK su_w_markInt64S) (bodyOf Try.f18)) 0
theorem ew_markInt64S_l2 {R : Type} (K : Nat) (k : Nat) (x : den lv_w_markInt64S_L2.ty) (kx : Nat → St → Option R) (kr : St → Option R) : gw_markInt64S_l2 K (k + 1) x kx kr = evC (cf_w_markInt64S K) (en_w_markInt64S K k) c_w_markInt64S_L2 (mkSt lv_w_markInt64S_L2 x) (fun s => mkLoop lv_w_markInt64S_L2 (gw_markInt64S_l2 K k) s kx kr) kx kr := by kernel_rfl
theorem sw_markInt64S_l2 {R : Type} (K : Nat) (C : Cx) (hP : C.P = Try.prog) (O : CfgOk C (cf_w_markInt64S K)) (k : Nat) : LpS C (R := R) (mkLoop lv_w_markInt64S_L2 (gw_markInt64S_l2 K k)) c_w_markInt64S_L2 :=
  loop_sound O (by rw [hP]; kernel_rfl) (fun x kx kr => rfl) (ew_markInt64S_l2 K) (fun k => lpOk_of (en := en_w_markInt64S K k) (S := hasK su_w_markInt64S) (fun i => hasK_lk (sg_w_markInt64S K k) i) _ (by rw [show partsOf (hasK su_w_markInt64S) c_w_markInt64S_L2 = [] from by kernel_rfl]; exact trivial)) k
theorem e_w_markInt64S (K : Nat) (x : den as_w_markInt64S) : w_markInt64S K x = evFn (cf_w_markInt64S K) as_w_markInt64S [true, false] (.pair (.int .i64) (.pair (.sl (.int .i64)) .unit)) (en_w_markInt64S K K) Try.f18.results.toList (bodyOf Try.f18) x := by kernel_rfl
theorem ok_w_markInt64S (K : Nat) : FnOk Try.prog 18 (sp_w_markInt64S (w_markInt64S K)) :=
  fn_ok (cf := cf_w_markInt64S K) (en := en_w_markInt64S K K) (c := bodyOf Try.f18) Try.func18 (by kernel_rfl) (by kernel_rfl) tysOk (fns_ok (l := []) trivial) (by kernel_rfl) rfl (Nat.le_of_ble_eq_true (by kernel_rfl)) (by kernel_rfl) (of_decide_eq_true (by kernel_rfl)) (by decide) (fun C hP O => lpOk_of (en := en_w_markInt64S K K) (S := hasK su_w_markInt64S) (fun i => hasK_lk (sg_w_markInt64S K K) i) _ (by rw [show partsOf (hasK su_w_markInt64S) (bodyOf Try.f18) = [(true, c_w_markInt64S_L2)] from by kernel_rfl]; exact (lpL_loop (f := mkLoop lv_w_markInt64S_L2 (gw_markInt64S_l2 K K)) (by kernel_rfl) (sw_markInt64S_l2 K C hP O K) trivial))) (fun x y h => by rw [← e_w_markInt64S]; exact h)
noncomputable def as_w_markClauseS : Ty := (.pair (.sl (.st (.pair (.st (.pair (.int .i64) (.pair (.int .i64) .unit))) (.pair (.sl (.int .i64)) .unit)))) (.pair (.int .i64) .unit))
noncomputable def sp_w_markClauseS (F : ((List ((Int × Int × Unit) × (List Int) × Unit)) × Int × Unit) → Option (Int × ((List ((Int × Int × Unit) × (List Int) × Unit)) × Unit))) : FnSpec := ⟨as_w_markClauseS, [true, false], (.pair (.int .i64) (.pair (.sl (.st (.pair (.st (.pair (.int .i64) (.pair (.int .i64) .unit))) (.pair (.sl (.int .i64)) .unit)))) .unit)), F⟩
noncomputable def w_markClauseS_l2 {R : Type} (K : Nat) : Nat → (List ((Int × Int × Unit) × (List Int) × Unit)) → Int → Int → ((List ((Int × Int × Unit) × (List Int) × Unit)) → Int → Option R) → Option R
  | 0, _, _, _, _ => none
  | k + 1, v0, v1, v5, kx0 =>
    (if (decide (v5 < (v0.length : Int))) = true then
    (if (bnds v5 (v0.length : Int)) = true then
    let l1 := (v0.set v5.toNat ((v1, ((v0.getD v5.toNat (((0 : Int), (0 : Int), ()), ([] : List Int), ())).1).2.1, ()), (v0.getD v5.toNat (((0 : Int), (0 : Int), ()), ([] : List Int), ())).2.1, ()))
    (if (bnds v5 (l1.length : Int)) = true then
    let l2 := (l1.set v5.toNat ((((l1.getD v5.toNat (((0 : Int), (0 : Int), ()), ([] : List Int), ())).1).1, (IntKind.i64.wrap (v1 + (1 : Int))), ()), (l1.getD v5.toNat (((0 : Int), (0 : Int), ()), ([] : List Int), ())).2.1, ()))
    let x3 := (IntKind.i64.wrap ((IntKind.i64.wrap (v1 + (1 : Int))) + (1 : Int)))
    (if (bnds v5 (l2.length : Int)) = true then
    (w_markInt64S K ((l2.getD v5.toNat (((0 : Int), (0 : Int), ()), ([] : List Int), ())).2.1, x3, ())).bind fun y4 =>
    w_markClauseS_l2 K k (l2.set v5.toNat ((l2.getD v5.toNat (((0 : Int), (0 : Int), ()), ([] : List Int), ())).1, y4.2.1, ())) y4.1 (IntKind.i64.wrap (v5 + (1 : Int))) kx0
    else
    none)
    else
    none)
    else
    none)
    else
    kx0 v0 v1)
noncomputable def w_markClauseS (K : Nat) (x : ((List ((Int × Int × Unit) × (List Int) × Unit)) × Int × Unit)) : Option (Int × ((List ((Int × Int × Unit) × (List Int) × Unit)) × Unit)) :=
    w_markClauseS_l2 K K x.1 x.2.1 (0 : Int) (fun z5 z6 =>
    some (z6, (z5, ())))
noncomputable def lv_w_markClauseS_L2 : Lv := [(0, (.r (.st (.pair (.st (.pair (.int .i64) (.pair (.int .i64) .unit))) (.pair (.sl (.int .i64)) .unit))))), (1, (.v (.int .i64))), (5, (.v (.int .i64)))]
noncomputable def lv_w_markClauseS_X0 : Lv := [(0, (.r (.st (.pair (.st (.pair (.int .i64) (.pair (.int .i64) .unit))) (.pair (.sl (.int .i64)) .unit))))), (1, (.v (.int .i64)))]
noncomputable def rv_w_markClauseS : Lv := [(0, (.r (.st (.pair (.st (.pair (.int .i64) (.pair (.int .i64) .unit))) (.pair (.sl (.int .i64)) .unit))))), (4, (.v (.int .i64)))]
noncomputable def gw_markClauseS_l2 {R : Type} (K : Nat) (k : Nat) (x : den lv_w_markClauseS_L2.ty) (kx : Nat → St → Option R) (kr : St → Option R) : Option R := w_markClauseS_l2 K k x.1 x.2.1 x.2.2.1 (fun z0 z1 => kx 0 (mkSt lv_w_markClauseS_X0 (z0, z1, ())))
noncomputable def sg_w_markClauseS {R : Type} (K : Nat) (k : Nat) : List (Nat × SegS R) := []
noncomputable def su_w_markClauseS : List (Nat × Unit) := []
noncomputable def en_w_markClauseS {R : Type} (K : Nat) (k : Nat) : Env R := { L := lk [(2, mkLoop lv_w_markClauseS_L2 (gw_markClauseS_l2 K k))], X := lk [(0, lv_w_markClauseS_X0)], S := lk (sg_w_markClauseS K k), rv := rv_w_markClauseS }
noncomputable def cf_w_markClauseS (K : Nat) : Cfg := { ty := lk tys, fn := lk [(18, sp_w_markInt64S (w_markInt64S K))], prot := 1, nt := Try.f81.ntmps }
noncomputable def c_w_markClauseS_L2 : Code := nthC (partsOf (hasK su_w_markClauseS) (bodyOf Try.f81)) 0
theorem ew_markClauseS_l2 {R : Type} (K : Nat) (k : Nat) (x : den lv_w_markClauseS_L2.ty) (kx : Nat → St → Option R) (kr : St → Option R) : gw_markClauseS_l2 K (k + 1) x kx kr = evC (cf_w_markClauseS K) (en_w_markClauseS K k) c_w_markClauseS_L2 (mkSt lv_w_markClauseS_L2 x) (fun s => mkLoop lv_w_markClauseS_L2 (gw_markClauseS_l2 K k) s kx kr) kx kr := by kernel_rfl
theorem sw_markClauseS_l2 {R : Type} (K : Nat) (C : Cx) (hP : C.P = Try.prog) (O : CfgOk C (cf_w_markClauseS K)) (k : Nat) : LpS C (R := R) (mkLoop lv_w_markClauseS_L2 (gw_markClauseS_l2 K k)) c_w_markClauseS_L2 :=
  loop_sound O (by rw [hP]; kernel_rfl) (fun x kx kr => rfl) (ew_markClauseS_l2 K) (fun k => lpOk_of (en := en_w_markClauseS K k) (S := hasK su_w_markClauseS) (fun i => hasK_lk (sg_w_markClauseS K k) i) _ (by rw [show partsOf (hasK su_w_markClauseS) c_w_markClauseS_L2 = [] from by kernel_rfl]; exact trivial)) k
theorem e_w_markClauseS (K : Nat) (x : den as_w_markClauseS) : w_markClauseS K x = evFn (cf_w_markClauseS K) as_w_markClauseS [true, false] (.pair (.int .i64) (.pair (.sl (.st (.pair (.st (.pair (.int .i64) (.pair (.int .i64) .unit))) (.pair (.sl (.int .i64)) .unit)))) .unit)) (en_w_markClauseS K K) Try.f81.results.toList (bodyOf Try.f81) x := by kernel_rfl
theorem ok_w_markClauseS (K : Nat) : FnOk Try.prog 81 (sp_w_markClauseS (w_markClauseS K)) :=
  fn_ok (cf := cf_w_markClauseS K) (en := en_w_markClauseS K K) (c := bodyOf Try.f81) Try.func81 (by kernel_rfl) (by kernel_rfl) tysOk (fns_ok (l := [(18, sp_w_markInt64S (w_markInt64S K))]) ⟨ok_w_markInt64S K, trivial⟩) (by kernel_rfl) rfl (Nat.le_of_ble_eq_true (by kernel_rfl)) (by kernel_rfl) (of_decide_eq_true (by kernel_rfl)) (by decide) (fun C hP O => lpOk_of (en := en_w_markClauseS K K) (S := hasK su_w_markClauseS) (fun i => hasK_lk (sg_w_markClauseS K K) i) _ (by rw [show partsOf (hasK su_w_markClauseS) (bodyOf Try.f81) = [(true, c_w_markClauseS_L2)] from by kernel_rfl]; exact (lpL_loop (f := mkLoop lv_w_markClauseS_L2 (gw_markClauseS_l2 K K)) (by kernel_rfl) (sw_markClauseS_l2 K C hP O K) trivial))) (fun x y h => by rw [← e_w_markClauseS]; exact h)
noncomputable def as_w_markInstance : Ty := (.pair (.st (.pair (.int .i64) (.pair (.sl (.st (.pair (.st (.pair (.int .i64) (.pair (.int .i64) .unit))) (.pair (.sl (.int .i64)) .unit)))) .unit))) (.pair (.int .i64) .unit))
noncomputable def sp_w_markInstance (F : ((Int × (List ((Int × Int × Unit) × (List Int) × Unit)) × Unit) × Int × Unit) → Option (Int × ((Int × (List ((Int × Int × Unit) × (List Int) × Unit)) × Unit) × Unit))) : FnSpec := ⟨as_w_markInstance, [true, false], (.pair (.int .i64) (.pair (.st (.pair (.int .i64) (.pair (.sl (.st (.pair (.st (.pair (.int .i64) (.pair (.int .i64) .unit))) (.pair (.sl (.int .i64)) .unit)))) .unit))) .unit)), F⟩
noncomputable def w_markInstance (K : Nat) (x : ((Int × (List ((Int × Int × Unit) × (List Int) × Unit)) × Unit) × Int × Unit)) : Option (Int × ((Int × (List ((Int × Int × Unit) × (List Int) × Unit)) × Unit) × Unit)) :=
    (w_markClauseS K (x.1.2.1, x.2.1, ())).bind fun y1 =>
    some (y1.1, ((x.1.1, y1.2.1, ()), ()))
noncomputable def rv_w_markInstance : Lv := [(0, (.st (.pair (.v (.int .i64)) (.pair (.r (.st (.pair (.st (.pair (.int .i64) (.pair (.int .i64) .unit))) (.pair (.sl (.int .i64)) .unit)))) .unit)))), (4, (.v (.int .i64)))]
noncomputable def sg_w_markInstance {R : Type} (K : Nat) (k : Nat) : List (Nat × SegS R) := []
noncomputable def su_w_markInstance : List (Nat × Unit) := []
noncomputable def en_w_markInstance {R : Type} (K : Nat) (k : Nat) : Env R := { L := lk [], X := lk [], S := lk (sg_w_markInstance K k), rv := rv_w_markInstance }
noncomputable def cf_w_markInstance (K : Nat) : Cfg := { ty := lk tys, fn := lk [(81, sp_w_markClauseS (w_markClauseS K))], prot := 1, nt := Try.f32.ntmps }
theorem e_w_markInstance (K : Nat) (x : den as_w_markInstance) : w_markInstance K x = evFn (cf_w_markInstance K) as_w_markInstance [true, false] (.pair (.int .i64) (.pair (.st (.pair (.int .i64) (.pair (.sl (.st (.pair (.st (.pair (.int .i64) (.pair (.int .i64) .unit))) (.pair (.sl (.int .i64)) .unit)))) .unit))) .unit)) (en_w_markInstance K K) Try.f32.results.toList (bodyOf Try.f32) x := by kernel_rfl
theorem ok_w_markInstance (K : Nat) : FnOk Try.prog 32 (sp_w_markInstance (w_markInstance K)) :=
  fn_ok (cf := cf_w_markInstance K) (en := en_w_markInstance K K) (c := bodyOf Try.f32) Try.func32 (by kernel_rfl) (by kernel_rfl) tysOk (fns_ok (l := [(81, sp_w_markClauseS (w_markClauseS K))]) ⟨ok_w_markClauseS K, trivial⟩) (by kernel_rfl) rfl (Nat.le_of_ble_eq_true (by kernel_rfl)) (by kernel_rfl) (of_decide_eq_true (by kernel_rfl)) (by decide) (fun C hP O => lpOk_of (en := en_w_markInstance K K) (S := hasK su_w_markInstance) (fun i => hasK_lk (sg_w_markInstance K K) i) _ (by rw [show partsOf (hasK su_w_markInstance) (bodyOf Try.f32) = [] from by kernel_rfl]; exact trivial)) (fun x y h => by rw [← e_w_markInstance]; exact h)
noncomputable def as_w_heldInt64S : Ty := (.pair (.sl (.int .i64)) (.pair (.int .i64) .unit))
noncomputable def sp_w_heldInt64S (F : ((List Int) × Int × Unit) → Option Int) : FnSpec := ⟨as_w_heldInt64S, [false, false], (.int .i64), F⟩
noncomputable def w_heldInt64S_l2 {R : Type} (K : Nat) : Nat → (List Int) → Int → Int → (Int → Option R) → (Int → Option R) → Option R
  | 0, _, _, _, _, _ => none
  | k + 1, v0, v1, v5, kx0, kr =>
    (if (decide (v5 < (v0.length : Int))) = true then
    (if (bnds v5 (v0.length : Int)) = true then
    (if (!decide ((v0.getD v5.toNat (0 : Int)) = v1)) = true then
    kr (-1 : Int)
    else
    w_heldInt64S_l2 K k v0 (IntKind.i64.wrap (v1 + (1 : Int))) (IntKind.i64.wrap (v5 + (1 : Int))) kx0 kr)
    else
    none)
    else
    kx0 v1)
noncomputable def w_heldInt64S (K : Nat) (x : ((List Int) × Int × Unit)) : Option Int :=
    w_heldInt64S_l2 K K x.1 x.2.1 (0 : Int) (fun z1 =>
    some z1) (fun z2 =>
    some z2)
noncomputable def lv_w_heldInt64S_L2 : Lv := [(0, (.v (.sl (.int .i64)))), (1, (.v (.int .i64))), (5, (.v (.int .i64)))]
noncomputable def lv_w_heldInt64S_X0 : Lv := [(1, (.v (.int .i64)))]
noncomputable def rv_w_heldInt64S : Lv := [(4, (.v (.int .i64)))]
noncomputable def gw_heldInt64S_l2 {R : Type} (K : Nat) (k : Nat) (x : den lv_w_heldInt64S_L2.ty) (kx : Nat → St → Option R) (kr : St → Option R) : Option R := w_heldInt64S_l2 K k x.1 x.2.1 x.2.2.1 (fun z0 => kx 0 (mkSt lv_w_heldInt64S_X0 (z0, ()))) (fun z0 => kr (mkSt rv_w_heldInt64S (z0, ())))
noncomputable def sg_w_heldInt64S {R : Type} (K : Nat) (k : Nat) : List (Nat × SegS R) := []
noncomputable def su_w_heldInt64S : List (Nat × Unit) := []
noncomputable def en_w_heldInt64S {R : Type} (K : Nat) (k : Nat) : Env R := { L := lk [(2, mkLoop lv_w_heldInt64S_L2 (gw_heldInt64S_l2 K k))], X := lk [(0, lv_w_heldInt64S_X0)], S := lk (sg_w_heldInt64S K k), rv := rv_w_heldInt64S }
noncomputable def cf_w_heldInt64S (K : Nat) : Cfg := { ty := lk tys, fn := lk [], prot := 0, nt := Try.f19.ntmps }
noncomputable def c_w_heldInt64S_L2 : Code := nthC (partsOf (hasK su_w_heldInt64S) (bodyOf Try.f19)) 0
theorem ew_heldInt64S_l2 {R : Type} (K : Nat) (k : Nat) (x : den lv_w_heldInt64S_L2.ty) (kx : Nat → St → Option R) (kr : St → Option R) : gw_heldInt64S_l2 K (k + 1) x kx kr = evC (cf_w_heldInt64S K) (en_w_heldInt64S K k) c_w_heldInt64S_L2 (mkSt lv_w_heldInt64S_L2 x) (fun s => mkLoop lv_w_heldInt64S_L2 (gw_heldInt64S_l2 K k) s kx kr) kx kr := by kernel_rfl
theorem sw_heldInt64S_l2 {R : Type} (K : Nat) (C : Cx) (hP : C.P = Try.prog) (O : CfgOk C (cf_w_heldInt64S K)) (k : Nat) : LpS C (R := R) (mkLoop lv_w_heldInt64S_L2 (gw_heldInt64S_l2 K k)) c_w_heldInt64S_L2 :=
  loop_sound O (by rw [hP]; kernel_rfl) (fun x kx kr => rfl) (ew_heldInt64S_l2 K) (fun k => lpOk_of (en := en_w_heldInt64S K k) (S := hasK su_w_heldInt64S) (fun i => hasK_lk (sg_w_heldInt64S K k) i) _ (by rw [show partsOf (hasK su_w_heldInt64S) c_w_heldInt64S_L2 = [] from by kernel_rfl]; exact trivial)) k
theorem e_w_heldInt64S (K : Nat) (x : den as_w_heldInt64S) : w_heldInt64S K x = evFn (cf_w_heldInt64S K) as_w_heldInt64S [false, false] (.int .i64) (en_w_heldInt64S K K) Try.f19.results.toList (bodyOf Try.f19) x := by kernel_rfl
theorem ok_w_heldInt64S (K : Nat) : FnOk Try.prog 19 (sp_w_heldInt64S (w_heldInt64S K)) :=
  fn_ok (cf := cf_w_heldInt64S K) (en := en_w_heldInt64S K K) (c := bodyOf Try.f19) Try.func19 (by kernel_rfl) (by kernel_rfl) tysOk (fns_ok (l := []) trivial) (by kernel_rfl) rfl (Nat.le_of_ble_eq_true (by kernel_rfl)) (by kernel_rfl) (of_decide_eq_true (by kernel_rfl)) (by decide) (fun C hP O => lpOk_of (en := en_w_heldInt64S K K) (S := hasK su_w_heldInt64S) (fun i => hasK_lk (sg_w_heldInt64S K K) i) _ (by rw [show partsOf (hasK su_w_heldInt64S) (bodyOf Try.f19) = [(true, c_w_heldInt64S_L2)] from by kernel_rfl]; exact (lpL_loop (f := mkLoop lv_w_heldInt64S_L2 (gw_heldInt64S_l2 K K)) (by kernel_rfl) (sw_heldInt64S_l2 K C hP O K) trivial))) (fun x y h => by rw [← e_w_heldInt64S]; exact h)
noncomputable def as_w_heldClauseS : Ty := (.pair (.sl (.st (.pair (.st (.pair (.int .i64) (.pair (.int .i64) .unit))) (.pair (.sl (.int .i64)) .unit)))) (.pair (.int .i64) .unit))
noncomputable def sp_w_heldClauseS (F : ((List ((Int × Int × Unit) × (List Int) × Unit)) × Int × Unit) → Option Int) : FnSpec := ⟨as_w_heldClauseS, [false, false], (.int .i64), F⟩
noncomputable def w_heldClauseS_l2 {R : Type} (K : Nat) : Nat → (List ((Int × Int × Unit) × (List Int) × Unit)) → Int → Int → (Int → Option R) → (Int → Option R) → Option R
  | 0, _, _, _, _, _ => none
  | k + 1, v0, v1, v5, kx0, kr =>
    (if (decide (v5 < (v0.length : Int))) = true then
    (if (bnds v5 (v0.length : Int)) = true then
    let x1 := (v0.getD v5.toNat (((0 : Int), (0 : Int), ()), ([] : List Int), ()))
    (if (!decide (x1.1.1 = v1)) = true then
    kr (-1 : Int)
    else
    (if (bnds v5 (v0.length : Int)) = true then
    let x2 := (v0.getD v5.toNat (((0 : Int), (0 : Int), ()), ([] : List Int), ()))
    (if (!decide (x2.1.2.1 = (IntKind.i64.wrap (v1 + (1 : Int))))) = true then
    kr (-1 : Int)
    else
    let x3 := (IntKind.i64.wrap ((IntKind.i64.wrap (v1 + (1 : Int))) + (1 : Int)))
    (if (bnds v5 (v0.length : Int)) = true then
    let x4 := (v0.getD v5.toNat (((0 : Int), (0 : Int), ()), ([] : List Int), ()))
    (w_heldInt64S K (x4.2.1, x3, ())).bind fun y5 =>
    (if (decide (y5 < (0 : Int))) = true then
    kr (-1 : Int)
    else
    w_heldClauseS_l2 K k v0 y5 (IntKind.i64.wrap (v5 + (1 : Int))) kx0 kr)
    else
    none))
    else
    none))
    else
    none)
    else
    kx0 v1)
noncomputable def w_heldClauseS (K : Nat) (x : ((List ((Int × Int × Unit) × (List Int) × Unit)) × Int × Unit)) : Option Int :=
    w_heldClauseS_l2 K K x.1 x.2.1 (0 : Int) (fun z6 =>
    some z6) (fun z7 =>
    some z7)
noncomputable def lv_w_heldClauseS_L2 : Lv := [(0, (.v (.sl (.st (.pair (.st (.pair (.int .i64) (.pair (.int .i64) .unit))) (.pair (.sl (.int .i64)) .unit)))))), (1, (.v (.int .i64))), (5, (.v (.int .i64)))]
noncomputable def lv_w_heldClauseS_X0 : Lv := [(1, (.v (.int .i64)))]
noncomputable def rv_w_heldClauseS : Lv := [(4, (.v (.int .i64)))]
noncomputable def gw_heldClauseS_l2 {R : Type} (K : Nat) (k : Nat) (x : den lv_w_heldClauseS_L2.ty) (kx : Nat → St → Option R) (kr : St → Option R) : Option R := w_heldClauseS_l2 K k x.1 x.2.1 x.2.2.1 (fun z0 => kx 0 (mkSt lv_w_heldClauseS_X0 (z0, ()))) (fun z0 => kr (mkSt rv_w_heldClauseS (z0, ())))
noncomputable def sg_w_heldClauseS {R : Type} (K : Nat) (k : Nat) : List (Nat × SegS R) := []
noncomputable def su_w_heldClauseS : List (Nat × Unit) := []
noncomputable def en_w_heldClauseS {R : Type} (K : Nat) (k : Nat) : Env R := { L := lk [(2, mkLoop lv_w_heldClauseS_L2 (gw_heldClauseS_l2 K k))], X := lk [(0, lv_w_heldClauseS_X0)], S := lk (sg_w_heldClauseS K k), rv := rv_w_heldClauseS }
noncomputable def cf_w_heldClauseS (K : Nat) : Cfg := { ty := lk tys, fn := lk [(19, sp_w_heldInt64S (w_heldInt64S K))], prot := 0, nt := Try.f88.ntmps }
noncomputable def c_w_heldClauseS_L2 : Code := nthC (partsOf (hasK su_w_heldClauseS) (bodyOf Try.f88)) 0
theorem ew_heldClauseS_l2 {R : Type} (K : Nat) (k : Nat) (x : den lv_w_heldClauseS_L2.ty) (kx : Nat → St → Option R) (kr : St → Option R) : gw_heldClauseS_l2 K (k + 1) x kx kr = evC (cf_w_heldClauseS K) (en_w_heldClauseS K k) c_w_heldClauseS_L2 (mkSt lv_w_heldClauseS_L2 x) (fun s => mkLoop lv_w_heldClauseS_L2 (gw_heldClauseS_l2 K k) s kx kr) kx kr := by kernel_rfl
theorem sw_heldClauseS_l2 {R : Type} (K : Nat) (C : Cx) (hP : C.P = Try.prog) (O : CfgOk C (cf_w_heldClauseS K)) (k : Nat) : LpS C (R := R) (mkLoop lv_w_heldClauseS_L2 (gw_heldClauseS_l2 K k)) c_w_heldClauseS_L2 :=
  loop_sound O (by rw [hP]; kernel_rfl) (fun x kx kr => rfl) (ew_heldClauseS_l2 K) (fun k => lpOk_of (en := en_w_heldClauseS K k) (S := hasK su_w_heldClauseS) (fun i => hasK_lk (sg_w_heldClauseS K k) i) _ (by rw [show partsOf (hasK su_w_heldClauseS) c_w_heldClauseS_L2 = [] from by kernel_rfl]; exact trivial)) k
theorem e_w_heldClauseS (K : Nat) (x : den as_w_heldClauseS) : w_heldClauseS K x = evFn (cf_w_heldClauseS K) as_w_heldClauseS [false, false] (.int .i64) (en_w_heldClauseS K K) Try.f88.results.toList (bodyOf Try.f88) x := by kernel_rfl
theorem ok_w_heldClauseS (K : Nat) : FnOk Try.prog 88 (sp_w_heldClauseS (w_heldClauseS K)) :=
  fn_ok (cf := cf_w_heldClauseS K) (en := en_w_heldClauseS K K) (c := bodyOf Try.f88) Try.func88 (by kernel_rfl) (by kernel_rfl) tysOk (fns_ok (l := [(19, sp_w_heldInt64S (w_heldInt64S K))]) ⟨ok_w_heldInt64S K, trivial⟩) (by kernel_rfl) rfl (Nat.le_of_ble_eq_true (by kernel_rfl)) (by kernel_rfl) (of_decide_eq_true (by kernel_rfl)) (by decide) (fun C hP O => lpOk_of (en := en_w_heldClauseS K K) (S := hasK su_w_heldClauseS) (fun i => hasK_lk (sg_w_heldClauseS K K) i) _ (by rw [show partsOf (hasK su_w_heldClauseS) (bodyOf Try.f88) = [(true, c_w_heldClauseS_L2)] from by kernel_rfl]; exact (lpL_loop (f := mkLoop lv_w_heldClauseS_L2 (gw_heldClauseS_l2 K K)) (by kernel_rfl) (sw_heldClauseS_l2 K C hP O K) trivial))) (fun x y h => by rw [← e_w_heldClauseS]; exact h)
noncomputable def as_w_heldInstance : Ty := (.pair (.st (.pair (.int .i64) (.pair (.sl (.st (.pair (.st (.pair (.int .i64) (.pair (.int .i64) .unit))) (.pair (.sl (.int .i64)) .unit)))) .unit))) (.pair (.int .i64) .unit))
noncomputable def sp_w_heldInstance (F : ((Int × (List ((Int × Int × Unit) × (List Int) × Unit)) × Unit) × Int × Unit) → Option Int) : FnSpec := ⟨as_w_heldInstance, [false, false], (.int .i64), F⟩
noncomputable def w_heldInstance (K : Nat) (x : ((Int × (List ((Int × Int × Unit) × (List Int) × Unit)) × Unit) × Int × Unit)) : Option Int :=
    (w_heldClauseS K (x.1.2.1, x.2.1, ())).bind fun y1 =>
    (if (decide (y1 < (0 : Int))) = true then
    some (-1 : Int)
    else
    some y1)
noncomputable def rv_w_heldInstance : Lv := [(4, (.v (.int .i64)))]
noncomputable def sg_w_heldInstance {R : Type} (K : Nat) (k : Nat) : List (Nat × SegS R) := []
noncomputable def su_w_heldInstance : List (Nat × Unit) := []
noncomputable def en_w_heldInstance {R : Type} (K : Nat) (k : Nat) : Env R := { L := lk [], X := lk [], S := lk (sg_w_heldInstance K k), rv := rv_w_heldInstance }
noncomputable def cf_w_heldInstance (K : Nat) : Cfg := { ty := lk tys, fn := lk [(88, sp_w_heldClauseS (w_heldClauseS K))], prot := 0, nt := Try.f39.ntmps }
theorem e_w_heldInstance (K : Nat) (x : den as_w_heldInstance) : w_heldInstance K x = evFn (cf_w_heldInstance K) as_w_heldInstance [false, false] (.int .i64) (en_w_heldInstance K K) Try.f39.results.toList (bodyOf Try.f39) x := by kernel_rfl
theorem ok_w_heldInstance (K : Nat) : FnOk Try.prog 39 (sp_w_heldInstance (w_heldInstance K)) :=
  fn_ok (cf := cf_w_heldInstance K) (en := en_w_heldInstance K K) (c := bodyOf Try.f39) Try.func39 (by kernel_rfl) (by kernel_rfl) tysOk (fns_ok (l := [(88, sp_w_heldClauseS (w_heldClauseS K))]) ⟨ok_w_heldClauseS K, trivial⟩) (by kernel_rfl) rfl (Nat.le_of_ble_eq_true (by kernel_rfl)) (by kernel_rfl) (of_decide_eq_true (by kernel_rfl)) (by decide) (fun C hP O => lpOk_of (en := en_w_heldInstance K K) (S := hasK su_w_heldInstance) (fun i => hasK_lk (sg_w_heldInstance K K) i) _ (by rw [show partsOf (hasK su_w_heldInstance) (bodyOf Try.f39) = [] from by kernel_rfl]; exact trivial)) (fun x y h => by rw [← e_w_heldInstance]; exact h)
noncomputable def as_w_toInt64S : Ty := (.pair (.sl (.int .i64)) .unit)
noncomputable def sp_w_toInt64S (F : ((List Int) × Unit) → Option (List Int)) : FnSpec := ⟨as_w_toInt64S, [false], (.sl (.int .i64)), F⟩
noncomputable def w_toInt64S_l3 {R : Type} (K : Nat) : Nat → (List Int) → (List Int) → Int → ((List Int) → Option R) → Option R
  | 0, _, _, _, _ => none
  | k + 1, v0, v3, v4, kx0 =>
    (if (decide (v4 < (v0.length : Int))) = true then
    (if (bnds v4 (v0.length : Int)) = true then
    (if (bnds v4 (v3.length : Int)) = true then
    let l2 := (v3.set v4.toNat (v0.getD v4.toNat (0 : Int)))
    w_toInt64S_l3 K k v0 l2 (IntKind.i64.wrap (v4 + (1 : Int))) kx0
    else
    none)
    else
    none)
    else
    kx0 v3)
noncomputable def w_toInt64S (K : Nat) (x : ((List Int) × Unit)) : Option (List Int) :=
    (if (decide (0 ≤ (x.1.length : Int)) && decide ((x.1.length : Int) ≤ (lim : Int)) && decide ((x.1.length : Int) = (x.1.length : Int))) = true then
    let l1 := (List.replicate (x.1.length : Int).toNat (0 : Int))
    w_toInt64S_l3 K K x.1 l1 (0 : Int) (fun z3 =>
    some z3)
    else
    none)
noncomputable def lv_w_toInt64S_L3 : Lv := [(0, (.v (.sl (.int .i64)))), (3, (.r (.int .i64))), (4, (.v (.int .i64)))]
noncomputable def lv_w_toInt64S_X0 : Lv := [(3, (.r (.int .i64)))]
noncomputable def rv_w_toInt64S : Lv := [(2, (.r (.int .i64)))]
noncomputable def gw_toInt64S_l3 {R : Type} (K : Nat) (k : Nat) (x : den lv_w_toInt64S_L3.ty) (kx : Nat → St → Option R) (kr : St → Option R) : Option R := w_toInt64S_l3 K k x.1 x.2.1 x.2.2.1 (fun z0 => kx 0 (mkSt lv_w_toInt64S_X0 (z0, ())))
noncomputable def sg_w_toInt64S {R : Type} (K : Nat) (k : Nat) : List (Nat × SegS R) := []
noncomputable def su_w_toInt64S : List (Nat × Unit) := []
noncomputable def en_w_toInt64S {R : Type} (K : Nat) (k : Nat) : Env R := { L := lk [(3, mkLoop lv_w_toInt64S_L3 (gw_toInt64S_l3 K k))], X := lk [(0, lv_w_toInt64S_X0)], S := lk (sg_w_toInt64S K k), rv := rv_w_toInt64S }
noncomputable def cf_w_toInt64S (K : Nat) : Cfg := { ty := lk tys, fn := lk [], prot := 0, nt := Try.f47.ntmps }
noncomputable def c_w_toInt64S_L3 : Code := nthC (partsOf (hasK su_w_toInt64S) (bodyOf Try.f47)) 0
theorem ew_toInt64S_l3 {R : Type} (K : Nat) (k : Nat) (x : den lv_w_toInt64S_L3.ty) (kx : Nat → St → Option R) (kr : St → Option R) : gw_toInt64S_l3 K (k + 1) x kx kr = evC (cf_w_toInt64S K) (en_w_toInt64S K k) c_w_toInt64S_L3 (mkSt lv_w_toInt64S_L3 x) (fun s => mkLoop lv_w_toInt64S_L3 (gw_toInt64S_l3 K k) s kx kr) kx kr := by kernel_rfl
theorem sw_toInt64S_l3 {R : Type} (K : Nat) (C : Cx) (hP : C.P = Try.prog) (O : CfgOk C (cf_w_toInt64S K)) (k : Nat) : LpS C (R := R) (mkLoop lv_w_toInt64S_L3 (gw_toInt64S_l3 K k)) c_w_toInt64S_L3 :=
  loop_sound O (by rw [hP]; kernel_rfl) (fun x kx kr => rfl) (ew_toInt64S_l3 K) (fun k => lpOk_of (en := en_w_toInt64S K k) (S := hasK su_w_toInt64S) (fun i => hasK_lk (sg_w_toInt64S K k) i) _ (by rw [show partsOf (hasK su_w_toInt64S) c_w_toInt64S_L3 = [] from by kernel_rfl]; exact trivial)) k
theorem e_w_toInt64S (K : Nat) (x : den as_w_toInt64S) : w_toInt64S K x = evFn (cf_w_toInt64S K) as_w_toInt64S [false] (.sl (.int .i64)) (en_w_toInt64S K K) Try.f47.results.toList (bodyOf Try.f47) x := by kernel_rfl
theorem ok_w_toInt64S (K : Nat) : FnOk Try.prog 47 (sp_w_toInt64S (w_toInt64S K)) :=
  fn_ok (cf := cf_w_toInt64S K) (en := en_w_toInt64S K K) (c := bodyOf Try.f47) Try.func47 (by kernel_rfl) (by kernel_rfl) tysOk (fns_ok (l := []) trivial) (by kernel_rfl) rfl (Nat.le_of_ble_eq_true (by kernel_rfl)) (by kernel_rfl) (of_decide_eq_true (by kernel_rfl)) (by decide) (fun C hP O => lpOk_of (en := en_w_toInt64S K K) (S := hasK su_w_toInt64S) (fun i => hasK_lk (sg_w_toInt64S K K) i) _ (by rw [show partsOf (hasK su_w_toInt64S) (bodyOf Try.f47) = [(true, c_w_toInt64S_L3)] from by kernel_rfl]; exact (lpL_loop (f := mkLoop lv_w_toInt64S_L3 (gw_toInt64S_l3 K K)) (by kernel_rfl) (sw_toInt64S_l3 K C hP O K) trivial))) (fun x y h => by rw [← e_w_toInt64S]; exact h)
noncomputable def as_w_toRelation : Ty := (.pair (.st (.pair (.int .i64) (.pair (.int .i64) .unit))) .unit)
noncomputable def sp_w_toRelation (F : ((Int × Int × Unit) × Unit) → Option (Int × Int × Unit)) : FnSpec := ⟨as_w_toRelation, [false], (.st (.pair (.int .i64) (.pair (.int .i64) .unit))), F⟩
noncomputable def w_toRelation (K : Nat) (x : ((Int × Int × Unit) × Unit)) : Option (Int × Int × Unit) :=
    some ((x.1.1, ((0 : Int), (0 : Int), ()).2.1, ()).1, x.1.2.1, ())
noncomputable def rv_w_toRelation : Lv := [(2, (.bx (.v (.st (.pair (.int .i64) (.pair (.int .i64) .unit))))))]
noncomputable def sg_w_toRelation {R : Type} (K : Nat) (k : Nat) : List (Nat × SegS R) := []
noncomputable def su_w_toRelation : List (Nat × Unit) := []
noncomputable def en_w_toRelation {R : Type} (K : Nat) (k : Nat) : Env R := { L := lk [], X := lk [], S := lk (sg_w_toRelation K k), rv := rv_w_toRelation }
noncomputable def cf_w_toRelation (K : Nat) : Cfg := { ty := lk tys, fn := lk [], prot := 0, nt := Try.f50.ntmps }
theorem e_w_toRelation (K : Nat) (x : den as_w_toRelation) : w_toRelation K x = evFn (cf_w_toRelation K) as_w_toRelation [false] (.st (.pair (.int .i64) (.pair (.int .i64) .unit))) (en_w_toRelation K K) Try.f50.results.toList (bodyOf Try.f50) x := by kernel_rfl
theorem ok_w_toRelation (K : Nat) : FnOk Try.prog 50 (sp_w_toRelation (w_toRelation K)) :=
  fn_ok (cf := cf_w_toRelation K) (en := en_w_toRelation K K) (c := bodyOf Try.f50) Try.func50 (by kernel_rfl) (by kernel_rfl) tysOk (fns_ok (l := []) trivial) (by kernel_rfl) rfl (Nat.le_of_ble_eq_true (by kernel_rfl)) (by kernel_rfl) (of_decide_eq_true (by kernel_rfl)) (by decide) (fun C hP O => lpOk_of (en := en_w_toRelation K K) (S := hasK su_w_toRelation) (fun i => hasK_lk (sg_w_toRelation K K) i) _ (by rw [show partsOf (hasK su_w_toRelation) (bodyOf Try.f50) = [] from by kernel_rfl]; exact trivial)) (fun x y h => by rw [← e_w_toRelation]; exact h)
noncomputable def as_w_toClause : Ty := (.pair (.st (.pair (.st (.pair (.int .i64) (.pair (.int .i64) .unit))) (.pair (.sl (.int .i64)) .unit))) .unit)
noncomputable def sp_w_toClause (F : (((Int × Int × Unit) × (List Int) × Unit) × Unit) → Option ((Int × Int × Unit) × (List Int) × Unit)) : FnSpec := ⟨as_w_toClause, [false], (.st (.pair (.st (.pair (.int .i64) (.pair (.int .i64) .unit))) (.pair (.sl (.int .i64)) .unit))), F⟩
noncomputable def w_toClause (K : Nat) (x : (((Int × Int × Unit) × (List Int) × Unit) × Unit)) : Option ((Int × Int × Unit) × (List Int) × Unit) :=
    (w_toRelation K (x.1.1, ())).bind fun y1 =>
    (w_toInt64S K (x.1.2.1, ())).bind fun y2 =>
    some (y1, y2, ())
noncomputable def rv_w_toClause : Lv := [(2, (.bx (.st (.pair (.v (.st (.pair (.int .i64) (.pair (.int .i64) .unit)))) (.pair (.r (.int .i64)) .unit)))))]
noncomputable def sg_w_toClause {R : Type} (K : Nat) (k : Nat) : List (Nat × SegS R) := []
noncomputable def su_w_toClause : List (Nat × Unit) := []
noncomputable def en_w_toClause {R : Type} (K : Nat) (k : Nat) : Env R := { L := lk [], X := lk [], S := lk (sg_w_toClause K k), rv := rv_w_toClause }
noncomputable def cf_w_toClause (K : Nat) : Cfg := { ty := lk tys, fn := lk [(47, sp_w_toInt64S (w_toInt64S K)), (50, sp_w_toRelation (w_toRelation K))], prot := 0, nt := Try.f117.ntmps }
theorem e_w_toClause (K : Nat) (x : den as_w_toClause) : w_toClause K x = evFn (cf_w_toClause K) as_w_toClause [false] (.st (.pair (.st (.pair (.int .i64) (.pair (.int .i64) .unit))) (.pair (.sl (.int .i64)) .unit))) (en_w_toClause K K) Try.f117.results.toList (bodyOf Try.f117) x := by kernel_rfl
theorem ok_w_toClause (K : Nat) : FnOk Try.prog 117 (sp_w_toClause (w_toClause K)) :=
  fn_ok (cf := cf_w_toClause K) (en := en_w_toClause K K) (c := bodyOf Try.f117) Try.func117 (by kernel_rfl) (by kernel_rfl) tysOk (fns_ok (l := [(47, sp_w_toInt64S (w_toInt64S K)), (50, sp_w_toRelation (w_toRelation K))]) ⟨ok_w_toInt64S K, ⟨ok_w_toRelation K, trivial⟩⟩) (by kernel_rfl) rfl (Nat.le_of_ble_eq_true (by kernel_rfl)) (by kernel_rfl) (of_decide_eq_true (by kernel_rfl)) (by decide) (fun C hP O => lpOk_of (en := en_w_toClause K K) (S := hasK su_w_toClause) (fun i => hasK_lk (sg_w_toClause K K) i) _ (by rw [show partsOf (hasK su_w_toClause) (bodyOf Try.f117) = [] from by kernel_rfl]; exact trivial)) (fun x y h => by rw [← e_w_toClause]; exact h)
noncomputable def as_w_toClauseS : Ty := (.pair (.sl (.st (.pair (.st (.pair (.int .i64) (.pair (.int .i64) .unit))) (.pair (.sl (.int .i64)) .unit)))) .unit)
noncomputable def sp_w_toClauseS (F : ((List ((Int × Int × Unit) × (List Int) × Unit)) × Unit) → Option (List ((Int × Int × Unit) × (List Int) × Unit))) : FnSpec := ⟨as_w_toClauseS, [false], (.sl (.st (.pair (.st (.pair (.int .i64) (.pair (.int .i64) .unit))) (.pair (.sl (.int .i64)) .unit)))), F⟩
noncomputable def w_toClauseS_l3 {R : Type} (K : Nat) : Nat → (List ((Int × Int × Unit) × (List Int) × Unit)) → (List ((Int × Int × Unit) × (List Int) × Unit)) → Int → ((List ((Int × Int × Unit) × (List Int) × Unit)) → Option R) → Option R
  | 0, _, _, _, _ => none
  | k + 1, v0, v3, v4, kx0 =>
    (if (decide (v4 < (v0.length : Int))) = true then
    (if (bnds v4 (v0.length : Int)) = true then
    let x2 := (v0.getD v4.toNat (((0 : Int), (0 : Int), ()), ([] : List Int), ()))
    (w_toClause K (x2, ())).bind fun y3 =>
    (if (bnds v4 (v3.length : Int)) = true then
    let l4 := (v3.set v4.toNat (y3.1, y3.2.1, ()))
    w_toClauseS_l3 K k v0 l4 (IntKind.i64.wrap (v4 + (1 : Int))) kx0
    else
    none)
    else
    none)
    else
    kx0 v3)
noncomputable def w_toClauseS (K : Nat) (x : ((List ((Int × Int × Unit) × (List Int) × Unit)) × Unit)) : Option (List ((Int × Int × Unit) × (List Int) × Unit)) :=
    (if (decide (0 ≤ (x.1.length : Int)) && decide ((x.1.length : Int) ≤ (lim : Int)) && decide ((x.1.length : Int) = (x.1.length : Int))) = true then
    let l1 := (List.replicate (x.1.length : Int).toNat (((0 : Int), (0 : Int), ()), ([] : List Int), ()))
    w_toClauseS_l3 K K x.1 l1 (0 : Int) (fun z5 =>
    some z5)
    else
    none)
noncomputable def lv_w_toClauseS_L3 : Lv := [(0, (.v (.sl (.st (.pair (.st (.pair (.int .i64) (.pair (.int .i64) .unit))) (.pair (.sl (.int .i64)) .unit)))))), (3, (.r (.st (.pair (.st (.pair (.int .i64) (.pair (.int .i64) .unit))) (.pair (.sl (.int .i64)) .unit))))), (4, (.v (.int .i64)))]
noncomputable def lv_w_toClauseS_X0 : Lv := [(3, (.r (.st (.pair (.st (.pair (.int .i64) (.pair (.int .i64) .unit))) (.pair (.sl (.int .i64)) .unit)))))]
noncomputable def rv_w_toClauseS : Lv := [(2, (.r (.st (.pair (.st (.pair (.int .i64) (.pair (.int .i64) .unit))) (.pair (.sl (.int .i64)) .unit)))))]
noncomputable def gw_toClauseS_l3 {R : Type} (K : Nat) (k : Nat) (x : den lv_w_toClauseS_L3.ty) (kx : Nat → St → Option R) (kr : St → Option R) : Option R := w_toClauseS_l3 K k x.1 x.2.1 x.2.2.1 (fun z0 => kx 0 (mkSt lv_w_toClauseS_X0 (z0, ())))
noncomputable def sg_w_toClauseS {R : Type} (K : Nat) (k : Nat) : List (Nat × SegS R) := []
noncomputable def su_w_toClauseS : List (Nat × Unit) := []
noncomputable def en_w_toClauseS {R : Type} (K : Nat) (k : Nat) : Env R := { L := lk [(3, mkLoop lv_w_toClauseS_L3 (gw_toClauseS_l3 K k))], X := lk [(0, lv_w_toClauseS_X0)], S := lk (sg_w_toClauseS K k), rv := rv_w_toClauseS }
noncomputable def cf_w_toClauseS (K : Nat) : Cfg := { ty := lk tys, fn := lk [(117, sp_w_toClause (w_toClause K))], prot := 0, nt := Try.f66.ntmps }
noncomputable def c_w_toClauseS_L3 : Code := nthC (partsOf (hasK su_w_toClauseS) (bodyOf Try.f66)) 0
theorem ew_toClauseS_l3 {R : Type} (K : Nat) (k : Nat) (x : den lv_w_toClauseS_L3.ty) (kx : Nat → St → Option R) (kr : St → Option R) : gw_toClauseS_l3 K (k + 1) x kx kr = evC (cf_w_toClauseS K) (en_w_toClauseS K k) c_w_toClauseS_L3 (mkSt lv_w_toClauseS_L3 x) (fun s => mkLoop lv_w_toClauseS_L3 (gw_toClauseS_l3 K k) s kx kr) kx kr := by kernel_rfl
theorem sw_toClauseS_l3 {R : Type} (K : Nat) (C : Cx) (hP : C.P = Try.prog) (O : CfgOk C (cf_w_toClauseS K)) (k : Nat) : LpS C (R := R) (mkLoop lv_w_toClauseS_L3 (gw_toClauseS_l3 K k)) c_w_toClauseS_L3 :=
  loop_sound O (by rw [hP]; kernel_rfl) (fun x kx kr => rfl) (ew_toClauseS_l3 K) (fun k => lpOk_of (en := en_w_toClauseS K k) (S := hasK su_w_toClauseS) (fun i => hasK_lk (sg_w_toClauseS K k) i) _ (by rw [show partsOf (hasK su_w_toClauseS) c_w_toClauseS_L3 = [] from by kernel_rfl]; exact trivial)) k
theorem e_w_toClauseS (K : Nat) (x : den as_w_toClauseS) : w_toClauseS K x = evFn (cf_w_toClauseS K) as_w_toClauseS [false] (.sl (.st (.pair (.st (.pair (.int .i64) (.pair (.int .i64) .unit))) (.pair (.sl (.int .i64)) .unit)))) (en_w_toClauseS K K) Try.f66.results.toList (bodyOf Try.f66) x := by kernel_rfl
theorem ok_w_toClauseS (K : Nat) : FnOk Try.prog 66 (sp_w_toClauseS (w_toClauseS K)) :=
  fn_ok (cf := cf_w_toClauseS K) (en := en_w_toClauseS K K) (c := bodyOf Try.f66) Try.func66 (by kernel_rfl) (by kernel_rfl) tysOk (fns_ok (l := [(117, sp_w_toClause (w_toClause K))]) ⟨ok_w_toClause K, trivial⟩) (by kernel_rfl) rfl (Nat.le_of_ble_eq_true (by kernel_rfl)) (by kernel_rfl) (of_decide_eq_true (by kernel_rfl)) (by decide) (fun C hP O => lpOk_of (en := en_w_toClauseS K K) (S := hasK su_w_toClauseS) (fun i => hasK_lk (sg_w_toClauseS K K) i) _ (by rw [show partsOf (hasK su_w_toClauseS) (bodyOf Try.f66) = [(true, c_w_toClauseS_L3)] from by kernel_rfl]; exact (lpL_loop (f := mkLoop lv_w_toClauseS_L3 (gw_toClauseS_l3 K K)) (by kernel_rfl) (sw_toClauseS_l3 K C hP O K) trivial))) (fun x y h => by rw [← e_w_toClauseS]; exact h)
noncomputable def as_w_toInstance : Ty := (.pair (.st (.pair (.int .i64) (.pair (.sl (.st (.pair (.st (.pair (.int .i64) (.pair (.int .i64) .unit))) (.pair (.sl (.int .i64)) .unit)))) .unit))) .unit)
noncomputable def sp_w_toInstance (F : ((Int × (List ((Int × Int × Unit) × (List Int) × Unit)) × Unit) × Unit) → Option (Int × (List ((Int × Int × Unit) × (List Int) × Unit)) × Unit)) : FnSpec := ⟨as_w_toInstance, [false], (.st (.pair (.int .i64) (.pair (.sl (.st (.pair (.st (.pair (.int .i64) (.pair (.int .i64) .unit))) (.pair (.sl (.int .i64)) .unit)))) .unit))), F⟩
noncomputable def w_toInstance (K : Nat) (x : ((Int × (List ((Int × Int × Unit) × (List Int) × Unit)) × Unit) × Unit)) : Option (Int × (List ((Int × Int × Unit) × (List Int) × Unit)) × Unit) :=
    (w_toClauseS K (x.1.2.1, ())).bind fun y1 =>
    some (x.1.1, y1, ())
noncomputable def rv_w_toInstance : Lv := [(2, (.bx (.st (.pair (.v (.int .i64)) (.pair (.r (.st (.pair (.st (.pair (.int .i64) (.pair (.int .i64) .unit))) (.pair (.sl (.int .i64)) .unit)))) .unit)))))]
noncomputable def sg_w_toInstance {R : Type} (K : Nat) (k : Nat) : List (Nat × SegS R) := []
noncomputable def su_w_toInstance : List (Nat × Unit) := []
noncomputable def en_w_toInstance {R : Type} (K : Nat) (k : Nat) : Env R := { L := lk [], X := lk [], S := lk (sg_w_toInstance K k), rv := rv_w_toInstance }
noncomputable def cf_w_toInstance (K : Nat) : Cfg := { ty := lk tys, fn := lk [(66, sp_w_toClauseS (w_toClauseS K))], prot := 0, nt := Try.f22.ntmps }
theorem e_w_toInstance (K : Nat) (x : den as_w_toInstance) : w_toInstance K x = evFn (cf_w_toInstance K) as_w_toInstance [false] (.st (.pair (.int .i64) (.pair (.sl (.st (.pair (.st (.pair (.int .i64) (.pair (.int .i64) .unit))) (.pair (.sl (.int .i64)) .unit)))) .unit))) (en_w_toInstance K K) Try.f22.results.toList (bodyOf Try.f22) x := by kernel_rfl
theorem ok_w_toInstance (K : Nat) : FnOk Try.prog 22 (sp_w_toInstance (w_toInstance K)) :=
  fn_ok (cf := cf_w_toInstance K) (en := en_w_toInstance K K) (c := bodyOf Try.f22) Try.func22 (by kernel_rfl) (by kernel_rfl) tysOk (fns_ok (l := [(66, sp_w_toClauseS (w_toClauseS K))]) ⟨ok_w_toClauseS K, trivial⟩) (by kernel_rfl) rfl (Nat.le_of_ble_eq_true (by kernel_rfl)) (by kernel_rfl) (of_decide_eq_true (by kernel_rfl)) (by decide) (fun C hP O => lpOk_of (en := en_w_toInstance K K) (S := hasK su_w_toInstance) (fun i => hasK_lk (sg_w_toInstance K K) i) _ (by rw [show partsOf (hasK su_w_toInstance) (bodyOf Try.f22) = [] from by kernel_rfl]; exact trivial)) (fun x y h => by rw [← e_w_toInstance]; exact h)
noncomputable def as_w_szInt64S : Ty := (.pair (.sl (.int .i64)) (.pair (.int .i64) .unit))
noncomputable def sp_w_szInt64S (F : ((List Int) × Int × Unit) → Option Int) : FnSpec := ⟨as_w_szInt64S, [false, false], (.int .i64), F⟩
noncomputable def w_szInt64S (K : Nat) (x : ((List Int) × Int × Unit)) : Option Int :=
    let x1 := (decide ((IntKind.i64.wrap (x.2.1 - (x.1.length : Int))) < (0 : Int)))
    (if x1 = true then
    some (-1 : Int)
    else
    some (IntKind.i64.wrap (x.2.1 - (x.1.length : Int))))
noncomputable def rv_w_szInt64S : Lv := [(4, (.v (.int .i64)))]
noncomputable def sg_w_szInt64S {R : Type} (K : Nat) (k : Nat) : List (Nat × SegS R) := []
noncomputable def su_w_szInt64S : List (Nat × Unit) := []
noncomputable def en_w_szInt64S {R : Type} (K : Nat) (k : Nat) : Env R := { L := lk [], X := lk [], S := lk (sg_w_szInt64S K k), rv := rv_w_szInt64S }
noncomputable def cf_w_szInt64S (K : Nat) : Cfg := { ty := lk tys, fn := lk [], prot := 0, nt := Try.f135.ntmps }
theorem e_w_szInt64S (K : Nat) (x : den as_w_szInt64S) : w_szInt64S K x = evFn (cf_w_szInt64S K) as_w_szInt64S [false, false] (.int .i64) (en_w_szInt64S K K) Try.f135.results.toList (bodyOf Try.f135) x := by kernel_rfl
theorem ok_w_szInt64S (K : Nat) : FnOk Try.prog 135 (sp_w_szInt64S (w_szInt64S K)) :=
  fn_ok (cf := cf_w_szInt64S K) (en := en_w_szInt64S K K) (c := bodyOf Try.f135) Try.func135 (by kernel_rfl) (by kernel_rfl) tysOk (fns_ok (l := []) trivial) (by kernel_rfl) rfl (Nat.le_of_ble_eq_true (by kernel_rfl)) (by kernel_rfl) (of_decide_eq_true (by kernel_rfl)) (by decide) (fun C hP O => lpOk_of (en := en_w_szInt64S K K) (S := hasK su_w_szInt64S) (fun i => hasK_lk (sg_w_szInt64S K K) i) _ (by rw [show partsOf (hasK su_w_szInt64S) (bodyOf Try.f135) = [] from by kernel_rfl]; exact trivial)) (fun x y h => by rw [← e_w_szInt64S]; exact h)
noncomputable def as_w_szClause : Ty := (.pair (.st (.pair (.st (.pair (.int .i64) (.pair (.int .i64) .unit))) (.pair (.sl (.int .i64)) .unit))) (.pair (.int .i64) .unit))
noncomputable def sp_w_szClause (F : (((Int × Int × Unit) × (List Int) × Unit) × Int × Unit) → Option Int) : FnSpec := ⟨as_w_szClause, [false, false], (.int .i64), F⟩
noncomputable def w_szClause (K : Nat) (x : (((Int × Int × Unit) × (List Int) × Unit) × Int × Unit)) : Option Int :=
    (w_szInt64S K (x.1.2.1, x.2.1, ())).bind fun y1 =>
    (if (decide (y1 < (0 : Int))) = true then
    some (-1 : Int)
    else
    some y1)
noncomputable def rv_w_szClause : Lv := [(4, (.v (.int .i64)))]
noncomputable def sg_w_szClause {R : Type} (K : Nat) (k : Nat) : List (Nat × SegS R) := []
noncomputable def su_w_szClause : List (Nat × Unit) := []
noncomputable def en_w_szClause {R : Type} (K : Nat) (k : Nat) : Env R := { L := lk [], X := lk [], S := lk (sg_w_szClause K k), rv := rv_w_szClause }
noncomputable def cf_w_szClause (K : Nat) : Cfg := { ty := lk tys, fn := lk [(135, sp_w_szInt64S (w_szInt64S K))], prot := 0, nt := Try.f115.ntmps }
theorem e_w_szClause (K : Nat) (x : den as_w_szClause) : w_szClause K x = evFn (cf_w_szClause K) as_w_szClause [false, false] (.int .i64) (en_w_szClause K K) Try.f115.results.toList (bodyOf Try.f115) x := by kernel_rfl
theorem ok_w_szClause (K : Nat) : FnOk Try.prog 115 (sp_w_szClause (w_szClause K)) :=
  fn_ok (cf := cf_w_szClause K) (en := en_w_szClause K K) (c := bodyOf Try.f115) Try.func115 (by kernel_rfl) (by kernel_rfl) tysOk (fns_ok (l := [(135, sp_w_szInt64S (w_szInt64S K))]) ⟨ok_w_szInt64S K, trivial⟩) (by kernel_rfl) rfl (Nat.le_of_ble_eq_true (by kernel_rfl)) (by kernel_rfl) (of_decide_eq_true (by kernel_rfl)) (by decide) (fun C hP O => lpOk_of (en := en_w_szClause K K) (S := hasK su_w_szClause) (fun i => hasK_lk (sg_w_szClause K K) i) _ (by rw [show partsOf (hasK su_w_szClause) (bodyOf Try.f115) = [] from by kernel_rfl]; exact trivial)) (fun x y h => by rw [← e_w_szClause]; exact h)
noncomputable def as_w_szClauseS : Ty := (.pair (.sl (.st (.pair (.st (.pair (.int .i64) (.pair (.int .i64) .unit))) (.pair (.sl (.int .i64)) .unit)))) (.pair (.int .i64) .unit))
noncomputable def sp_w_szClauseS (F : ((List ((Int × Int × Unit) × (List Int) × Unit)) × Int × Unit) → Option Int) : FnSpec := ⟨as_w_szClauseS, [false, false], (.int .i64), F⟩
noncomputable def w_szClauseS_l5 {R : Type} (K : Nat) : Nat → (List ((Int × Int × Unit) × (List Int) × Unit)) → Int → Int → (Int → Option R) → (Int → Option R) → Option R
  | 0, _, _, _, _, _ => none
  | k + 1, v0, v1, v5, kx0, kr =>
    (if (decide (v5 < (v0.length : Int))) = true then
    (if (bnds v5 (v0.length : Int)) = true then
    let x2 := (v0.getD v5.toNat (((0 : Int), (0 : Int), ()), ([] : List Int), ()))
    (w_szClause K (x2, v1, ())).bind fun y3 =>
    (if (decide (y3 < (0 : Int))) = true then
    kr (-1 : Int)
    else
    w_szClauseS_l5 K k v0 y3 (IntKind.i64.wrap (v5 + (1 : Int))) kx0 kr)
    else
    none)
    else
    kx0 v1)
noncomputable def w_szClauseS (K : Nat) (x : ((List ((Int × Int × Unit) × (List Int) × Unit)) × Int × Unit)) : Option Int :=
    let x1 := (decide ((IntKind.i64.wrap (x.2.1 - (x.1.length : Int))) < (0 : Int)))
    (if x1 = true then
    some (-1 : Int)
    else
    w_szClauseS_l5 K K x.1 (IntKind.i64.wrap (x.2.1 - (x.1.length : Int))) (0 : Int) (fun z4 =>
    some z4) (fun z5 =>
    some z5))
noncomputable def lv_w_szClauseS_L5 : Lv := [(0, (.v (.sl (.st (.pair (.st (.pair (.int .i64) (.pair (.int .i64) .unit))) (.pair (.sl (.int .i64)) .unit)))))), (1, (.v (.int .i64))), (5, (.v (.int .i64)))]
noncomputable def lv_w_szClauseS_X0 : Lv := [(1, (.v (.int .i64)))]
noncomputable def rv_w_szClauseS : Lv := [(4, (.v (.int .i64)))]
noncomputable def gw_szClauseS_l5 {R : Type} (K : Nat) (k : Nat) (x : den lv_w_szClauseS_L5.ty) (kx : Nat → St → Option R) (kr : St → Option R) : Option R := w_szClauseS_l5 K k x.1 x.2.1 x.2.2.1 (fun z0 => kx 0 (mkSt lv_w_szClauseS_X0 (z0, ()))) (fun z0 => kr (mkSt rv_w_szClauseS (z0, ())))
noncomputable def sg_w_szClauseS {R : Type} (K : Nat) (k : Nat) : List (Nat × SegS R) := []
noncomputable def su_w_szClauseS : List (Nat × Unit) := []
noncomputable def en_w_szClauseS {R : Type} (K : Nat) (k : Nat) : Env R := { L := lk [(5, mkLoop lv_w_szClauseS_L5 (gw_szClauseS_l5 K k))], X := lk [(0, lv_w_szClauseS_X0)], S := lk (sg_w_szClauseS K k), rv := rv_w_szClauseS }
noncomputable def cf_w_szClauseS (K : Nat) : Cfg := { ty := lk tys, fn := lk [(115, sp_w_szClause (w_szClause K))], prot := 0, nt := Try.f63.ntmps }
noncomputable def c_w_szClauseS_L5 : Code := nthC (partsOf (hasK su_w_szClauseS) (bodyOf Try.f63)) 0
theorem ew_szClauseS_l5 {R : Type} (K : Nat) (k : Nat) (x : den lv_w_szClauseS_L5.ty) (kx : Nat → St → Option R) (kr : St → Option R) : gw_szClauseS_l5 K (k + 1) x kx kr = evC (cf_w_szClauseS K) (en_w_szClauseS K k) c_w_szClauseS_L5 (mkSt lv_w_szClauseS_L5 x) (fun s => mkLoop lv_w_szClauseS_L5 (gw_szClauseS_l5 K k) s kx kr) kx kr := by kernel_rfl
theorem sw_szClauseS_l5 {R : Type} (K : Nat) (C : Cx) (hP : C.P = Try.prog) (O : CfgOk C (cf_w_szClauseS K)) (k : Nat) : LpS C (R := R) (mkLoop lv_w_szClauseS_L5 (gw_szClauseS_l5 K k)) c_w_szClauseS_L5 :=
  loop_sound O (by rw [hP]; kernel_rfl) (fun x kx kr => rfl) (ew_szClauseS_l5 K) (fun k => lpOk_of (en := en_w_szClauseS K k) (S := hasK su_w_szClauseS) (fun i => hasK_lk (sg_w_szClauseS K k) i) _ (by rw [show partsOf (hasK su_w_szClauseS) c_w_szClauseS_L5 = [] from by kernel_rfl]; exact trivial)) k
theorem e_w_szClauseS (K : Nat) (x : den as_w_szClauseS) : w_szClauseS K x = evFn (cf_w_szClauseS K) as_w_szClauseS [false, false] (.int .i64) (en_w_szClauseS K K) Try.f63.results.toList (bodyOf Try.f63) x := by kernel_rfl
theorem ok_w_szClauseS (K : Nat) : FnOk Try.prog 63 (sp_w_szClauseS (w_szClauseS K)) :=
  fn_ok (cf := cf_w_szClauseS K) (en := en_w_szClauseS K K) (c := bodyOf Try.f63) Try.func63 (by kernel_rfl) (by kernel_rfl) tysOk (fns_ok (l := [(115, sp_w_szClause (w_szClause K))]) ⟨ok_w_szClause K, trivial⟩) (by kernel_rfl) rfl (Nat.le_of_ble_eq_true (by kernel_rfl)) (by kernel_rfl) (of_decide_eq_true (by kernel_rfl)) (by decide) (fun C hP O => lpOk_of (en := en_w_szClauseS K K) (S := hasK su_w_szClauseS) (fun i => hasK_lk (sg_w_szClauseS K K) i) _ (by rw [show partsOf (hasK su_w_szClauseS) (bodyOf Try.f63) = [(true, c_w_szClauseS_L5)] from by kernel_rfl]; exact (lpL_loop (f := mkLoop lv_w_szClauseS_L5 (gw_szClauseS_l5 K K)) (by kernel_rfl) (sw_szClauseS_l5 K C hP O K) trivial))) (fun x y h => by rw [← e_w_szClauseS]; exact h)
noncomputable def as_w_szInstance : Ty := (.pair (.st (.pair (.int .i64) (.pair (.sl (.st (.pair (.st (.pair (.int .i64) (.pair (.int .i64) .unit))) (.pair (.sl (.int .i64)) .unit)))) .unit))) (.pair (.int .i64) .unit))
noncomputable def sp_w_szInstance (F : ((Int × (List ((Int × Int × Unit) × (List Int) × Unit)) × Unit) × Int × Unit) → Option Int) : FnSpec := ⟨as_w_szInstance, [false, false], (.int .i64), F⟩
noncomputable def w_szInstance (K : Nat) (x : ((Int × (List ((Int × Int × Unit) × (List Int) × Unit)) × Unit) × Int × Unit)) : Option Int :=
    (w_szClauseS K (x.1.2.1, x.2.1, ())).bind fun y1 =>
    (if (decide (y1 < (0 : Int))) = true then
    some (-1 : Int)
    else
    some y1)
noncomputable def rv_w_szInstance : Lv := [(4, (.v (.int .i64)))]
noncomputable def sg_w_szInstance {R : Type} (K : Nat) (k : Nat) : List (Nat × SegS R) := []
noncomputable def su_w_szInstance : List (Nat × Unit) := []
noncomputable def en_w_szInstance {R : Type} (K : Nat) (k : Nat) : Env R := { L := lk [], X := lk [], S := lk (sg_w_szInstance K k), rv := rv_w_szInstance }
noncomputable def cf_w_szInstance (K : Nat) : Cfg := { ty := lk tys, fn := lk [(63, sp_w_szClauseS (w_szClauseS K))], prot := 0, nt := Try.f20.ntmps }
theorem e_w_szInstance (K : Nat) (x : den as_w_szInstance) : w_szInstance K x = evFn (cf_w_szInstance K) as_w_szInstance [false, false] (.int .i64) (en_w_szInstance K K) Try.f20.results.toList (bodyOf Try.f20) x := by kernel_rfl
theorem ok_w_szInstance (K : Nat) : FnOk Try.prog 20 (sp_w_szInstance (w_szInstance K)) :=
  fn_ok (cf := cf_w_szInstance K) (en := en_w_szInstance K K) (c := bodyOf Try.f20) Try.func20 (by kernel_rfl) (by kernel_rfl) tysOk (fns_ok (l := [(63, sp_w_szClauseS (w_szClauseS K))]) ⟨ok_w_szClauseS K, trivial⟩) (by kernel_rfl) rfl (Nat.le_of_ble_eq_true (by kernel_rfl)) (by kernel_rfl) (of_decide_eq_true (by kernel_rfl)) (by decide) (fun C hP O => lpOk_of (en := en_w_szInstance K K) (S := hasK su_w_szInstance) (fun i => hasK_lk (sg_w_szInstance K K) i) _ (by rw [show partsOf (hasK su_w_szInstance) (bodyOf Try.f20) = [] from by kernel_rfl]; exact trivial)) (fun x y h => by rw [← e_w_szInstance]; exact h)
noncomputable def as_w_eqFunc : Ty := (.pair (.st (.pair (.int .i64) (.pair (.int .i64) .unit))) (.pair (.st (.pair (.int .i64) (.pair (.int .i64) .unit))) .unit))
noncomputable def sp_w_eqFunc (F : ((Int × Int × Unit) × (Int × Int × Unit) × Unit) → Option Bool) : FnSpec := ⟨as_w_eqFunc, [false, false], .bool, F⟩
noncomputable def w_eqFunc (K : Nat) (x : ((Int × Int × Unit) × (Int × Int × Unit) × Unit)) : Option Bool :=
    (if (!decide (x.1.1 = x.2.1.1)) = true then
    some false
    else
    (if (!decide (x.1.2.1 = x.2.1.2.1)) = true then
    some false
    else
    some true))
noncomputable def rv_w_eqFunc : Lv := [(4, (.v .bool))]
noncomputable def sg_w_eqFunc {R : Type} (K : Nat) (k : Nat) : List (Nat × SegS R) := []
noncomputable def su_w_eqFunc : List (Nat × Unit) := []
noncomputable def en_w_eqFunc {R : Type} (K : Nat) (k : Nat) : Env R := { L := lk [], X := lk [], S := lk (sg_w_eqFunc K k), rv := rv_w_eqFunc }
noncomputable def cf_w_eqFunc (K : Nat) : Cfg := { ty := lk tys, fn := lk [], prot := 0, nt := Try.f70.ntmps }
theorem e_w_eqFunc (K : Nat) (x : den as_w_eqFunc) : w_eqFunc K x = evFn (cf_w_eqFunc K) as_w_eqFunc [false, false] .bool (en_w_eqFunc K K) Try.f70.results.toList (bodyOf Try.f70) x := by kernel_rfl
theorem ok_w_eqFunc (K : Nat) : FnOk Try.prog 70 (sp_w_eqFunc (w_eqFunc K)) :=
  fn_ok (cf := cf_w_eqFunc K) (en := en_w_eqFunc K K) (c := bodyOf Try.f70) Try.func70 (by kernel_rfl) (by kernel_rfl) tysOk (fns_ok (l := []) trivial) (by kernel_rfl) rfl (Nat.le_of_ble_eq_true (by kernel_rfl)) (by kernel_rfl) (of_decide_eq_true (by kernel_rfl)) (by decide) (fun C hP O => lpOk_of (en := en_w_eqFunc K K) (S := hasK su_w_eqFunc) (fun i => hasK_lk (sg_w_eqFunc K K) i) _ (by rw [show partsOf (hasK su_w_eqFunc) (bodyOf Try.f70) = [] from by kernel_rfl]; exact trivial)) (fun x y h => by rw [← e_w_eqFunc]; exact h)
end Go.Proofs.Ytieiajeggahipaa.E
namespace Go.Proofs.Ytieiajeggahipaa.E
open Go Go.Proofs
set_option linter.unusedVariables false
set_option linter.unusedSimpArgs false
variable {K : Nat} {R : Type}
abbrev DC := DF × List Int × Unit
abbrev DX := Int × List DC × Unit
theorem lt_len {α : Type} {p r : List α} {y : α} : decide ((p.length : Int) < ((p ++ y :: r).length : Int)) = true := decide_eq_true (by simp; omega)
theorem nlt_len {α : Type} {p : List α} : decide ((p.length : Int) < ((p ++ []).length : Int)) = false := decide_eq_false (by simp)
theorem bnds_mid {α : Type} {p r : List α} {y : α} : bnds (p.length : Int) ((p ++ y :: r).length : Int) = true := bnds_n (len_mid p r y)
theorem next_i {α : Type} {p r : List α} {y : α} (h : (p ++ y :: r).length < 4611686018427387904) : IntKind.i64.wrap ((p.length : Int) + 1) = (((p ++ [y]).length : Nat) : Int) := by
  rw [snoc_len]; refine w64s ?_
  have := len_mid p r y; omega
theorem eqI_l (l : List Int) (hl : l.length < 4611686018427387904) (kx : Option R) (kr : Bool → Option R) : ∀ (r p : List Int) (k : Nat), l = p ++ r → r.length < k → w_eqInt64S_l4 K k l l (p.length : Int) kx kr = kx
  | [], p, k + 1, h, _ => by subst h; simp only [w_eqInt64S_l4]; rw [ite_f nlt_len]
  | y :: r, p, k + 1, h, hk => by
    subst h
    simp only [w_eqInt64S_l4]
    rw [ite_t lt_len, ite_t bnds_mid, ite_t bnds_mid, ite_f (by simp), next_i hl]
    exact eqI_l _ hl kx kr r (p ++ [y]) k (mid_app p r y) (by simp at hk; omega)
theorem w_eqInt64S_refl {l : List Int} (hl : l.length < 4611686018427387904) (hK : 4611686018427387904 ≤ K) : w_eqInt64S K (l, l, ()) = some true := by
  simp only [w_eqInt64S]
  rw [ite_f (by simp)]
  exact eqI_l l hl _ _ l [] K rfl (by omega)
/-- v, v + 1, .. -/
def seqI : Int → Nat → List Int
  | _, 0 => []
  | v, n + 1 => v :: seqI (v + 1) n
theorem seqI_len : ∀ (n : Nat) (v : Int), (seqI v n).length = n
  | 0, _ => rfl
  | n + 1, v => by simp [seqI, seqI_len n]
theorem markI_l (kx : List Int → Int → Option R) : ∀ (r p : List Int) (k : Nat) (v : Int), (p ++ r).length < 4611686018427387904 → r.length < k → 0 ≤ v → v + r.length < 4611686018427387904 → w_markInt64S_l2 K k (p ++ r) v (p.length : Int) kx = kx (p ++ seqI v r.length) (v + r.length)
  | [], p, k + 1, v, hl, _, _, _ => by simp only [w_markInt64S_l2]; rw [ite_f nlt_len]; simp [seqI]
  | y :: r, p, k + 1, v, hl, hk, hv, hb => by
    simp only [List.length_cons] at hk hb
    simp only [w_markInt64S_l2]
    rw [ite_t lt_len, ite_t bnds_mid, set_midI, w64 (by omega) (by omega), next_i hl]
    have := markI_l kx r (p ++ [v]) k (v + 1) (by simp at hl ⊢; omega) (by omega) (by omega) (by omega)
    rw [← mid_app p r v] at this
    rw [snoc_len] at this ⊢
    rw [this]
    simp only [seqI, List.length_cons, List.append_assoc, List.singleton_append]
    congr 1; omega
theorem w_markInt64S_eq {l : List Int} {v : Int} (hl : l.length < 4611686018427387904) (hK : 4611686018427387904 ≤ K) (hv : 0 ≤ v) (hb : v + l.length < 4611686018427387904) : w_markInt64S K (l, v, ()) = some (v + l.length, (seqI v l.length, ())) := by
  simp only [w_markInt64S]
  exact markI_l _ l [] K v hl (by omega) hv hb
theorem heldI_l (kx kr : Int → Option R) : ∀ (n : Nat) (p : List Int) (k : Nat) (v : Int), (p ++ seqI v n).length < 4611686018427387904 → n < k → 0 ≤ v → v + n < 4611686018427387904 → w_heldInt64S_l2 K k (p ++ seqI v n) v (p.length : Int) kx kr = kx (v + n)
  | 0, p, k + 1, v, hl, _, _, _ => by rw [show seqI v 0 = [] from rfl]; simp only [w_heldInt64S_l2]; rw [ite_f nlt_len]; simp
  | n + 1, p, k + 1, v, hl, hk, hv, hb => by
    rw [show seqI v (n + 1) = v :: seqI (v + 1) n from rfl] at hl ⊢
    simp only [w_heldInt64S_l2]
    rw [ite_t lt_len, ite_t bnds_mid, getD_midI, ite_f (by simp), w64 (by omega) (by omega), next_i hl, mid_app p _ v]
    rw [mid_app p _ v] at hl
    rw [heldI_l kx kr n (p ++ [v]) k (v + 1) hl (by omega) (by omega) (by omega)]
    congr 1; omega
theorem w_heldInt64S_eq {n : Nat} {v : Int} (hK : 4611686018427387904 ≤ K) (hv : 0 ≤ v) (hb : v + n < 4611686018427387904) : w_heldInt64S K (seqI v n, v, ()) = some (v + n) := by
  simp only [w_heldInt64S]
  exact heldI_l _ _ n [] K v (by simp [seqI_len]; omega) (by omega) hv hb
theorem toI_l (kx : List Int → Option R) : ∀ (r p z : List Int) (k : Nat), (p ++ r).length < 4611686018427387904 → r.length < k → z.length = r.length → w_toInt64S_l3 K k (p ++ r) (p ++ z) (p.length : Int) kx = kx (p ++ r)
  | [], p, z, k + 1, hl, _, hz => by
    obtain rfl := List.length_eq_zero_iff.1 hz
    simp only [w_toInt64S_l3]; rw [ite_f nlt_len]
  | y :: r, p, [], k + 1, hl, hk, hz => by simp at hz
  | y :: r, p, z0 :: z, k + 1, hl, hk, hz => by
    simp only [w_toInt64S_l3]
    rw [ite_t lt_len, ite_t bnds_mid, ite_t bnds_mid, set_midI, getD_midI, next_i hl]
    have := toI_l kx r (p ++ [y]) z k (by simp at hl ⊢; omega) (by simp at hk; omega) (by simp at hz; omega)
    simpa using this
theorem mk_len {n : Nat} (h : n ≤ 1099511627776) : (decide (0 ≤ (n : Int)) && decide ((n : Int) ≤ (lim : Int)) && decide True) = true := by
  rw [show ((lim : Nat) : Int) = 1099511627776 from rfl]; simp; omega
theorem w_toInt64S_eq {l : List Int} (hl : l.length ≤ 1099511627776) (hK : 4611686018427387904 ≤ K) : w_toInt64S K (l, ()) = some l := by
  simp only [w_toInt64S]
  rw [ite_t (mk_len hl)]
  exact toI_l _ l [] _ K (by simp; omega) (by omega) (by simp)
theorem w_toRelation_eq (r : DF) : w_toRelation K (r, ()) = some r := rfl
theorem w_toClause_eq {c : DC} (hl : c.2.1.length ≤ 1099511627776) (hK : 4611686018427387904 ≤ K) : w_toClause K (c, ()) = some c := by
  simp only [w_toClause, w_toRelation_eq, some_bind', w_toInt64S_eq hl hK]
theorem toC_l (kx : List DC → Option R) (hK : 4611686018427387904 ≤ K) : ∀ (r p z : List DC) (k : Nat), (∀ c ∈ r, c.2.1.length ≤ 1099511627776) → (p ++ r).length < 4611686018427387904 → r.length < k → z.length = r.length → w_toClauseS_l3 K k (p ++ r) (p ++ z) (p.length : Int) kx = kx (p ++ r)
  | [], p, z, k + 1, _, hl, _, hz => by
    obtain rfl := List.length_eq_zero_iff.1 hz
    simp only [w_toClauseS_l3]; rw [ite_f nlt_len]
  | y :: r, p, [], k + 1, _, hl, hk, hz => by simp at hz
  | y :: r, p, z0 :: z, k + 1, hc, hl, hk, hz => by
    simp only [w_toClauseS_l3]
    rw [ite_t lt_len, ite_t bnds_mid, getD_midI, w_toClause_eq (hc y (by simp)) hK, some_bind', ite_t bnds_mid, set_midI, next_i hl]
    have := toC_l kx hK r (p ++ [y]) z k (fun c h => hc c (by simp [h])) (by simp at hl ⊢; omega) (by simp at hk; omega) (by simp at hz; omega)
    simpa using this
theorem w_toInstance_eq {x : DX} (hc : ∀ c ∈ x.2.1, c.2.1.length ≤ 1099511627776) (hl : x.2.1.length ≤ 1099511627776) (hK : 4611686018427387904 ≤ K) : w_toInstance K (x, ()) = some x := by
  simp only [w_toInstance, w_toClauseS]
  rw [ite_t (mk_len hl)]
  have := toC_l (fun z => some z) hK x.2.1 [] (List.replicate x.2.1.length (((0 : Int), (0 : Int), ()), ([] : List Int), ())) K hc (by simp; omega) (by omega) (by simp)
  simp only [List.nil_append, List.length_nil, Int.ofNat_zero, Int.toNat_natCast] at this ⊢
  rw [this]; rfl
theorem w_eqRelation_refl (r : DF) : w_eqRelation K (r, r, ()) = some true := by simp [w_eqRelation]
theorem w_eqFunc_refl (r : DF) : w_eqFunc K (r, r, ()) = some true := by simp [w_eqFunc]
theorem w_eqClause_refl {c : DC} (hl : c.2.1.length < 4611686018427387904) (hK : 4611686018427387904 ≤ K) : w_eqClause K (c, c, ()) = some true := by
  simp only [w_eqClause, w_eqRelation_refl, some_bind', w_eqInt64S_refl hl hK]; rfl
theorem eqC_l (l : List DC) (hK : 4611686018427387904 ≤ K) (hc : ∀ c ∈ l, c.2.1.length < 4611686018427387904) (hl : l.length < 4611686018427387904) (kx : Option R) (kr : Bool → Option R) : ∀ (r p : List DC) (k : Nat), l = p ++ r → r.length < k → w_eqClauseS_l4 K k l l (p.length : Int) kx kr = kx
  | [], p, k + 1, h, _ => by subst h; simp only [w_eqClauseS_l4]; rw [ite_f nlt_len]
  | y :: r, p, k + 1, h, hk => by
    subst h
    simp only [w_eqClauseS_l4]
    rw [ite_t lt_len, ite_t bnds_mid, ite_t bnds_mid, getD_midI, w_eqClause_refl (hc y (by simp)) hK, some_bind', ite_f (by simp), next_i hl]
    exact eqC_l _ hK hc hl kx kr r (p ++ [y]) k (mid_app p r y) (by simp at hk; omega)
theorem w_eqInstance_refl {x : DX} (hK : 4611686018427387904 ≤ K) (hc : ∀ c ∈ x.2.1, c.2.1.length < 4611686018427387904) (hl : x.2.1.length < 4611686018427387904) : w_eqInstance K (x, x, ()) = some true := by
  simp only [w_eqInstance, w_eqClauseS]
  rw [ite_f (by simp), ite_f (by simp)]
  have := eqC_l x.2.1 hK hc hl (some true) (fun z2 => some z2) x.2.1 [] K rfl (by omega)
  simp only [List.length_nil] at this
  rw [show ((0 : Nat) : Int) = 0 from rfl] at this
  rw [this]; rfl
/-- How many numbers clauses hold. -/
def szC : List DC → Nat
  | [] => 0
  | c :: r => 2 + c.2.1.length + szC r
def markC : List DC → Int → List DC
  | [], _ => []
  | c :: r, v => ((v, v + 1, ()), seqI (v + 2) c.2.1.length, ()) :: markC r (v + 2 + c.2.1.length)
theorem markC_len : ∀ (l : List DC) (v : Int), (markC l v).length = l.length
  | [], _ => rfl
  | c :: r, v => by simp [markC, markC_len r]
theorem szC_len : ∀ (l : List DC), l.length ≤ szC l
  | [] => Nat.le_refl _
  | c :: r => by have := szC_len r; simp [szC]; omega
theorem szC_mem : ∀ (l : List DC) (c : DC), c ∈ l → c.2.1.length ≤ szC l
  | a :: r, c, h => by
    rcases List.mem_cons.1 h with rfl | h
    · simp [szC]; omega
    · have := szC_mem r c h; simp [szC]; omega
theorem markC_l (kx : List DC → Int → Option R) (hK : 4611686018427387904 ≤ K) : ∀ (r p : List DC) (k : Nat) (v : Int), (p ++ r).length < 4611686018427387904 → r.length < k → 0 ≤ v → v + szC r < 4611686018427387904 → w_markClauseS_l2 K k (p ++ r) v (p.length : Int) kx = kx (p ++ markC r v) (v + szC r)
  | [], p, k + 1, v, hl, _, _, _ => by simp only [w_markClauseS_l2]; rw [ite_f nlt_len]; simp [markC, szC]
  | y :: r, p, k + 1, v, hl, hk, hv, hb => by
    simp only [List.length_cons, szC, Int.natCast_add] at hk hb
    simp only [w_markClauseS_l2]
    rw [ite_t lt_len, ite_t bnds_mid, getD_midI, set_midI, ite_t bnds_mid, getD_midI, set_midI, ite_t bnds_mid, getD_midI, w64 (x := v + 1) (by omega) (by omega), w64 (x := v + 1 + 1) (by omega) (by omega),
      w_markInt64S_eq (l := y.2.1) (by omega) hK (by omega) (by omega), some_bind', set_midI, next_i hl]
    have := markC_l kx hK r (p ++ [((v, v + 1, ()), seqI (v + 1 + 1) y.2.1.length, ())]) k (v + 1 + 1 + y.2.1.length) (by simp at hl ⊢; omega) (by omega) (by omega) (by omega)
    rw [← mid_app] at this
    rw [snoc_len] at this ⊢
    rw [this]
    have e : v + 1 + 1 = v + 2 := by omega
    simp only [markC, szC, List.append_assoc, List.singleton_append, e]
    congr 1; simp only [Int.natCast_add]; omega
theorem w_markInstance_eq {x : DX} {v : Int} (hK : 4611686018427387904 ≤ K) (hv : 0 ≤ v) (hb : v + szC x.2.1 < 4611686018427387904) : w_markInstance K (x, v, ()) = some (v + szC x.2.1, ((x.1, markC x.2.1 v, ()), ())) := by
  have hl := szC_len x.2.1
  simp only [w_markInstance, w_markClauseS]
  have := markC_l (fun z5 z6 => some (z6, (z5, ()))) hK x.2.1 [] K v (by simp; omega) (by omega) hv hb
  simp only [List.nil_append, List.length_nil] at this
  rw [show ((0 : Nat) : Int) = 0 from rfl] at this
  rw [this]; rfl
theorem heldC_l (kx kr : Int → Option R) (hK : 4611686018427387904 ≤ K) : ∀ (r p : List DC) (k : Nat) (v : Int), (p ++ r).length < 4611686018427387904 → r.length < k → 0 ≤ v → v + szC r < 4611686018427387904 → w_heldClauseS_l2 K k (p ++ markC r v) v (p.length : Int) kx kr = kx (v + szC r)
  | [], p, k + 1, v, hl, _, _, _ => by rw [show markC [] v = [] from rfl]; simp only [w_heldClauseS_l2]; rw [ite_f nlt_len]; simp [szC]
  | y :: r, p, k + 1, v, hl, hk, hv, hb => by
    simp only [List.length_cons, szC, Int.natCast_add] at hk hb
    rw [show markC (y :: r) v = ((v, v + 1, ()), seqI (v + 2) y.2.1.length, ()) :: markC r (v + 2 + y.2.1.length) from rfl]
    simp only [w_heldClauseS_l2]
    have hl2 : (p ++ ((v, v + 1, ()), seqI (v + 2) y.2.1.length, ()) :: markC r (v + 2 + y.2.1.length)).length < 4611686018427387904 := by simp [markC_len] at hl ⊢; omega
    rw [ite_t lt_len, ite_t bnds_mid, getD_midI, ite_f (by simp), ite_t bnds_mid, w64 (x := v + 1) (by omega) (by omega), ite_f (by simp), ite_t bnds_mid, w64 (x := v + 1 + 1) (by omega) (by omega)]
    rw [show v + 1 + 1 = v + 2 from by omega, w_heldInt64S_eq hK (by omega) (by omega), some_bind', ite_f (decide_eq_false (by omega)), next_i hl2, mid_app]
    rw [heldC_l kx kr hK r _ k (v + 2 + y.2.1.length) (by simp at hl ⊢; omega) (by omega) (by omega) (by omega)]
    congr 1; simp only [szC, Int.natCast_add]; omega
theorem w_heldInstance_eq {a : Int} {l : List DC} {v : Int} (hK : 4611686018427387904 ≤ K) (hv : 0 ≤ v) (hb : v + szC l < 4611686018427387904) : w_heldInstance K ((a, markC l v, ()), v, ()) = some (v + szC l) := by
  have hl := szC_len l
  simp only [w_heldInstance, w_heldClauseS]
  have := heldC_l (fun z => some z) (fun z => some z) hK l [] K v (by simp; omega) (by omega) hv hb
  simp only [List.nil_append, List.length_nil] at this
  rw [show ((0 : Nat) : Int) = 0 from rfl] at this
  rw [this, some_bind', ite_f (decide_eq_false (by omega))]
/-! sizes -/
def lenC : List DC → Nat
  | [] => 0
  | c :: r => c.2.1.length + lenC r
theorem w_szInt64S_eq {l : List Int} {v : Int} (h0 : 0 ≤ v) (h1 : v < 4611686018427387904) (hl : l.length ≤ 9223372036854775807) : w_szInt64S K (l, v, ()) = some (if v < l.length then -1 else v - l.length) := by
  simp only [w_szInt64S]
  rw [w64 (x := v - l.length) (by omega) (by omega)]
  by_cases h : v < l.length
  · rw [ite_t (decide_eq_true (by omega)), if_pos h]
  · rw [ite_f (decide_eq_false (by omega)), if_neg h]
theorem szC_l (kx kr : Int → Option R) : ∀ (r p : List DC) (k : Nat) (v : Int), (∀ c ∈ r, c.2.1.length ≤ 9223372036854775807) → (p ++ r).length < 4611686018427387904 → r.length < k → 0 ≤ v → v < 4611686018427387904 → w_szClauseS_l5 K k (p ++ r) v (p.length : Int) kx kr = if v < lenC r then kr (-1) else kx (v - lenC r)
  | [], p, k + 1, v, _, hl, _, h0, h1 => by simp only [w_szClauseS_l5]; rw [ite_f nlt_len, if_neg (by simp [lenC]; omega)]; simp [lenC]
  | y :: r, p, k + 1, v, hc, hl, hk, h0, h1 => by
    simp only [List.length_cons] at hk
    simp only [w_szClauseS_l5, w_szClause]
    rw [ite_t lt_len, ite_t bnds_mid, getD_midI, w_szInt64S_eq h0 h1 (hc y (by simp)), some_bind']
    by_cases h : v < y.2.1.length
    · rw [if_pos h, if_pos (by decide), some_bind', if_pos (by decide), if_pos (by simp only [lenC, Int.natCast_add]; omega)]
    · rw [if_neg h, ite_f (decide_eq_false (by omega)), some_bind', ite_f (decide_eq_false (by omega)), next_i hl, mid_app]
      rw [szC_l kx kr r (p ++ [y]) k _ (fun c h => hc c (by simp [h])) (by simp at hl ⊢; omega) (by omega) (by omega) (by omega)]
      rw [show ((lenC (y :: r) : Nat) : Int) = (y.2.1.length : Int) + (lenC r : Int) from by simp [lenC]]
      by_cases h2 : v - y.2.1.length < lenC r
      · rw [if_pos h2, if_pos (by omega)]
      · rw [if_neg h2, if_neg (by omega)]; congr 1; omega
theorem w_szInstance_eq {x : DX} {v : Int} (h0 : 0 ≤ v) (h1 : v < 1099511627776) (hK : 4611686018427387904 ≤ K) (hx : x.2.1.length ≤ 9223372036854775807) (hc : ∀ c ∈ x.2.1, c.2.1.length ≤ 9223372036854775807) :
    ∃ r, w_szInstance K (x, v, ()) = some r ∧ (0 ≤ r → (x.2.1.length + lenC x.2.1 : Int) ≤ v) := by
  simp only [w_szInstance, w_szClauseS]
  rw [w64 (x := v - x.2.1.length) (by omega) (by omega)]
  by_cases h : v < x.2.1.length
  · refine ⟨-1, ?_, fun h => by omega⟩
    rw [ite_t (decide_eq_true (by omega)), some_bind', if_pos (by decide)]
  · rw [ite_f (decide_eq_false (by omega))]
    have := szC_l (K := K) (fun z => some z) (fun z => some z) x.2.1 [] K (v - x.2.1.length) hc (by simp; omega) (by omega) (by omega) (by omega)
    simp only [List.nil_append, List.length_nil] at this
    rw [show ((0 : Nat) : Int) = 0 from rfl] at this
    rw [this]
    by_cases h2 : v - x.2.1.length < lenC x.2.1
    · refine ⟨-1, ?_, fun h => by omega⟩
      rw [if_pos h2, some_bind', if_pos (by decide)]
    · refine ⟨v - x.2.1.length - lenC x.2.1, ?_, fun h => by omega⟩
      rw [if_neg h2, some_bind', ite_f (decide_eq_false (by omega))]
theorem lenC_mem : ∀ (l : List DC) (c : DC), c ∈ l → c.2.1.length ≤ lenC l
  | a :: r, c, h => by
    rcases List.mem_cons.1 h with rfl | h
    · simp [lenC]
    · have := lenC_mem r c h; simp [lenC]; omega
theorem szC_eq : ∀ (l : List DC), szC l = 2 * l.length + lenC l
  | [] => rfl
  | c :: r => by simp only [szC, lenC, szC_eq r, List.length_cons]; omega
end Go.Proofs.Ytieiajeggahipaa.E
namespace Go.Proofs.Ytieiajeggahipaa.E
open Go Go.Proofs Go.Proofs.Ytieiajeggahipaa
set_option maxRecDepth 100000
set_option linter.unusedVariables false
noncomputable def as_slices_IndexFunc_int64 : Ty := (.pair (.sl (.int .i64)) (.pair (.fn (.pair (.int .i64) .unit) .bool) .unit))
noncomputable def sp_slices_IndexFunc_int64 (F : ((List Int) × ((Int × Unit) → Option Bool) × Unit) → Option Int) : FnSpec := ⟨as_slices_IndexFunc_int64, [false, false], (.int .i64), F⟩
noncomputable def slices_IndexFunc_int64_l2 {R : Type} (K : Nat) : Nat → (List Int) → ((Int × Unit) → Option Bool) → Int → Int → (Option R) → (Int → Option R) → Option R
  | 0, _, _, _, _, _, _ => none
  | k + 1, v0, v1, v7, v8, kx0, kr =>
    (if (decide (v8 < v7)) = true then
    (if (bnds v8 (v0.length : Int)) = true then
    (v1 ((v0.getD v8.toNat (0 : Int)), ())).bind fun y1 =>
    (if y1 = true then
    kr v8
    else
    slices_IndexFunc_int64_l2 K k v0 v1 v7 (IntKind.i64.wrap (v8 + (1 : Int))) kx0 kr)
    else
    none)
    else
    kx0)
noncomputable def slices_IndexFunc_int64 (K : Nat) (x : ((List Int) × ((Int × Unit) → Option Bool) × Unit)) : Option Int :=
    slices_IndexFunc_int64_l2 K K x.1 x.2.1 (x.1.length : Int) (0 : Int) (some (-1 : Int)) (fun z2 =>
    some z2)
noncomputable def lv_slices_IndexFunc_int64_L2 : Lv := [(0, (.v (.sl (.int .i64)))), (1, (.v (.fn (.pair (.int .i64) .unit) .bool))), (7, (.v (.int .i64))), (8, (.v (.int .i64)))]
noncomputable def lv_slices_IndexFunc_int64_X0 : Lv := []
noncomputable def rv_slices_IndexFunc_int64 : Lv := [(4, (.v (.int .i64)))]
noncomputable def gslices_IndexFunc_int64_l2 {R : Type} (K : Nat) (k : Nat) (x : den lv_slices_IndexFunc_int64_L2.ty) (kx : Nat → St → Option R) (kr : St → Option R) : Option R := slices_IndexFunc_int64_l2 K k x.1 x.2.1 x.2.2.1 x.2.2.2.1 (kx 0 (mkSt lv_slices_IndexFunc_int64_X0 ())) (fun z0 => kr (mkSt rv_slices_IndexFunc_int64 (z0, ())))
noncomputable def sg_slices_IndexFunc_int64 {R : Type} (K : Nat) (k : Nat) : List (Nat × SegS R) := []
noncomputable def su_slices_IndexFunc_int64 : List (Nat × Unit) := []
noncomputable def en_slices_IndexFunc_int64 {R : Type} (K : Nat) (k : Nat) : Env R := { L := lk [(2, mkLoop lv_slices_IndexFunc_int64_L2 (gslices_IndexFunc_int64_l2 K k))], X := lk [(0, lv_slices_IndexFunc_int64_X0)], S := lk (sg_slices_IndexFunc_int64 K k), rv := rv_slices_IndexFunc_int64 }
noncomputable def cf_slices_IndexFunc_int64 (K : Nat) : Cfg := { ty := lk tys, fn := lk [], prot := 0, nt := Try.f128.ntmps }
noncomputable def c_slices_IndexFunc_int64_L2 : Code := nthC (partsOf (hasK su_slices_IndexFunc_int64) (bodyOf Try.f128)) 0
theorem eslices_IndexFunc_int64_l2 {R : Type} (K : Nat) (k : Nat) (x : den lv_slices_IndexFunc_int64_L2.ty) (kx : Nat → St → Option R) (kr : St → Option R) : gslices_IndexFunc_int64_l2 K (k + 1) x kx kr = evC (cf_slices_IndexFunc_int64 K) (en_slices_IndexFunc_int64 K k) c_slices_IndexFunc_int64_L2 (mkSt lv_slices_IndexFunc_int64_L2 x) (fun s => mkLoop lv_slices_IndexFunc_int64_L2 (gslices_IndexFunc_int64_l2 K k) s kx kr) kx kr := by kernel_rfl
theorem sslices_IndexFunc_int64_l2 {R : Type} (K : Nat) (C : Cx) (hP : C.P = Try.prog) (O : CfgOk C (cf_slices_IndexFunc_int64 K)) (k : Nat) : LpS C (R := R) (mkLoop lv_slices_IndexFunc_int64_L2 (gslices_IndexFunc_int64_l2 K k)) c_slices_IndexFunc_int64_L2 :=
  loop_sound O (by rw [hP]; kernel_rfl) (fun x kx kr => rfl) (eslices_IndexFunc_int64_l2 K) (fun k => lpOk_of (en := en_slices_IndexFunc_int64 K k) (S := hasK su_slices_IndexFunc_int64) (fun i => hasK_lk (sg_slices_IndexFunc_int64 K k) i) _ (by rw [show partsOf (hasK su_slices_IndexFunc_int64) c_slices_IndexFunc_int64_L2 = [] from by kernel_rfl]; exact trivial)) k
theorem e_slices_IndexFunc_int64 (K : Nat) (x : den as_slices_IndexFunc_int64) : slices_IndexFunc_int64 K x = evFn (cf_slices_IndexFunc_int64 K) as_slices_IndexFunc_int64 [false, false] (.int .i64) (en_slices_IndexFunc_int64 K K) Try.f128.results.toList (bodyOf Try.f128) x := by kernel_rfl
theorem ok_slices_IndexFunc_int64 (K : Nat) : FnOk Try.prog 128 (sp_slices_IndexFunc_int64 (slices_IndexFunc_int64 K)) :=
  fn_ok (cf := cf_slices_IndexFunc_int64 K) (en := en_slices_IndexFunc_int64 K K) (c := bodyOf Try.f128) Try.func128 (by kernel_rfl) (by kernel_rfl) tysOk (fns_ok (l := []) trivial) (by kernel_rfl) rfl (Nat.le_of_ble_eq_true (by kernel_rfl)) (by kernel_rfl) (of_decide_eq_true (by kernel_rfl)) (by decide) (fun C hP O => lpOk_of (en := en_slices_IndexFunc_int64 K K) (S := hasK su_slices_IndexFunc_int64) (fun i => hasK_lk (sg_slices_IndexFunc_int64 K K) i) _ (by rw [show partsOf (hasK su_slices_IndexFunc_int64) (bodyOf Try.f128) = [(true, c_slices_IndexFunc_int64_L2)] from by kernel_rfl]; exact (lpL_loop (f := mkLoop lv_slices_IndexFunc_int64_L2 (gslices_IndexFunc_int64_l2 K K)) (by kernel_rfl) (sslices_IndexFunc_int64_l2 K C hP O K) trivial))) (fun x y h => by rw [← e_slices_IndexFunc_int64]; exact h)
noncomputable def as_slices_ContainsFunc_int64 : Ty := (.pair (.sl (.int .i64)) (.pair (.fn (.pair (.int .i64) .unit) .bool) .unit))
noncomputable def sp_slices_ContainsFunc_int64 (F : ((List Int) × ((Int × Unit) → Option Bool) × Unit) → Option Bool) : FnSpec := ⟨as_slices_ContainsFunc_int64, [false, false], .bool, F⟩
noncomputable def slices_ContainsFunc_int64 (K : Nat) (x : ((List Int) × ((Int × Unit) → Option Bool) × Unit)) : Option Bool :=
    (slices_IndexFunc_int64 K (x.1, x.2.1, ())).bind fun y1 =>
    some (decide (y1 ≥ (0 : Int)))
noncomputable def rv_slices_ContainsFunc_int64 : Lv := [(4, (.v .bool))]
noncomputable def sg_slices_ContainsFunc_int64 {R : Type} (K : Nat) (k : Nat) : List (Nat × SegS R) := []
noncomputable def su_slices_ContainsFunc_int64 : List (Nat × Unit) := []
noncomputable def en_slices_ContainsFunc_int64 {R : Type} (K : Nat) (k : Nat) : Env R := { L := lk [], X := lk [], S := lk (sg_slices_ContainsFunc_int64 K k), rv := rv_slices_ContainsFunc_int64 }
noncomputable def cf_slices_ContainsFunc_int64 (K : Nat) : Cfg := { ty := lk tys, fn := lk [(128, sp_slices_IndexFunc_int64 (slices_IndexFunc_int64 K))], prot := 0, nt := Try.f97.ntmps }
theorem e_slices_ContainsFunc_int64 (K : Nat) (x : den as_slices_ContainsFunc_int64) : slices_ContainsFunc_int64 K x = evFn (cf_slices_ContainsFunc_int64 K) as_slices_ContainsFunc_int64 [false, false] .bool (en_slices_ContainsFunc_int64 K K) Try.f97.results.toList (bodyOf Try.f97) x := by kernel_rfl
theorem ok_slices_ContainsFunc_int64 (K : Nat) : FnOk Try.prog 97 (sp_slices_ContainsFunc_int64 (slices_ContainsFunc_int64 K)) :=
  fn_ok (cf := cf_slices_ContainsFunc_int64 K) (en := en_slices_ContainsFunc_int64 K K) (c := bodyOf Try.f97) Try.func97 (by kernel_rfl) (by kernel_rfl) tysOk (fns_ok (l := [(128, sp_slices_IndexFunc_int64 (slices_IndexFunc_int64 K))]) ⟨ok_slices_IndexFunc_int64 K, trivial⟩) (by kernel_rfl) rfl (Nat.le_of_ble_eq_true (by kernel_rfl)) (by kernel_rfl) (of_decide_eq_true (by kernel_rfl)) (by decide) (fun C hP O => lpOk_of (en := en_slices_ContainsFunc_int64 K K) (S := hasK su_slices_ContainsFunc_int64) (fun i => hasK_lk (sg_slices_ContainsFunc_int64 K K) i) _ (by rw [show partsOf (hasK su_slices_ContainsFunc_int64) (bodyOf Try.f97) = [] from by kernel_rfl]; exact trivial)) (fun x y h => by rw [← e_slices_ContainsFunc_int64]; exact h)
noncomputable def as_slices_IndexFunc_impl_Clause : Ty := (.pair (.sl (.st (.pair (.st (.pair (.int .i64) (.pair (.int .i64) .unit))) (.pair (.sl (.int .i64)) .unit)))) (.pair (.fn (.pair (.st (.pair (.st (.pair (.int .i64) (.pair (.int .i64) .unit))) (.pair (.sl (.int .i64)) .unit))) .unit) .bool) .unit))
noncomputable def sp_slices_IndexFunc_impl_Clause (F : ((List ((Int × Int × Unit) × (List Int) × Unit)) × ((((Int × Int × Unit) × (List Int) × Unit) × Unit) → Option Bool) × Unit) → Option Int) : FnSpec := ⟨as_slices_IndexFunc_impl_Clause, [false, false], (.int .i64), F⟩
noncomputable def slices_IndexFunc_impl_Clause_l2 {R : Type} (K : Nat) : Nat → (List ((Int × Int × Unit) × (List Int) × Unit)) → ((((Int × Int × Unit) × (List Int) × Unit) × Unit) → Option Bool) → Int → Int → (Option R) → (Int → Option R) → Option R
  | 0, _, _, _, _, _, _ => none
  | k + 1, v0, v1, v7, v8, kx0, kr =>
    (if (decide (v8 < v7)) = true then
    (if (bnds v8 (v0.length : Int)) = true then
    let x1 := (v0.getD v8.toNat (((0 : Int), (0 : Int), ()), ([] : List Int), ()))
    (v1 (x1, ())).bind fun y2 =>
    (if y2 = true then
    kr v8
    else
    slices_IndexFunc_impl_Clause_l2 K k v0 v1 v7 (IntKind.i64.wrap (v8 + (1 : Int))) kx0 kr)
    else
    none)
    else
    kx0)
noncomputable def slices_IndexFunc_impl_Clause (K : Nat) (x : ((List ((Int × Int × Unit) × (List Int) × Unit)) × ((((Int × Int × Unit) × (List Int) × Unit) × Unit) → Option Bool) × Unit)) : Option Int :=
    slices_IndexFunc_impl_Clause_l2 K K x.1 x.2.1 (x.1.length : Int) (0 : Int) (some (-1 : Int)) (fun z3 =>
    some z3)
noncomputable def lv_slices_IndexFunc_impl_Clause_L2 : Lv := [(0, (.v (.sl (.st (.pair (.st (.pair (.int .i64) (.pair (.int .i64) .unit))) (.pair (.sl (.int .i64)) .unit)))))), (1, (.v (.fn (.pair (.st (.pair (.st (.pair (.int .i64) (.pair (.int .i64) .unit))) (.pair (.sl (.int .i64)) .unit))) .unit) .bool))), (7, (.v (.int .i64))), (8, (.v (.int .i64)))]
noncomputable def lv_slices_IndexFunc_impl_Clause_X0 : Lv := []
noncomputable def rv_slices_IndexFunc_impl_Clause : Lv := [(4, (.v (.int .i64)))]
noncomputable def gslices_IndexFunc_impl_Clause_l2 {R : Type} (K : Nat) (k : Nat) (x : den lv_slices_IndexFunc_impl_Clause_L2.ty) (kx : Nat → St → Option R) (kr : St → Option R) : Option R := slices_IndexFunc_impl_Clause_l2 K k x.1 x.2.1 x.2.2.1 x.2.2.2.1 (kx 0 (mkSt lv_slices_IndexFunc_impl_Clause_X0 ())) (fun z0 => kr (mkSt rv_slices_IndexFunc_impl_Clause (z0, ())))
noncomputable def sg_slices_IndexFunc_impl_Clause {R : Type} (K : Nat) (k : Nat) : List (Nat × SegS R) := []
noncomputable def su_slices_IndexFunc_impl_Clause : List (Nat × Unit) := []
noncomputable def en_slices_IndexFunc_impl_Clause {R : Type} (K : Nat) (k : Nat) : Env R := { L := lk [(2, mkLoop lv_slices_IndexFunc_impl_Clause_L2 (gslices_IndexFunc_impl_Clause_l2 K k))], X := lk [(0, lv_slices_IndexFunc_impl_Clause_X0)], S := lk (sg_slices_IndexFunc_impl_Clause K k), rv := rv_slices_IndexFunc_impl_Clause }
noncomputable def cf_slices_IndexFunc_impl_Clause (K : Nat) : Cfg := { ty := lk tys, fn := lk [], prot := 0, nt := Try.f139.ntmps }
noncomputable def c_slices_IndexFunc_impl_Clause_L2 : Code := nthC (partsOf (hasK su_slices_IndexFunc_impl_Clause) (bodyOf Try.f139)) 0
theorem eslices_IndexFunc_impl_Clause_l2 {R : Type} (K : Nat) (k : Nat) (x : den lv_slices_IndexFunc_impl_Clause_L2.ty) (kx : Nat → St → Option R) (kr : St → Option R) : gslices_IndexFunc_impl_Clause_l2 K (k + 1) x kx kr = evC (cf_slices_IndexFunc_impl_Clause K) (en_slices_IndexFunc_impl_Clause K k) c_slices_IndexFunc_impl_Clause_L2 (mkSt lv_slices_IndexFunc_impl_Clause_L2 x) (fun s => mkLoop lv_slices_IndexFunc_impl_Clause_L2 (gslices_IndexFunc_impl_Clause_l2 K k) s kx kr) kx kr := by kernel_rfl
theorem sslices_IndexFunc_impl_Clause_l2 {R : Type} (K : Nat) (C : Cx) (hP : C.P = Try.prog) (O : CfgOk C (cf_slices_IndexFunc_impl_Clause K)) (k : Nat) : LpS C (R := R) (mkLoop lv_slices_IndexFunc_impl_Clause_L2 (gslices_IndexFunc_impl_Clause_l2 K k)) c_slices_IndexFunc_impl_Clause_L2 :=
  loop_sound O (by rw [hP]; kernel_rfl) (fun x kx kr => rfl) (eslices_IndexFunc_impl_Clause_l2 K) (fun k => lpOk_of (en := en_slices_IndexFunc_impl_Clause K k) (S := hasK su_slices_IndexFunc_impl_Clause) (fun i => hasK_lk (sg_slices_IndexFunc_impl_Clause K k) i) _ (by rw [show partsOf (hasK su_slices_IndexFunc_impl_Clause) c_slices_IndexFunc_impl_Clause_L2 = [] from by kernel_rfl]; exact trivial)) k
theorem e_slices_IndexFunc_impl_Clause (K : Nat) (x : den as_slices_IndexFunc_impl_Clause) : slices_IndexFunc_impl_Clause K x = evFn (cf_slices_IndexFunc_impl_Clause K) as_slices_IndexFunc_impl_Clause [false, false] (.int .i64) (en_slices_IndexFunc_impl_Clause K K) Try.f139.results.toList (bodyOf Try.f139) x := by kernel_rfl
theorem ok_slices_IndexFunc_impl_Clause (K : Nat) : FnOk Try.prog 139 (sp_slices_IndexFunc_impl_Clause (slices_IndexFunc_impl_Clause K)) :=
  fn_ok (cf := cf_slices_IndexFunc_impl_Clause K) (en := en_slices_IndexFunc_impl_Clause K K) (c := bodyOf Try.f139) Try.func139 (by kernel_rfl) (by kernel_rfl) tysOk (fns_ok (l := []) trivial) (by kernel_rfl) rfl (Nat.le_of_ble_eq_true (by kernel_rfl)) (by kernel_rfl) (of_decide_eq_true (by kernel_rfl)) (by decide) (fun C hP O => lpOk_of (en := en_slices_IndexFunc_impl_Clause K K) (S := hasK su_slices_IndexFunc_impl_Clause) (fun i => hasK_lk (sg_slices_IndexFunc_impl_Clause K K) i) _ (by rw [show partsOf (hasK su_slices_IndexFunc_impl_Clause) (bodyOf Try.f139) = [(true, c_slices_IndexFunc_impl_Clause_L2)] from by kernel_rfl]; exact (lpL_loop (f := mkLoop lv_slices_IndexFunc_impl_Clause_L2 (gslices_IndexFunc_impl_Clause_l2 K K)) (by kernel_rfl) (sslices_IndexFunc_impl_Clause_l2 K C hP O K) trivial))) (fun x y h => by rw [← e_slices_IndexFunc_impl_Clause]; exact h)
noncomputable def as_slices_ContainsFunc_impl_Clause : Ty := (.pair (.sl (.st (.pair (.st (.pair (.int .i64) (.pair (.int .i64) .unit))) (.pair (.sl (.int .i64)) .unit)))) (.pair (.fn (.pair (.st (.pair (.st (.pair (.int .i64) (.pair (.int .i64) .unit))) (.pair (.sl (.int .i64)) .unit))) .unit) .bool) .unit))
noncomputable def sp_slices_ContainsFunc_impl_Clause (F : ((List ((Int × Int × Unit) × (List Int) × Unit)) × ((((Int × Int × Unit) × (List Int) × Unit) × Unit) → Option Bool) × Unit) → Option Bool) : FnSpec := ⟨as_slices_ContainsFunc_impl_Clause, [false, false], .bool, F⟩
noncomputable def slices_ContainsFunc_impl_Clause (K : Nat) (x : ((List ((Int × Int × Unit) × (List Int) × Unit)) × ((((Int × Int × Unit) × (List Int) × Unit) × Unit) → Option Bool) × Unit)) : Option Bool :=
    (slices_IndexFunc_impl_Clause K (x.1, x.2.1, ())).bind fun y1 =>
    some (decide (y1 ≥ (0 : Int)))
noncomputable def rv_slices_ContainsFunc_impl_Clause : Lv := [(4, (.v .bool))]
noncomputable def sg_slices_ContainsFunc_impl_Clause {R : Type} (K : Nat) (k : Nat) : List (Nat × SegS R) := []
noncomputable def su_slices_ContainsFunc_impl_Clause : List (Nat × Unit) := []
noncomputable def en_slices_ContainsFunc_impl_Clause {R : Type} (K : Nat) (k : Nat) : Env R := { L := lk [], X := lk [], S := lk (sg_slices_ContainsFunc_impl_Clause K k), rv := rv_slices_ContainsFunc_impl_Clause }
noncomputable def cf_slices_ContainsFunc_impl_Clause (K : Nat) : Cfg := { ty := lk tys, fn := lk [(139, sp_slices_IndexFunc_impl_Clause (slices_IndexFunc_impl_Clause K))], prot := 0, nt := Try.f121.ntmps }
theorem e_slices_ContainsFunc_impl_Clause (K : Nat) (x : den as_slices_ContainsFunc_impl_Clause) : slices_ContainsFunc_impl_Clause K x = evFn (cf_slices_ContainsFunc_impl_Clause K) as_slices_ContainsFunc_impl_Clause [false, false] .bool (en_slices_ContainsFunc_impl_Clause K K) Try.f121.results.toList (bodyOf Try.f121) x := by kernel_rfl
theorem ok_slices_ContainsFunc_impl_Clause (K : Nat) : FnOk Try.prog 121 (sp_slices_ContainsFunc_impl_Clause (slices_ContainsFunc_impl_Clause K)) :=
  fn_ok (cf := cf_slices_ContainsFunc_impl_Clause K) (en := en_slices_ContainsFunc_impl_Clause K K) (c := bodyOf Try.f121) Try.func121 (by kernel_rfl) (by kernel_rfl) tysOk (fns_ok (l := [(139, sp_slices_IndexFunc_impl_Clause (slices_IndexFunc_impl_Clause K))]) ⟨ok_slices_IndexFunc_impl_Clause K, trivial⟩) (by kernel_rfl) rfl (Nat.le_of_ble_eq_true (by kernel_rfl)) (by kernel_rfl) (of_decide_eq_true (by kernel_rfl)) (by decide) (fun C hP O => lpOk_of (en := en_slices_ContainsFunc_impl_Clause K K) (S := hasK su_slices_ContainsFunc_impl_Clause) (fun i => hasK_lk (sg_slices_ContainsFunc_impl_Clause K K) i) _ (by rw [show partsOf (hasK su_slices_ContainsFunc_impl_Clause) (bodyOf Try.f121) = [] from by kernel_rfl]; exact trivial)) (fun x y h => by rw [← e_slices_ContainsFunc_impl_Clause]; exact h)
end Go.Proofs.Ytieiajeggahipaa.E
namespace Go.Proofs.Ytieiajeggahipaa.E
open Go Go.Proofs
set_option linter.unusedVariables false
set_option linter.unusedSimpArgs false
variable {K : Nat} {R : Type}
theorem idx_int64_l (f : Int × Unit → Option Bool) (g : Int → Bool) (l : List Int) (hl : l.length < 4611686018427387904) (kx : Option R) (kr : Int → Option R) : ∀ (r p : List Int) (k : Nat), l = p ++ r → r.length < k → (∀ x ∈ r, f (x, ()) = some (g x)) →
    slices_IndexFunc_int64_l2 K k l f (l.length : Int) (p.length : Int) kx kr = match r.findIdx? g with | some j => kr ((p.length + j : Nat) : Int) | none => kx
  | [], p, k + 1, h, _, _ => by subst h; simp only [slices_IndexFunc_int64_l2]; rw [ite_f nlt_len]; rfl
  | y :: r, p, k + 1, h, hk, hf => by
    subst h
    simp only [slices_IndexFunc_int64_l2]
    rw [ite_t lt_len, ite_t bnds_mid, getD_midI, hf y (by simp), some_bind', List.findIdx?_cons]
    cases hg : g y
    · rw [if_neg (by decide), if_neg (by decide), next_i hl, idx_int64_l f g _ hl kx kr r (p ++ [y]) k (mid_app p r y) (by simp at hk; omega) (fun x hx => hf x (by simp [hx]))]
      cases hr : r.findIdx? g
      · rfl
      · simp only [Option.map_some]; congr 1; simp; omega
    · rw [if_pos rfl, if_pos rfl]; rfl
theorem slices_IndexFunc_int64_eq (f : Int × Unit → Option Bool) (g : Int → Bool) {l : List Int} (hl : l.length < 4611686018427387904) (hK : 4611686018427387904 ≤ K) (hf : ∀ x ∈ l, f (x, ()) = some (g x)) :
    slices_IndexFunc_int64 K (l, f, ()) = some (match l.findIdx? g with | some j => (j : Int) | none => -1) := by
  simp only [slices_IndexFunc_int64]
  have := idx_int64_l (K := K) f g l hl (some (-1 : Int)) (fun z => some z) l [] K rfl (by omega) hf
  simp only [List.length_nil, Nat.zero_add] at this
  rw [show ((0 : Nat) : Int) = 0 from rfl] at this
  rw [this]; cases l.findIdx? g <;> rfl
theorem slices_ContainsFunc_int64_eq (f : Int × Unit → Option Bool) (g : Int → Bool) {l : List Int} (hl : l.length < 4611686018427387904) (hK : 4611686018427387904 ≤ K) (hf : ∀ x ∈ l, f (x, ()) = some (g x)) :
    slices_ContainsFunc_int64 K (l, f, ()) = some (l.any g) := by
  simp only [slices_ContainsFunc_int64]
  rw [slices_IndexFunc_int64_eq f g hl hK hf, some_bind', ← List.findIdx?_isSome]
  cases l.findIdx? g <;> simp
theorem idx_impl_Clause_l (f : DC × Unit → Option Bool) (g : DC → Bool) (l : List DC) (hl : l.length < 4611686018427387904) (kx : Option R) (kr : Int → Option R) : ∀ (r p : List DC) (k : Nat), l = p ++ r → r.length < k → (∀ x ∈ r, f (x, ()) = some (g x)) →
    slices_IndexFunc_impl_Clause_l2 K k l f (l.length : Int) (p.length : Int) kx kr = match r.findIdx? g with | some j => kr ((p.length + j : Nat) : Int) | none => kx
  | [], p, k + 1, h, _, _ => by subst h; simp only [slices_IndexFunc_impl_Clause_l2]; rw [ite_f nlt_len]; rfl
  | y :: r, p, k + 1, h, hk, hf => by
    subst h
    simp only [slices_IndexFunc_impl_Clause_l2]
    rw [ite_t lt_len, ite_t bnds_mid, getD_midI, hf y (by simp), some_bind', List.findIdx?_cons]
    cases hg : g y
    · rw [if_neg (by decide), if_neg (by decide), next_i hl, idx_impl_Clause_l f g _ hl kx kr r (p ++ [y]) k (mid_app p r y) (by simp at hk; omega) (fun x hx => hf x (by simp [hx]))]
      cases hr : r.findIdx? g
      · rfl
      · simp only [Option.map_some]; congr 1; simp; omega
    · rw [if_pos rfl, if_pos rfl]; rfl
theorem slices_IndexFunc_impl_Clause_eq (f : DC × Unit → Option Bool) (g : DC → Bool) {l : List DC} (hl : l.length < 4611686018427387904) (hK : 4611686018427387904 ≤ K) (hf : ∀ x ∈ l, f (x, ()) = some (g x)) :
    slices_IndexFunc_impl_Clause K (l, f, ()) = some (match l.findIdx? g with | some j => (j : Int) | none => -1) := by
  simp only [slices_IndexFunc_impl_Clause]
  have := idx_impl_Clause_l (K := K) f g l hl (some (-1 : Int)) (fun z => some z) l [] K rfl (by omega) hf
  simp only [List.length_nil, Nat.zero_add] at this
  rw [show ((0 : Nat) : Int) = 0 from rfl] at this
  rw [this]; cases l.findIdx? g <;> rfl
theorem slices_ContainsFunc_impl_Clause_eq (f : DC × Unit → Option Bool) (g : DC → Bool) {l : List DC} (hl : l.length < 4611686018427387904) (hK : 4611686018427387904 ≤ K) (hf : ∀ x ∈ l, f (x, ()) = some (g x)) :
    slices_ContainsFunc_impl_Clause K (l, f, ()) = some (l.any g) := by
  simp only [slices_ContainsFunc_impl_Clause]
  rw [slices_IndexFunc_impl_Clause_eq f g hl hK hf, some_bind', ← List.findIdx?_isSome]
  cases l.findIdx? g <;> simp
end Go.Proofs.Ytieiajeggahipaa.E
namespace Go.Proofs.Ytieiajeggahipaa.E
open Go Go.Proofs Go.Proofs.Ytieiajeggahipaa
set_option maxRecDepth 100000
set_option linter.unusedVariables false
noncomputable def as_i_IsInstance_c1_c1 : Ty := (.pair (.int .i64) (.pair (.ptr (.st (.pair (.int .i64) (.pair (.sl (.st (.pair (.st (.pair (.int .i64) (.pair (.int .i64) .unit))) (.pair (.sl (.int .i64)) .unit)))) .unit)))) .unit))
noncomputable def sp_i_IsInstance_c1_c1 (F : (Int × (Int × (List ((Int × Int × Unit) × (List Int) × Unit)) × Unit) × Unit) → Option Bool) : FnSpec := ⟨as_i_IsInstance_c1_c1, [false, false], .bool, F⟩
noncomputable def i_IsInstance_c1_c1 (K : Nat) (x : (Int × (Int × (List ((Int × Int × Unit) × (List Int) × Unit)) × Unit) × Unit)) : Option Bool :=
    (i_within K (x.1, (0 : Int), (IntKind.i64.wrap (x.2.1.1 - (1 : Int))), ())).bind fun y1 =>
    some (!y1)
noncomputable def rv_i_IsInstance_c1_c1 : Lv := [(3, (.v .bool))]
noncomputable def sg_i_IsInstance_c1_c1 {R : Type} (K : Nat) (k : Nat) : List (Nat × SegS R) := []
noncomputable def su_i_IsInstance_c1_c1 : List (Nat × Unit) := []
noncomputable def en_i_IsInstance_c1_c1 {R : Type} (K : Nat) (k : Nat) : Env R := { L := lk [], X := lk [], S := lk (sg_i_IsInstance_c1_c1 K k), rv := rv_i_IsInstance_c1_c1 }
noncomputable def cf_i_IsInstance_c1_c1 (K : Nat) : Cfg := { ty := lk tys, fn := lk [(79, sp_i_within (i_within K))], prot := 0, nt := Try.f123.ntmps }
theorem e_i_IsInstance_c1_c1 (K : Nat) (x : den as_i_IsInstance_c1_c1) : i_IsInstance_c1_c1 K x = evFn (cf_i_IsInstance_c1_c1 K) as_i_IsInstance_c1_c1 [false, false] .bool (en_i_IsInstance_c1_c1 K K) Try.f123.results.toList (bodyOf Try.f123) x := by kernel_rfl
theorem ok_i_IsInstance_c1_c1 (K : Nat) : FnOk Try.prog 123 (sp_i_IsInstance_c1_c1 (i_IsInstance_c1_c1 K)) :=
  fn_ok (cf := cf_i_IsInstance_c1_c1 K) (en := en_i_IsInstance_c1_c1 K K) (c := bodyOf Try.f123) Try.func123 (by kernel_rfl) (by kernel_rfl) tysOk (fns_ok (l := [(79, sp_i_within (i_within K))]) ⟨ok_i_within K, trivial⟩) (by kernel_rfl) rfl (Nat.le_of_ble_eq_true (by kernel_rfl)) (by kernel_rfl) (of_decide_eq_true (by kernel_rfl)) (by decide) (fun C hP O => lpOk_of (en := en_i_IsInstance_c1_c1 K K) (S := hasK su_i_IsInstance_c1_c1) (fun i => hasK_lk (sg_i_IsInstance_c1_c1 K K) i) _ (by rw [show partsOf (hasK su_i_IsInstance_c1_c1) (bodyOf Try.f123) = [] from by kernel_rfl]; exact trivial)) (fun x y h => by rw [← e_i_IsInstance_c1_c1]; exact h)
noncomputable def as_i_IsInstance_c1 : Ty := (.pair (.st (.pair (.st (.pair (.int .i64) (.pair (.int .i64) .unit))) (.pair (.sl (.int .i64)) .unit))) (.pair (.ptr (.st (.pair (.int .i64) (.pair (.sl (.st (.pair (.st (.pair (.int .i64) (.pair (.int .i64) .unit))) (.pair (.sl (.int .i64)) .unit)))) .unit)))) .unit))
noncomputable def sp_i_IsInstance_c1 (F : (((Int × Int × Unit) × (List Int) × Unit) × (Int × (List ((Int × Int × Unit) × (List Int) × Unit)) × Unit) × Unit) → Option Bool) : FnSpec := ⟨as_i_IsInstance_c1, [false, false], .bool, F⟩
noncomputable def i_IsInstance_c1 (K : Nat) (x : (((Int × Int × Unit) × (List Int) × Unit) × (Int × (List ((Int × Int × Unit) × (List Int) × Unit)) × Unit) × Unit)) : Option Bool :=
    (i_IsRelation K (x.1.1, ())).bind fun y1 =>
    (if (!y1) = true then
    some true
    else
    (if (!decide ((x.1.2.1.length : Int) = x.1.1.1)) = true then
    some true
    else
    (slices_ContainsFunc_int64 K (x.1.2.1, (fun y3 => i_IsInstance_c1_c1 K (y3.1, x.2.1, ())), ())).bind fun y2 =>
    some y2))
noncomputable def rv_i_IsInstance_c1 : Lv := [(3, (.v .bool))]
noncomputable def sg_i_IsInstance_c1 {R : Type} (K : Nat) (k : Nat) : List (Nat × SegS R) := []
noncomputable def su_i_IsInstance_c1 : List (Nat × Unit) := []
noncomputable def en_i_IsInstance_c1 {R : Type} (K : Nat) (k : Nat) : Env R := { L := lk [], X := lk [], S := lk (sg_i_IsInstance_c1 K k), rv := rv_i_IsInstance_c1 }
noncomputable def cf_i_IsInstance_c1 (K : Nat) : Cfg := { ty := lk tys, fn := lk [(97, sp_slices_ContainsFunc_int64 (slices_ContainsFunc_int64 K)), (108, sp_i_IsRelation (i_IsRelation K)), (123, sp_i_IsInstance_c1_c1 (i_IsInstance_c1_c1 K))], prot := 0, nt := Try.f122.ntmps }
theorem e_i_IsInstance_c1 (K : Nat) (x : den as_i_IsInstance_c1) : i_IsInstance_c1 K x = evFn (cf_i_IsInstance_c1 K) as_i_IsInstance_c1 [false, false] .bool (en_i_IsInstance_c1 K K) Try.f122.results.toList (bodyOf Try.f122) x := by kernel_rfl
theorem ok_i_IsInstance_c1 (K : Nat) : FnOk Try.prog 122 (sp_i_IsInstance_c1 (i_IsInstance_c1 K)) :=
  fn_ok (cf := cf_i_IsInstance_c1 K) (en := en_i_IsInstance_c1 K K) (c := bodyOf Try.f122) Try.func122 (by kernel_rfl) (by kernel_rfl) tysOk (fns_ok (l := [(97, sp_slices_ContainsFunc_int64 (slices_ContainsFunc_int64 K)), (108, sp_i_IsRelation (i_IsRelation K)), (123, sp_i_IsInstance_c1_c1 (i_IsInstance_c1_c1 K))]) ⟨ok_slices_ContainsFunc_int64 K, ⟨ok_i_IsRelation K, ⟨ok_i_IsInstance_c1_c1 K, trivial⟩⟩⟩) (by kernel_rfl) rfl (Nat.le_of_ble_eq_true (by kernel_rfl)) (by kernel_rfl) (of_decide_eq_true (by kernel_rfl)) (by decide) (fun C hP O => lpOk_of (en := en_i_IsInstance_c1 K K) (S := hasK su_i_IsInstance_c1) (fun i => hasK_lk (sg_i_IsInstance_c1 K K) i) _ (by rw [show partsOf (hasK su_i_IsInstance_c1) (bodyOf Try.f122) = [] from by kernel_rfl]; exact trivial)) (fun x y h => by rw [← e_i_IsInstance_c1]; exact h)
noncomputable def as_i_IsInstance : Ty := (.pair (.st (.pair (.int .i64) (.pair (.sl (.st (.pair (.st (.pair (.int .i64) (.pair (.int .i64) .unit))) (.pair (.sl (.int .i64)) .unit)))) .unit))) .unit)
noncomputable def sp_i_IsInstance (F : ((Int × (List ((Int × Int × Unit) × (List Int) × Unit)) × Unit) × Unit) → Option Bool) : FnSpec := ⟨as_i_IsInstance, [false], .bool, F⟩
noncomputable def i_IsInstance (K : Nat) (x : ((Int × (List ((Int × Int × Unit) × (List Int) × Unit)) × Unit) × Unit)) : Option Bool :=
    (i_within K (x.1.1, (0 : Int), (8 : Int), ())).bind fun y1 =>
    (if y1 = true then
    (if (decide ((x.1.2.1.length : Int) ≤ (12 : Int))) = true then
    (slices_ContainsFunc_impl_Clause K (x.1.2.1, (fun y3 => i_IsInstance_c1 K (y3.1, x.1, ())), ())).bind fun y2 =>
    some (!y2)
    else
    some false)
    else
    some false)
noncomputable def rv_i_IsInstance : Lv := [(2, (.v .bool))]
noncomputable def sg_i_IsInstance {R : Type} (K : Nat) (k : Nat) : List (Nat × SegS R) := []
noncomputable def su_i_IsInstance : List (Nat × Unit) := []
noncomputable def en_i_IsInstance {R : Type} (K : Nat) (k : Nat) : Env R := { L := lk [], X := lk [], S := lk (sg_i_IsInstance K k), rv := rv_i_IsInstance }
noncomputable def cf_i_IsInstance (K : Nat) : Cfg := { ty := lk tys, fn := lk [(79, sp_i_within (i_within K)), (121, sp_slices_ContainsFunc_impl_Clause (slices_ContainsFunc_impl_Clause K)), (122, sp_i_IsInstance_c1 (i_IsInstance_c1 K))], prot := 0, nt := Try.f78.ntmps }
theorem e_i_IsInstance (K : Nat) (x : den as_i_IsInstance) : i_IsInstance K x = evFn (cf_i_IsInstance K) as_i_IsInstance [false] .bool (en_i_IsInstance K K) Try.f78.results.toList (bodyOf Try.f78) x := by kernel_rfl
theorem ok_i_IsInstance (K : Nat) : FnOk Try.prog 78 (sp_i_IsInstance (i_IsInstance K)) :=
  fn_ok (cf := cf_i_IsInstance K) (en := en_i_IsInstance K K) (c := bodyOf Try.f78) Try.func78 (by kernel_rfl) (by kernel_rfl) tysOk (fns_ok (l := [(79, sp_i_within (i_within K)), (121, sp_slices_ContainsFunc_impl_Clause (slices_ContainsFunc_impl_Clause K)), (122, sp_i_IsInstance_c1 (i_IsInstance_c1 K))]) ⟨ok_i_within K, ⟨ok_slices_ContainsFunc_impl_Clause K, ⟨ok_i_IsInstance_c1 K, trivial⟩⟩⟩) (by kernel_rfl) rfl (Nat.le_of_ble_eq_true (by kernel_rfl)) (by kernel_rfl) (of_decide_eq_true (by kernel_rfl)) (by decide) (fun C hP O => lpOk_of (en := en_i_IsInstance K K) (S := hasK su_i_IsInstance) (fun i => hasK_lk (sg_i_IsInstance K K) i) _ (by rw [show partsOf (hasK su_i_IsInstance) (bodyOf Try.f78) = [] from by kernel_rfl]; exact trivial)) (fun x y h => by rw [← e_i_IsInstance]; exact h)
noncomputable def as_s_l09Is : Ty := (.pair (.st (.pair (.int .i64) (.pair (.sl (.st (.pair (.st (.pair (.int .i64) (.pair (.int .i64) .unit))) (.pair (.sl (.int .i64)) .unit)))) .unit))) .unit)
noncomputable def sp_s_l09Is (F : ((Int × (List ((Int × Int × Unit) × (List Int) × Unit)) × Unit) × Unit) → Option Bool) : FnSpec := ⟨as_s_l09Is, [false], .bool, F⟩
noncomputable def s_l09Is_l10 {R : Type} (K : Nat) : Nat → (Int × (List ((Int × Int × Unit) × (List Int) × Unit)) × Unit) → Int → ((Int × Int × Unit) × (List Int) × Unit) → Int → ((Int × (List ((Int × Int × Unit) × (List Int) × Unit)) × Unit) → Int → Option R) → (Bool → Option R) → Option R
  | 0, _, _, _, _, _, _ => none
  | k + 1, v1, v3, v4, v5, kx2, kr =>
    (if (decide (v5 < (v4.2.1.length : Int))) = true then
    (if (bnds v5 (v4.2.1.length : Int)) = true then
    (s_l01In K ((v4.2.1.getD v5.toNat (0 : Int)), (0 : Int), (IntKind.i64.wrap (v1.1 - (1 : Int))), ())).bind fun y4 =>
    (if (!y4) = true then
    kr false
    else
    s_l09Is_l10 K k v1 v3 v4 (IntKind.i64.wrap (v5 + (1 : Int))) kx2 kr)
    else
    none)
    else
    kx2 v1 v3)
noncomputable def s_l09Is_j9 {R : Type} (K : Nat) (k : Nat) (v1 : (Int × (List ((Int × Int × Unit) × (List Int) × Unit)) × Unit)) (v3 : Int) (v4 : ((Int × Int × Unit) × (List Int) × Unit)) (kn : (Int × (List ((Int × Int × Unit) × (List Int) × Unit)) × Unit) → Int → Option R) (kr : (Bool → Option R)) : Option R :=
    s_l09Is_l10 K k v1 v3 v4 (0 : Int) (fun z5 z6 =>
    kn z5 z6) (fun z7 =>
    kr z7)
noncomputable def s_l09Is_l4 {R : Type} (K : Nat) : Nat → (Int × (List ((Int × Int × Unit) × (List Int) × Unit)) × Unit) → Int → (Option R) → (Bool → Option R) → Option R
  | 0, _, _, _, _ => none
  | k + 1, v1, v3, kx0, kr =>
    (if (decide (v3 < (v1.2.1.length : Int))) = true then
    (if (bnds v3 (v1.2.1.length : Int)) = true then
    let x2 := (v1.2.1.getD v3.toNat (((0 : Int), (0 : Int), ()), ([] : List Int), ()))
    (s_l06Is K (x2.1, ())).bind fun y3 =>
    (if (!y3) = true then
    kr false
    else
    (if (!decide ((x2.2.1.length : Int) = x2.1.1)) = true then
    kr false
    else
    s_l09Is_j9 K k v1 v3 x2 (fun z8 z9 =>
    s_l09Is_l4 K k z8 (IntKind.i64.wrap (z9 + (1 : Int))) kx0 kr) (fun z10 =>
    kr z10)))
    else
    none)
    else
    kx0)
noncomputable def s_l09Is_j3 {R : Type} (K : Nat) (k : Nat) (v1 : (Int × (List ((Int × Int × Unit) × (List Int) × Unit)) × Unit)) (kn : Option R) (kr : (Bool → Option R)) : Option R :=
    s_l09Is_l4 K k v1 (0 : Int) (kr true) (fun z11 =>
    kr z11)
noncomputable def s_l09Is (K : Nat) (x : ((Int × (List ((Int × Int × Unit) × (List Int) × Unit)) × Unit) × Unit)) : Option Bool :=
    (s_l01In K (x.1.1, (0 : Int), (8 : Int), ())).bind fun y1 =>
    (if (!y1) = true then
    some false
    else
    (if (decide ((x.1.2.1.length : Int) > (12 : Int))) = true then
    some false
    else
    s_l09Is_j3 K K x.1 none (fun z12 =>
    some z12)))
noncomputable def lv_s_l09Is_J3 : Lv := [(1, (.bx (.v (.st (.pair (.int .i64) (.pair (.sl (.st (.pair (.st (.pair (.int .i64) (.pair (.int .i64) .unit))) (.pair (.sl (.int .i64)) .unit)))) .unit))))))]
noncomputable def lv_s_l09Is_J9 : Lv := [(1, (.bx (.v (.st (.pair (.int .i64) (.pair (.sl (.st (.pair (.st (.pair (.int .i64) (.pair (.int .i64) .unit))) (.pair (.sl (.int .i64)) .unit)))) .unit)))))), (3, (.v (.int .i64))), (4, (.bx (.v (.st (.pair (.st (.pair (.int .i64) (.pair (.int .i64) .unit))) (.pair (.sl (.int .i64)) .unit))))))]
noncomputable def lv_s_l09Is_L4 : Lv := [(1, (.bx (.v (.st (.pair (.int .i64) (.pair (.sl (.st (.pair (.st (.pair (.int .i64) (.pair (.int .i64) .unit))) (.pair (.sl (.int .i64)) .unit)))) .unit)))))), (3, (.v (.int .i64)))]
noncomputable def lv_s_l09Is_L10 : Lv := [(1, (.bx (.v (.st (.pair (.int .i64) (.pair (.sl (.st (.pair (.st (.pair (.int .i64) (.pair (.int .i64) .unit))) (.pair (.sl (.int .i64)) .unit)))) .unit)))))), (3, (.v (.int .i64))), (4, (.bx (.v (.st (.pair (.st (.pair (.int .i64) (.pair (.int .i64) .unit))) (.pair (.sl (.int .i64)) .unit)))))), (5, (.v (.int .i64)))]
noncomputable def lv_s_l09Is_N3 : Lv := []
noncomputable def lv_s_l09Is_N9 : Lv := [(1, (.bx (.v (.st (.pair (.int .i64) (.pair (.sl (.st (.pair (.st (.pair (.int .i64) (.pair (.int .i64) .unit))) (.pair (.sl (.int .i64)) .unit)))) .unit)))))), (3, (.v (.int .i64)))]
noncomputable def lv_s_l09Is_X0 : Lv := []
noncomputable def lv_s_l09Is_X2 : Lv := [(1, (.bx (.v (.st (.pair (.int .i64) (.pair (.sl (.st (.pair (.st (.pair (.int .i64) (.pair (.int .i64) .unit))) (.pair (.sl (.int .i64)) .unit)))) .unit)))))), (3, (.v (.int .i64)))]
noncomputable def rv_s_l09Is : Lv := [(2, (.v .bool))]
noncomputable def gs_l09Is_l10 {R : Type} (K : Nat) (k : Nat) (x : den lv_s_l09Is_L10.ty) (kx : Nat → St → Option R) (kr : St → Option R) : Option R := s_l09Is_l10 K k x.1 x.2.1 x.2.2.1 x.2.2.2.1 (fun z0 z1 => kx 2 (mkSt lv_s_l09Is_X2 (z0, z1, ()))) (fun z0 => kr (mkSt rv_s_l09Is (z0, ())))
noncomputable def gs_l09Is_j9 {R : Type} (K : Nat) (k : Nat) (x : den lv_s_l09Is_J9.ty) (kn : den lv_s_l09Is_N9.ty → Option R) (kx : Nat → St → Option R) (kr : St → Option R) : Option R := s_l09Is_j9 K k x.1 x.2.1 x.2.2.1 (fun z0 z1 => kn (z0, z1, ())) (fun z0 => kr (mkSt rv_s_l09Is (z0, ())))
noncomputable def gs_l09Is_l4 {R : Type} (K : Nat) (k : Nat) (x : den lv_s_l09Is_L4.ty) (kx : Nat → St → Option R) (kr : St → Option R) : Option R := s_l09Is_l4 K k x.1 x.2.1 (kx 0 (mkSt lv_s_l09Is_X0 ())) (fun z0 => kr (mkSt rv_s_l09Is (z0, ())))
noncomputable def gs_l09Is_j3 {R : Type} (K : Nat) (k : Nat) (x : den lv_s_l09Is_J3.ty) (kn : den lv_s_l09Is_N3.ty → Option R) (kx : Nat → St → Option R) (kr : St → Option R) : Option R := s_l09Is_j3 K k x.1 (kn ()) (fun z0 => kr (mkSt rv_s_l09Is (z0, ())))
noncomputable def sg_s_l09Is {R : Type} (K : Nat) (k : Nat) : List (Nat × SegS R) := [(9, mkSeg lv_s_l09Is_J9 lv_s_l09Is_N9 (gs_l09Is_j9 K k)), (3, mkSeg lv_s_l09Is_J3 lv_s_l09Is_N3 (gs_l09Is_j3 K k))]
noncomputable def su_s_l09Is : List (Nat × Unit) := [(9, ()), (3, ())]
noncomputable def en_s_l09Is {R : Type} (K : Nat) (k : Nat) : Env R := { L := lk [(10, mkLoop lv_s_l09Is_L10 (gs_l09Is_l10 K k)), (4, mkLoop lv_s_l09Is_L4 (gs_l09Is_l4 K k))], X := lk [(0, lv_s_l09Is_X0), (2, lv_s_l09Is_X2)], S := lk (sg_s_l09Is K k), rv := rv_s_l09Is }
noncomputable def cf_s_l09Is (K : Nat) : Cfg := { ty := lk tys, fn := lk [(52, sp_s_l01In (s_l01In K)), (106, sp_s_l06Is (s_l06Is K))], prot := 0, nt := Try.f64.ntmps }
noncomputable def c_s_l09Is_J3 : Code := nthC (partsOf (hasK su_s_l09Is) (bodyOf Try.f64)) 0
noncomputable def c_s_l09Is_L4 : Code := nthC (partsOf (hasK su_s_l09Is) c_s_l09Is_J3) 0
noncomputable def c_s_l09Is_J9 : Code := nthC (partsOf (hasK su_s_l09Is) c_s_l09Is_L4) 0
noncomputable def c_s_l09Is_L10 : Code := nthC (partsOf (hasK su_s_l09Is) c_s_l09Is_J9) 0
theorem es_l09Is_l10 {R : Type} (K : Nat) (k : Nat) (x : den lv_s_l09Is_L10.ty) (kx : Nat → St → Option R) (kr : St → Option R) : gs_l09Is_l10 K (k + 1) x kx kr = evC (cf_s_l09Is K) (en_s_l09Is K k) c_s_l09Is_L10 (mkSt lv_s_l09Is_L10 x) (fun s => mkLoop lv_s_l09Is_L10 (gs_l09Is_l10 K k) s kx kr) kx kr := by kernel_rfl
theorem ss_l09Is_l10 {R : Type} (K : Nat) (C : Cx) (hP : C.P = Try.prog) (O : CfgOk C (cf_s_l09Is K)) (k : Nat) : LpS C (R := R) (mkLoop lv_s_l09Is_L10 (gs_l09Is_l10 K k)) c_s_l09Is_L10 :=
  loop_sound O (by rw [hP]; kernel_rfl) (fun x kx kr => rfl) (es_l09Is_l10 K) (fun k => lpOk_of (en := en_s_l09Is K k) (S := hasK su_s_l09Is) (fun i => hasK_lk (sg_s_l09Is K k) i) _ (by rw [show partsOf (hasK su_s_l09Is) c_s_l09Is_L10 = [] from by kernel_rfl]; exact trivial)) k
theorem es_l09Is_j9 {R : Type} (K : Nat) (k : Nat) (x : den lv_s_l09Is_J9.ty) (kn : den lv_s_l09Is_N9.ty → Option R) (kx : Nat → St → Option R) (kr : St → Option R) : gs_l09Is_j9 K k x kn kx kr = evC (cf_s_l09Is K) (en_s_l09Is K k) c_s_l09Is_J9 (mkSt lv_s_l09Is_J9 x) (cutK lv_s_l09Is_N9 kn) kx kr := by kernel_rfl
theorem ss_l09Is_j9 {R : Type} (K : Nat) (C : Cx) (hP : C.P = Try.prog) (O : CfgOk C (cf_s_l09Is K)) (k : Nat) : SgS C (R := R) (mkSeg lv_s_l09Is_J9 lv_s_l09Is_N9 (gs_l09Is_j9 K k)) c_s_l09Is_J9 :=
  seg_sound O (by rw [hP]; kernel_rfl) (es_l09Is_j9 K k) (lpOk_of (en := en_s_l09Is K k) (S := hasK su_s_l09Is) (fun i => hasK_lk (sg_s_l09Is K k) i) _ (by rw [show partsOf (hasK su_s_l09Is) c_s_l09Is_J9 = [(true, c_s_l09Is_L10)] from by kernel_rfl]; exact (lpL_loop (f := mkLoop lv_s_l09Is_L10 (gs_l09Is_l10 K k)) (by kernel_rfl) (ss_l09Is_l10 K C hP O k) trivial)))
theorem es_l09Is_l4 {R : Type} (K : Nat) (k : Nat) (x : den lv_s_l09Is_L4.ty) (kx : Nat → St → Option R) (kr : St → Option R) : gs_l09Is_l4 K (k + 1) x kx kr = evC (cf_s_l09Is K) (en_s_l09Is K k) c_s_l09Is_L4 (mkSt lv_s_l09Is_L4 x) (fun s => mkLoop lv_s_l09Is_L4 (gs_l09Is_l4 K k) s kx kr) kx kr := by kernel_rfl
theorem ss_l09Is_l4 {R : Type} (K : Nat) (C : Cx) (hP : C.P = Try.prog) (O : CfgOk C (cf_s_l09Is K)) (k : Nat) : LpS C (R := R) (mkLoop lv_s_l09Is_L4 (gs_l09Is_l4 K k)) c_s_l09Is_L4 :=
  loop_sound O (by rw [hP]; kernel_rfl) (fun x kx kr => rfl) (es_l09Is_l4 K) (fun k => lpOk_of (en := en_s_l09Is K k) (S := hasK su_s_l09Is) (fun i => hasK_lk (sg_s_l09Is K k) i) _ (by rw [show partsOf (hasK su_s_l09Is) c_s_l09Is_L4 = [(false, c_s_l09Is_J9)] from by kernel_rfl]; exact (lpL_seg (f := mkSeg lv_s_l09Is_J9 lv_s_l09Is_N9 (gs_l09Is_j9 K k)) (by kernel_rfl) (ss_l09Is_j9 K C hP O k) trivial))) k
theorem es_l09Is_j3 {R : Type} (K : Nat) (k : Nat) (x : den lv_s_l09Is_J3.ty) (kn : den lv_s_l09Is_N3.ty → Option R) (kx : Nat → St → Option R) (kr : St → Option R) : gs_l09Is_j3 K k x kn kx kr = evC (cf_s_l09Is K) (en_s_l09Is K k) c_s_l09Is_J3 (mkSt lv_s_l09Is_J3 x) (cutK lv_s_l09Is_N3 kn) kx kr := by kernel_rfl
theorem ss_l09Is_j3 {R : Type} (K : Nat) (C : Cx) (hP : C.P = Try.prog) (O : CfgOk C (cf_s_l09Is K)) (k : Nat) : SgS C (R := R) (mkSeg lv_s_l09Is_J3 lv_s_l09Is_N3 (gs_l09Is_j3 K k)) c_s_l09Is_J3 :=
  seg_sound O (by rw [hP]; kernel_rfl) (es_l09Is_j3 K k) (lpOk_of (en := en_s_l09Is K k) (S := hasK su_s_l09Is) (fun i => hasK_lk (sg_s_l09Is K k) i) _ (by rw [show partsOf (hasK su_s_l09Is) c_s_l09Is_J3 = [(true, c_s_l09Is_L4)] from by kernel_rfl]; exact (lpL_loop (f := mkLoop lv_s_l09Is_L4 (gs_l09Is_l4 K k)) (by kernel_rfl) (ss_l09Is_l4 K C hP O k) trivial)))
theorem e_s_l09Is (K : Nat) (x : den as_s_l09Is) : s_l09Is K x = evFn (cf_s_l09Is K) as_s_l09Is [false] .bool (en_s_l09Is K K) Try.f64.results.toList (bodyOf Try.f64) x := by kernel_rfl
theorem ok_s_l09Is (K : Nat) : FnOk Try.prog 64 (sp_s_l09Is (s_l09Is K)) :=
  fn_ok (cf := cf_s_l09Is K) (en := en_s_l09Is K K) (c := bodyOf Try.f64) Try.func64 (by kernel_rfl) (by kernel_rfl) tysOk (fns_ok (l := [(52, sp_s_l01In (s_l01In K)), (106, sp_s_l06Is (s_l06Is K))]) ⟨ok_s_l01In K, ⟨ok_s_l06Is K, trivial⟩⟩) (by kernel_rfl) rfl (Nat.le_of_ble_eq_true (by kernel_rfl)) (by kernel_rfl) (of_decide_eq_true (by kernel_rfl)) (by decide) (fun C hP O => lpOk_of (en := en_s_l09Is K K) (S := hasK su_s_l09Is) (fun i => hasK_lk (sg_s_l09Is K K) i) _ (by rw [show partsOf (hasK su_s_l09Is) (bodyOf Try.f64) = [(false, c_s_l09Is_J3)] from by kernel_rfl]; exact (lpL_seg (f := mkSeg lv_s_l09Is_J3 lv_s_l09Is_N3 (gs_l09Is_j3 K K)) (by kernel_rfl) (ss_l09Is_j3 K C hP O K) trivial))) (fun x y h => by rw [← e_s_l09Is]; exact h)
end Go.Proofs.Ytieiajeggahipaa.E
namespace Go.Proofs.Ytieiajeggahipaa.E
open Go Go.Proofs
set_option linter.unusedVariables false
set_option linter.unusedSimpArgs false
variable {K : Nat} {R : Type}
def inR (m v : Int) : Bool := decide (0 ≤ v) && decide (v ≤ m - 1)
def okC (m : Int) (c : DC) : Bool := isF 1 c.1 && decide ((c.2.1.length : Int) = c.1.1) && c.2.1.all (inR m)
def okX (x : DX) : Bool := decide (0 ≤ x.1) && decide (x.1 ≤ 8) && decide (x.2.1.length ≤ 12) && x.2.1.all (okC x.1)
/-- Lists that are not too long to go through. -/
def shX (x : DX) : Prop := x.2.1.length < 4611686018427387904 ∧ ∀ c ∈ x.2.1, c.2.1.length < 4611686018427387904
theorem not_any_not {α : Type} (l : List α) (g : α → Bool) : (!(l.any fun a => !g a)) = l.all g := by
  induction l with
  | nil => rfl
  | cons a l ih => simp only [List.any_cons, List.all_cons, Bool.not_or, Bool.not_not, ih]
theorem any_not {α : Type} (l : List α) (g : α → Bool) : (l.any fun a => !g a) = !(l.all g) := by rw [← not_any_not, Bool.not_not]
theorem i_IsInstance_c1_c1_eq {x : DX} {v : Int} (h : 0 ≤ x.1 ∧ x.1 ≤ 8) : i_IsInstance_c1_c1 K (v, x, ()) = some (!inR x.1 v) := by
  simp only [i_IsInstance_c1_c1, i_within_eq, some_bind', w64 (show -9223372036854775808 ≤ x.1 - 1 by omega) (show x.1 - 1 < 9223372036854775808 by omega)]
  rfl
theorem i_IsInstance_c1_eq {x : DX} {c : DC} (h : 0 ≤ x.1 ∧ x.1 ≤ 8) (hc : c.2.1.length < 4611686018427387904) (hK : 4611686018427387904 ≤ K) : i_IsInstance_c1 K (c, x, ()) = some (!okC x.1 c) := by
  simp only [i_IsInstance_c1, i_IsRelation_eq, some_bind', okC]
  cases h1 : isF 1 c.1
  · rfl
  · by_cases h2 : (c.2.1.length : Int) = c.1.1
    · rw [ite_f (by rfl), ite_f (by simp [h2]), slices_ContainsFunc_int64_eq _ (fun v => !inR x.1 v) hc hK (fun v _ => i_IsInstance_c1_c1_eq h), some_bind', any_not]
      simp [h2]
    · rw [ite_f (by rfl), ite_t (by simp [h2])]; simp [h2]
theorem i_IsInstance_eq {x : DX} (hx : shX x) (hK : 4611686018427387904 ≤ K) : i_IsInstance K (x, ()) = some (okX x) := by
  simp only [i_IsInstance, i_within_eq, some_bind', okX]
  by_cases h : 0 ≤ x.1 ∧ x.1 ≤ 8
  · rw [ite_t (and_dec.2 h)]
    by_cases h2 : x.2.1.length ≤ 12
    · rw [ite_t (decide_eq_true (by omega)), slices_ContainsFunc_impl_Clause_eq _ (fun c => !okC x.1 c) hx.1 hK (fun c hc => i_IsInstance_c1_eq h (hx.2 c hc) hK), some_bind', not_any_not]
      simp [h.1, h.2, h2]
    · rw [ite_f (decide_eq_false (by omega))]; simp [h2]
  · have e : (decide (0 ≤ x.1) && decide (x.1 ≤ 8)) = false := by cases hb : (decide (0 ≤ x.1) && decide (x.1 ≤ 8)); rfl; exact absurd (and_dec.1 hb) h
    rw [ite_f e, e]; rfl
theorem l09Is_l10 (x : DX) (i : Int) (c : DC) (hl : c.2.1.length < 4611686018427387904) (h8 : 0 ≤ x.1 ∧ x.1 ≤ 8) (kx : DX → Int → Option R) (kr : Bool → Option R) : ∀ (r p : List Int) (k : Nat), c.2.1 = p ++ r → r.length < k →
    s_l09Is_l10 K k x i c (p.length : Int) kx kr = if r.all (inR x.1) = true then kx x i else kr false
  | [], p, k + 1, h, hk => by simp only [s_l09Is_l10]; rw [h, ite_f nlt_len]; rfl
  | y :: r, p, k + 1, h, hk => by
    simp only [s_l09Is_l10]
    rw [h, ite_t lt_len, ite_t bnds_mid, getD_midI, s_l01In_eq, some_bind', w64 (by omega) (by omega), next_i (by rw [← h]; exact hl), l09Is_l10 x i c hl h8 kx kr r (p ++ [y]) k (by rw [h, mid_app]) (by simp at hk; omega)]
    rw [List.all_cons]
    show (if (!inR x.1 y) = true then _ else _) = _
    cases inR x.1 y <;> rfl
theorem l09Is_l4 (x : DX) (hx : shX x) (h8 : 0 ≤ x.1 ∧ x.1 ≤ 8) (kx : Option R) (kr : Bool → Option R) : ∀ (r p : List DC) (k : Nat), x.2.1 = p ++ r → 4611686018427387904 + r.length < k →
    s_l09Is_l4 K k x (p.length : Int) kx kr = if r.all (okC x.1) = true then kx else kr false
  | [], p, k + 1, h, hk => by simp only [s_l09Is_l4]; rw [h, ite_f nlt_len]; rfl
  | y :: r, p, k + 1, h, hk => by
    have hy : y.2.1.length < 4611686018427387904 := hx.2 y (by rw [h]; simp)
    simp only [s_l09Is_l4, s_l09Is_j9]
    rw [h, ite_t lt_len, ite_t bnds_mid, getD_midI, s_l06Is_eq, some_bind']
    have hl10 := l09Is_l10 (K := K) x (p.length : Int) y hy h8 (fun z8 z9 => s_l09Is_l4 K k z8 (IntKind.i64.wrap (z9 + (1 : Int))) kx kr) (fun z10 => kr z10) y.2.1 [] k rfl (by simp at hk; omega)
    simp only [List.length_nil] at hl10
    rw [show ((0 : Nat) : Int) = 0 from rfl] at hl10
    rw [hl10, next_i (by rw [← h]; exact hx.1), l09Is_l4 x hx h8 kx kr r (p ++ [y]) k (by rw [h, mid_app]) (by simp at hk; omega)]
    rw [List.all_cons, okC]
    cases isF 1 y.1
    · rfl
    · by_cases h2 : (y.2.1.length : Int) = y.1.1
      · rw [ite_f (by rfl), ite_f (by simp [h2])]
        rw [decide_eq_true h2]
        cases y.2.1.all (inR x.1) <;> rfl
      · rw [ite_f (by rfl), ite_t (by simp [h2])]; simp [h2]
theorem s_l09Is_eq {x : DX} (hx : shX x) (hK : 9223372036854775808 ≤ K) : s_l09Is K (x, ()) = some (okX x) := by
  simp only [s_l09Is, s_l01In_eq, some_bind', s_l09Is_j3, okX]
  by_cases h : 0 ≤ x.1 ∧ x.1 ≤ 8
  · have e := and_dec.2 h
    rw [ite_f (by rw [e]; rfl)]
    by_cases h2 : x.2.1.length ≤ 12
    · rw [ite_f (decide_eq_false (by omega))]
      have := l09Is_l4 (K := K) x hx h (some true) (fun z11 => some z11) x.2.1 [] K rfl (by have := hx.1; omega)
      simp only [List.length_nil] at this
      rw [show ((0 : Nat) : Int) = 0 from rfl] at this
      rw [this]; simp only [h.1, h.2, h2, decide_true, Bool.true_and]
      cases x.2.1.all (okC x.1) <;> rfl
    · rw [ite_t (decide_eq_true (by omega))]; simp [h2]
  · have e : (decide (0 ≤ x.1) && decide (x.1 ≤ 8)) = false := by cases hb : (decide (0 ≤ x.1) && decide (x.1 ≤ 8)); rfl; exact absurd (and_dec.1 hb) h
    rw [ite_t (by rw [e]; rfl), e]; rfl
end Go.Proofs.Ytieiajeggahipaa.E
namespace Go.Proofs.Ytieiajeggahipaa.E
open Go Go.Proofs Go.Proofs.Ytieiajeggahipaa
set_option maxRecDepth 100000
set_option linter.unusedVariables false
noncomputable def as_i_Clause_satisfied : Ty := (.pair (.st (.pair (.st (.pair (.int .i64) (.pair (.int .i64) .unit))) (.pair (.sl (.int .i64)) .unit))) (.pair (.int .i64) .unit))
noncomputable def sp_i_Clause_satisfied (F : (((Int × Int × Unit) × (List Int) × Unit) × Int × Unit) → Option Bool) : FnSpec := ⟨as_i_Clause_satisfied, [false, false], .bool, F⟩
noncomputable def i_Clause_satisfied_l3 {R : Type} (K : Nat) : Nat → Int → ((Int × Int × Unit) × (List Int) × Unit) → Int → (List Int) → Int → Int → (((Int × Int × Unit) × (List Int) × Unit) → Int → Option R) → Option R
  | 0, _, _, _, _, _, _, _ => none
  | k + 1, v1, v2, v5, v9, v10, v11, kx0 =>
    (if (decide (v11 < v10)) = true then
    (if (bnds v11 (v9.length : Int)) = true then
    (i_bit K (v1, (v9.getD v11.toNat (0 : Int)), ())).bind fun y1 =>
    (if (decide ((0 : Int) ≤ v11)) = true then
    i_Clause_satisfied_l3 K k v1 v2 (bitI .or .i64 v5 (shlI .i64 y1 v11)) v9 v10 (IntKind.i64.wrap (v11 + (1 : Int))) kx0
    else
    none)
    else
    none)
    else
    kx0 v2 v5)
noncomputable def i_Clause_satisfied (K : Nat) (x : (((Int × Int × Unit) × (List Int) × Unit) × Int × Unit)) : Option Bool :=
    i_Clause_satisfied_l3 K K x.2.1 x.1 (0 : Int) x.1.2.1 (x.1.2.1.length : Int) (0 : Int) (fun z2 z3 =>
    (i_Relation_has K (z2.1, z3, ())).bind fun y4 =>
    some y4)
noncomputable def lv_i_Clause_satisfied_L3 : Lv := [(1, (.v (.int .i64))), (2, (.bx (.v (.st (.pair (.st (.pair (.int .i64) (.pair (.int .i64) .unit))) (.pair (.sl (.int .i64)) .unit)))))), (5, (.v (.int .i64))), (9, (.v (.sl (.int .i64)))), (10, (.v (.int .i64))), (11, (.v (.int .i64)))]
noncomputable def lv_i_Clause_satisfied_X0 : Lv := [(2, (.bx (.v (.st (.pair (.st (.pair (.int .i64) (.pair (.int .i64) .unit))) (.pair (.sl (.int .i64)) .unit)))))), (5, (.v (.int .i64)))]
noncomputable def rv_i_Clause_satisfied : Lv := [(4, (.v .bool))]
noncomputable def gi_Clause_satisfied_l3 {R : Type} (K : Nat) (k : Nat) (x : den lv_i_Clause_satisfied_L3.ty) (kx : Nat → St → Option R) (kr : St → Option R) : Option R := i_Clause_satisfied_l3 K k x.1 x.2.1 x.2.2.1 x.2.2.2.1 x.2.2.2.2.1 x.2.2.2.2.2.1 (fun z0 z1 => kx 0 (mkSt lv_i_Clause_satisfied_X0 (z0, z1, ())))
noncomputable def sg_i_Clause_satisfied {R : Type} (K : Nat) (k : Nat) : List (Nat × SegS R) := []
noncomputable def su_i_Clause_satisfied : List (Nat × Unit) := []
noncomputable def en_i_Clause_satisfied {R : Type} (K : Nat) (k : Nat) : Env R := { L := lk [(3, mkLoop lv_i_Clause_satisfied_L3 (gi_Clause_satisfied_l3 K k))], X := lk [(0, lv_i_Clause_satisfied_X0)], S := lk (sg_i_Clause_satisfied K k), rv := rv_i_Clause_satisfied }
noncomputable def cf_i_Clause_satisfied (K : Nat) : Cfg := { ty := lk tys, fn := lk [(93, sp_i_Relation_has (i_Relation_has K)), (96, sp_i_bit (i_bit K))], prot := 0, nt := Try.f80.ntmps }
noncomputable def c_i_Clause_satisfied_L3 : Code := nthC (partsOf (hasK su_i_Clause_satisfied) (bodyOf Try.f80)) 0
theorem ei_Clause_satisfied_l3 {R : Type} (K : Nat) (k : Nat) (x : den lv_i_Clause_satisfied_L3.ty) (kx : Nat → St → Option R) (kr : St → Option R) : gi_Clause_satisfied_l3 K (k + 1) x kx kr = evC (cf_i_Clause_satisfied K) (en_i_Clause_satisfied K k) c_i_Clause_satisfied_L3 (mkSt lv_i_Clause_satisfied_L3 x) (fun s => mkLoop lv_i_Clause_satisfied_L3 (gi_Clause_satisfied_l3 K k) s kx kr) kx kr := by kernel_rfl
theorem si_Clause_satisfied_l3 {R : Type} (K : Nat) (C : Cx) (hP : C.P = Try.prog) (O : CfgOk C (cf_i_Clause_satisfied K)) (k : Nat) : LpS C (R := R) (mkLoop lv_i_Clause_satisfied_L3 (gi_Clause_satisfied_l3 K k)) c_i_Clause_satisfied_L3 :=
  loop_sound O (by rw [hP]; kernel_rfl) (fun x kx kr => rfl) (ei_Clause_satisfied_l3 K) (fun k => lpOk_of (en := en_i_Clause_satisfied K k) (S := hasK su_i_Clause_satisfied) (fun i => hasK_lk (sg_i_Clause_satisfied K k) i) _ (by rw [show partsOf (hasK su_i_Clause_satisfied) c_i_Clause_satisfied_L3 = [] from by kernel_rfl]; exact trivial)) k
theorem e_i_Clause_satisfied (K : Nat) (x : den as_i_Clause_satisfied) : i_Clause_satisfied K x = evFn (cf_i_Clause_satisfied K) as_i_Clause_satisfied [false, false] .bool (en_i_Clause_satisfied K K) Try.f80.results.toList (bodyOf Try.f80) x := by kernel_rfl
theorem ok_i_Clause_satisfied (K : Nat) : FnOk Try.prog 80 (sp_i_Clause_satisfied (i_Clause_satisfied K)) :=
  fn_ok (cf := cf_i_Clause_satisfied K) (en := en_i_Clause_satisfied K K) (c := bodyOf Try.f80) Try.func80 (by kernel_rfl) (by kernel_rfl) tysOk (fns_ok (l := [(93, sp_i_Relation_has (i_Relation_has K)), (96, sp_i_bit (i_bit K))]) ⟨ok_i_Relation_has K, ⟨ok_i_bit K, trivial⟩⟩) (by kernel_rfl) rfl (Nat.le_of_ble_eq_true (by kernel_rfl)) (by kernel_rfl) (of_decide_eq_true (by kernel_rfl)) (by decide) (fun C hP O => lpOk_of (en := en_i_Clause_satisfied K K) (S := hasK su_i_Clause_satisfied) (fun i => hasK_lk (sg_i_Clause_satisfied K K) i) _ (by rw [show partsOf (hasK su_i_Clause_satisfied) (bodyOf Try.f80) = [(true, c_i_Clause_satisfied_L3)] from by kernel_rfl]; exact (lpL_loop (f := mkLoop lv_i_Clause_satisfied_L3 (gi_Clause_satisfied_l3 K K)) (by kernel_rfl) (si_Clause_satisfied_l3 K C hP O K) trivial))) (fun x y h => by rw [← e_i_Clause_satisfied]; exact h)
noncomputable def as_i_Instance_solutions_c1 : Ty := (.pair (.st (.pair (.st (.pair (.int .i64) (.pair (.int .i64) .unit))) (.pair (.sl (.int .i64)) .unit))) (.pair (.ptr (.int .i64)) .unit))
noncomputable def sp_i_Instance_solutions_c1 (F : (((Int × Int × Unit) × (List Int) × Unit) × Int × Unit) → Option Bool) : FnSpec := ⟨as_i_Instance_solutions_c1, [false, false], .bool, F⟩
noncomputable def i_Instance_solutions_c1 (K : Nat) (x : (((Int × Int × Unit) × (List Int) × Unit) × Int × Unit)) : Option Bool :=
    (i_Clause_satisfied K (x.1, x.2.1, ())).bind fun y1 =>
    some (!y1)
noncomputable def rv_i_Instance_solutions_c1 : Lv := [(3, (.v .bool))]
noncomputable def sg_i_Instance_solutions_c1 {R : Type} (K : Nat) (k : Nat) : List (Nat × SegS R) := []
noncomputable def su_i_Instance_solutions_c1 : List (Nat × Unit) := []
noncomputable def en_i_Instance_solutions_c1 {R : Type} (K : Nat) (k : Nat) : Env R := { L := lk [], X := lk [], S := lk (sg_i_Instance_solutions_c1 K k), rv := rv_i_Instance_solutions_c1 }
noncomputable def cf_i_Instance_solutions_c1 (K : Nat) : Cfg := { ty := lk tys, fn := lk [(80, sp_i_Clause_satisfied (i_Clause_satisfied K))], prot := 0, nt := Try.f124.ntmps }
theorem e_i_Instance_solutions_c1 (K : Nat) (x : den as_i_Instance_solutions_c1) : i_Instance_solutions_c1 K x = evFn (cf_i_Instance_solutions_c1 K) as_i_Instance_solutions_c1 [false, false] .bool (en_i_Instance_solutions_c1 K K) Try.f124.results.toList (bodyOf Try.f124) x := by kernel_rfl
theorem ok_i_Instance_solutions_c1 (K : Nat) : FnOk Try.prog 124 (sp_i_Instance_solutions_c1 (i_Instance_solutions_c1 K)) :=
  fn_ok (cf := cf_i_Instance_solutions_c1 K) (en := en_i_Instance_solutions_c1 K K) (c := bodyOf Try.f124) Try.func124 (by kernel_rfl) (by kernel_rfl) tysOk (fns_ok (l := [(80, sp_i_Clause_satisfied (i_Clause_satisfied K))]) ⟨ok_i_Clause_satisfied K, trivial⟩) (by kernel_rfl) rfl (Nat.le_of_ble_eq_true (by kernel_rfl)) (by kernel_rfl) (of_decide_eq_true (by kernel_rfl)) (by decide) (fun C hP O => lpOk_of (en := en_i_Instance_solutions_c1 K K) (S := hasK su_i_Instance_solutions_c1) (fun i => hasK_lk (sg_i_Instance_solutions_c1 K K) i) _ (by rw [show partsOf (hasK su_i_Instance_solutions_c1) (bodyOf Try.f124) = [] from by kernel_rfl]; exact trivial)) (fun x y h => by rw [← e_i_Instance_solutions_c1]; exact h)
noncomputable def as_i_Instance_solutions : Ty := (.pair (.st (.pair (.int .i64) (.pair (.sl (.st (.pair (.st (.pair (.int .i64) (.pair (.int .i64) .unit))) (.pair (.sl (.int .i64)) .unit)))) .unit))) .unit)
noncomputable def sp_i_Instance_solutions (F : ((Int × (List ((Int × Int × Unit) × (List Int) × Unit)) × Unit) × Unit) → Option (List Int)) : FnSpec := ⟨as_i_Instance_solutions, [false], (.sl (.int .i64)), F⟩
noncomputable def i_Instance_solutions_l3 {R : Type} (K : Nat) : Nat → (Int × (List ((Int × Int × Unit) × (List Int) × Unit)) × Unit) → (List Int) → Int → Int → ((List Int) → Option R) → Option R
  | 0, _, _, _, _, _ => none
  | k + 1, v1, v3, v7, v8, kx0 =>
    (if (decide (v8 < v7)) = true then
    (slices_ContainsFunc_impl_Clause K (v1.2.1, (fun y2 => i_Instance_solutions_c1 K (y2.1, v8, ())), ())).bind fun y1 =>
    (if (!y1) = true then
    (if (decide (v3.length + ([v8]).length ≤ lim)) = true then
    let l3 := (v3 ++ [v8])
    i_Instance_solutions_l3 K k v1 l3 v7 (IntKind.i64.wrap (v8 + (1 : Int))) kx0
    else
    none)
    else
    i_Instance_solutions_l3 K k v1 v3 v7 (IntKind.i64.wrap (v8 + (1 : Int))) kx0)
    else
    kx0 v3)
noncomputable def i_Instance_solutions (K : Nat) (x : ((Int × (List ((Int × Int × Unit) × (List Int) × Unit)) × Unit) × Unit)) : Option (List Int) :=
    (if (decide ((0 : Int) ≤ x.1.1)) = true then
    i_Instance_solutions_l3 K K x.1 ([] : List Int) (shlI .i64 (1 : Int) x.1.1) (0 : Int) (fun z4 =>
    some z4)
    else
    none)
noncomputable def lv_i_Instance_solutions_L3 : Lv := [(1, (.bx (.v (.st (.pair (.int .i64) (.pair (.sl (.st (.pair (.st (.pair (.int .i64) (.pair (.int .i64) .unit))) (.pair (.sl (.int .i64)) .unit)))) .unit)))))), (3, (.r (.int .i64))), (7, (.v (.int .i64))), (8, (.v (.int .i64)))]
noncomputable def lv_i_Instance_solutions_X0 : Lv := [(3, (.r (.int .i64)))]
noncomputable def rv_i_Instance_solutions : Lv := [(2, (.r (.int .i64)))]
noncomputable def gi_Instance_solutions_l3 {R : Type} (K : Nat) (k : Nat) (x : den lv_i_Instance_solutions_L3.ty) (kx : Nat → St → Option R) (kr : St → Option R) : Option R := i_Instance_solutions_l3 K k x.1 x.2.1 x.2.2.1 x.2.2.2.1 (fun z0 => kx 0 (mkSt lv_i_Instance_solutions_X0 (z0, ())))
noncomputable def sg_i_Instance_solutions {R : Type} (K : Nat) (k : Nat) : List (Nat × SegS R) := []
noncomputable def su_i_Instance_solutions : List (Nat × Unit) := []
noncomputable def en_i_Instance_solutions {R : Type} (K : Nat) (k : Nat) : Env R := { L := lk [(3, mkLoop lv_i_Instance_solutions_L3 (gi_Instance_solutions_l3 K k))], X := lk [(0, lv_i_Instance_solutions_X0)], S := lk (sg_i_Instance_solutions K k), rv := rv_i_Instance_solutions }
noncomputable def cf_i_Instance_solutions (K : Nat) : Cfg := { ty := lk tys, fn := lk [(121, sp_slices_ContainsFunc_impl_Clause (slices_ContainsFunc_impl_Clause K)), (124, sp_i_Instance_solutions_c1 (i_Instance_solutions_c1 K))], prot := 0, nt := Try.f82.ntmps }
noncomputable def c_i_Instance_solutions_L3 : Code := nthC (partsOf (hasK su_i_Instance_solutions) (bodyOf Try.f82)) 0
theorem ei_Instance_solutions_l3 {R : Type} (K : Nat) (k : Nat) (x : den lv_i_Instance_solutions_L3.ty) (kx : Nat → St → Option R) (kr : St → Option R) : gi_Instance_solutions_l3 K (k + 1) x kx kr = evC (cf_i_Instance_solutions K) (en_i_Instance_solutions K k) c_i_Instance_solutions_L3 (mkSt lv_i_Instance_solutions_L3 x) (fun s => mkLoop lv_i_Instance_solutions_L3 (gi_Instance_solutions_l3 K k) s kx kr) kx kr := by kernel_rfl
theorem si_Instance_solutions_l3 {R : Type} (K : Nat) (C : Cx) (hP : C.P = Try.prog) (O : CfgOk C (cf_i_Instance_solutions K)) (k : Nat) : LpS C (R := R) (mkLoop lv_i_Instance_solutions_L3 (gi_Instance_solutions_l3 K k)) c_i_Instance_solutions_L3 :=
  loop_sound O (by rw [hP]; kernel_rfl) (fun x kx kr => rfl) (ei_Instance_solutions_l3 K) (fun k => lpOk_of (en := en_i_Instance_solutions K k) (S := hasK su_i_Instance_solutions) (fun i => hasK_lk (sg_i_Instance_solutions K k) i) _ (by rw [show partsOf (hasK su_i_Instance_solutions) c_i_Instance_solutions_L3 = [] from by kernel_rfl]; exact trivial)) k
theorem e_i_Instance_solutions (K : Nat) (x : den as_i_Instance_solutions) : i_Instance_solutions K x = evFn (cf_i_Instance_solutions K) as_i_Instance_solutions [false] (.sl (.int .i64)) (en_i_Instance_solutions K K) Try.f82.results.toList (bodyOf Try.f82) x := by kernel_rfl
theorem ok_i_Instance_solutions (K : Nat) : FnOk Try.prog 82 (sp_i_Instance_solutions (i_Instance_solutions K)) :=
  fn_ok (cf := cf_i_Instance_solutions K) (en := en_i_Instance_solutions K K) (c := bodyOf Try.f82) Try.func82 (by kernel_rfl) (by kernel_rfl) tysOk (fns_ok (l := [(121, sp_slices_ContainsFunc_impl_Clause (slices_ContainsFunc_impl_Clause K)), (124, sp_i_Instance_solutions_c1 (i_Instance_solutions_c1 K))]) ⟨ok_slices_ContainsFunc_impl_Clause K, ⟨ok_i_Instance_solutions_c1 K, trivial⟩⟩) (by kernel_rfl) rfl (Nat.le_of_ble_eq_true (by kernel_rfl)) (by kernel_rfl) (of_decide_eq_true (by kernel_rfl)) (by decide) (fun C hP O => lpOk_of (en := en_i_Instance_solutions K K) (S := hasK su_i_Instance_solutions) (fun i => hasK_lk (sg_i_Instance_solutions K K) i) _ (by rw [show partsOf (hasK su_i_Instance_solutions) (bodyOf Try.f82) = [(true, c_i_Instance_solutions_L3)] from by kernel_rfl]; exact (lpL_loop (f := mkLoop lv_i_Instance_solutions_L3 (gi_Instance_solutions_l3 K K)) (by kernel_rfl) (si_Instance_solutions_l3 K C hP O K) trivial))) (fun x y h => by rw [← e_i_Instance_solutions]; exact h)
noncomputable def as_s_l09Tuple : Ty := (.pair (.st (.pair (.st (.pair (.int .i64) (.pair (.int .i64) .unit))) (.pair (.sl (.int .i64)) .unit))) (.pair (.int .i64) .unit))
noncomputable def sp_s_l09Tuple (F : (((Int × Int × Unit) × (List Int) × Unit) × Int × Unit) → Option Int) : FnSpec := ⟨as_s_l09Tuple, [false, false], (.int .i64), F⟩
noncomputable def s_l09Tuple_l3 {R : Type} (K : Nat) : Nat → Int → ((Int × Int × Unit) × (List Int) × Unit) → Int → Int → (Int → Option R) → Option R
  | 0, _, _, _, _, _ => none
  | k + 1, v1, v2, v5, v6, kx0 =>
    (if (decide (v6 < (v2.2.1.length : Int))) = true then
    (if (bnds v6 (v2.2.1.length : Int)) = true then
    (if (decide ((0 : Int) ≤ (IntKind.u64.wrap (v2.2.1.getD v6.toNat (0 : Int))))) = true then
    let x1 := (shrI .i64 v1 (IntKind.u64.wrap (v2.2.1.getD v6.toNat (0 : Int))))
    (if (decide ((0 : Int) ≤ (IntKind.u64.wrap v6))) = true then
    let x2 := (shlI .i64 (bitI .and .i64 x1 (1 : Int)) (IntKind.u64.wrap v6))
    s_l09Tuple_l3 K k v1 v2 (IntKind.i64.wrap (v5 + x2)) (IntKind.i64.wrap (v6 + (1 : Int))) kx0
    else
    none)
    else
    none)
    else
    none)
    else
    kx0 v5)
noncomputable def s_l09Tuple (K : Nat) (x : (((Int × Int × Unit) × (List Int) × Unit) × Int × Unit)) : Option Int :=
    s_l09Tuple_l3 K K x.2.1 x.1 (0 : Int) (0 : Int) (fun z3 =>
    some z3)
noncomputable def lv_s_l09Tuple_L3 : Lv := [(1, (.v (.int .i64))), (2, (.bx (.v (.st (.pair (.st (.pair (.int .i64) (.pair (.int .i64) .unit))) (.pair (.sl (.int .i64)) .unit)))))), (5, (.v (.int .i64))), (6, (.v (.int .i64)))]
noncomputable def lv_s_l09Tuple_X0 : Lv := [(5, (.v (.int .i64)))]
noncomputable def rv_s_l09Tuple : Lv := [(4, (.v (.int .i64)))]
noncomputable def gs_l09Tuple_l3 {R : Type} (K : Nat) (k : Nat) (x : den lv_s_l09Tuple_L3.ty) (kx : Nat → St → Option R) (kr : St → Option R) : Option R := s_l09Tuple_l3 K k x.1 x.2.1 x.2.2.1 x.2.2.2.1 (fun z0 => kx 0 (mkSt lv_s_l09Tuple_X0 (z0, ())))
noncomputable def sg_s_l09Tuple {R : Type} (K : Nat) (k : Nat) : List (Nat × SegS R) := []
noncomputable def su_s_l09Tuple : List (Nat × Unit) := []
noncomputable def en_s_l09Tuple {R : Type} (K : Nat) (k : Nat) : Env R := { L := lk [(3, mkLoop lv_s_l09Tuple_L3 (gs_l09Tuple_l3 K k))], X := lk [(0, lv_s_l09Tuple_X0)], S := lk (sg_s_l09Tuple K k), rv := rv_s_l09Tuple }
noncomputable def cf_s_l09Tuple (K : Nat) : Cfg := { ty := lk tys, fn := lk [], prot := 0, nt := Try.f77.ntmps }
noncomputable def c_s_l09Tuple_L3 : Code := nthC (partsOf (hasK su_s_l09Tuple) (bodyOf Try.f77)) 0
theorem es_l09Tuple_l3 {R : Type} (K : Nat) (k : Nat) (x : den lv_s_l09Tuple_L3.ty) (kx : Nat → St → Option R) (kr : St → Option R) : gs_l09Tuple_l3 K (k + 1) x kx kr = evC (cf_s_l09Tuple K) (en_s_l09Tuple K k) c_s_l09Tuple_L3 (mkSt lv_s_l09Tuple_L3 x) (fun s => mkLoop lv_s_l09Tuple_L3 (gs_l09Tuple_l3 K k) s kx kr) kx kr := by kernel_rfl
theorem ss_l09Tuple_l3 {R : Type} (K : Nat) (C : Cx) (hP : C.P = Try.prog) (O : CfgOk C (cf_s_l09Tuple K)) (k : Nat) : LpS C (R := R) (mkLoop lv_s_l09Tuple_L3 (gs_l09Tuple_l3 K k)) c_s_l09Tuple_L3 :=
  loop_sound O (by rw [hP]; kernel_rfl) (fun x kx kr => rfl) (es_l09Tuple_l3 K) (fun k => lpOk_of (en := en_s_l09Tuple K k) (S := hasK su_s_l09Tuple) (fun i => hasK_lk (sg_s_l09Tuple K k) i) _ (by rw [show partsOf (hasK su_s_l09Tuple) c_s_l09Tuple_L3 = [] from by kernel_rfl]; exact trivial)) k
theorem e_s_l09Tuple (K : Nat) (x : den as_s_l09Tuple) : s_l09Tuple K x = evFn (cf_s_l09Tuple K) as_s_l09Tuple [false, false] (.int .i64) (en_s_l09Tuple K K) Try.f77.results.toList (bodyOf Try.f77) x := by kernel_rfl
theorem ok_s_l09Tuple (K : Nat) : FnOk Try.prog 77 (sp_s_l09Tuple (s_l09Tuple K)) :=
  fn_ok (cf := cf_s_l09Tuple K) (en := en_s_l09Tuple K K) (c := bodyOf Try.f77) Try.func77 (by kernel_rfl) (by kernel_rfl) tysOk (fns_ok (l := []) trivial) (by kernel_rfl) rfl (Nat.le_of_ble_eq_true (by kernel_rfl)) (by kernel_rfl) (of_decide_eq_true (by kernel_rfl)) (by decide) (fun C hP O => lpOk_of (en := en_s_l09Tuple K K) (S := hasK su_s_l09Tuple) (fun i => hasK_lk (sg_s_l09Tuple K K) i) _ (by rw [show partsOf (hasK su_s_l09Tuple) (bodyOf Try.f77) = [(true, c_s_l09Tuple_L3)] from by kernel_rfl]; exact (lpL_loop (f := mkLoop lv_s_l09Tuple_L3 (gs_l09Tuple_l3 K K)) (by kernel_rfl) (ss_l09Tuple_l3 K C hP O K) trivial))) (fun x y h => by rw [← e_s_l09Tuple]; exact h)
noncomputable def as_s_l09Solves : Ty := (.pair (.st (.pair (.int .i64) (.pair (.sl (.st (.pair (.st (.pair (.int .i64) (.pair (.int .i64) .unit))) (.pair (.sl (.int .i64)) .unit)))) .unit))) (.pair (.int .i64) .unit))
noncomputable def sp_s_l09Solves (F : ((Int × (List ((Int × Int × Unit) × (List Int) × Unit)) × Unit) × Int × Unit) → Option Bool) : FnSpec := ⟨as_s_l09Solves, [false, false], .bool, F⟩
noncomputable def s_l09Solves_l2 {R : Type} (K : Nat) : Nat → Int → (Int × (List ((Int × Int × Unit) × (List Int) × Unit)) × Unit) → Int → (Option R) → (Bool → Option R) → Option R
  | 0, _, _, _, _, _ => none
  | k + 1, v1, v2, v5, kx0, kr =>
    (if (decide (v5 < (v2.2.1.length : Int))) = true then
    (if (bnds v5 (v2.2.1.length : Int)) = true then
    let x1 := (v2.2.1.getD v5.toNat (((0 : Int), (0 : Int), ()), ([] : List Int), ()))
    (if (bnds v5 (v2.2.1.length : Int)) = true then
    let x2 := (v2.2.1.getD v5.toNat (((0 : Int), (0 : Int), ()), ([] : List Int), ()))
    (s_l09Tuple K (x2, v1, ())).bind fun y3 =>
    (s_l09Has K (x1.1, y3, ())).bind fun y4 =>
    (if (!y4) = true then
    kr false
    else
    s_l09Solves_l2 K k v1 v2 (IntKind.i64.wrap (v5 + (1 : Int))) kx0 kr)
    else
    none)
    else
    none)
    else
    kx0)
noncomputable def s_l09Solves (K : Nat) (x : ((Int × (List ((Int × Int × Unit) × (List Int) × Unit)) × Unit) × Int × Unit)) : Option Bool :=
    s_l09Solves_l2 K K x.2.1 x.1 (0 : Int) (some true) (fun z5 =>
    some z5)
noncomputable def lv_s_l09Solves_L2 : Lv := [(1, (.v (.int .i64))), (2, (.bx (.v (.st (.pair (.int .i64) (.pair (.sl (.st (.pair (.st (.pair (.int .i64) (.pair (.int .i64) .unit))) (.pair (.sl (.int .i64)) .unit)))) .unit)))))), (5, (.v (.int .i64)))]
noncomputable def lv_s_l09Solves_X0 : Lv := []
noncomputable def rv_s_l09Solves : Lv := [(4, (.v .bool))]
noncomputable def gs_l09Solves_l2 {R : Type} (K : Nat) (k : Nat) (x : den lv_s_l09Solves_L2.ty) (kx : Nat → St → Option R) (kr : St → Option R) : Option R := s_l09Solves_l2 K k x.1 x.2.1 x.2.2.1 (kx 0 (mkSt lv_s_l09Solves_X0 ())) (fun z0 => kr (mkSt rv_s_l09Solves (z0, ())))
noncomputable def sg_s_l09Solves {R : Type} (K : Nat) (k : Nat) : List (Nat × SegS R) := []
noncomputable def su_s_l09Solves : List (Nat × Unit) := []
noncomputable def en_s_l09Solves {R : Type} (K : Nat) (k : Nat) : Env R := { L := lk [(2, mkLoop lv_s_l09Solves_L2 (gs_l09Solves_l2 K k))], X := lk [(0, lv_s_l09Solves_X0)], S := lk (sg_s_l09Solves K k), rv := rv_s_l09Solves }
noncomputable def cf_s_l09Solves (K : Nat) : Cfg := { ty := lk tys, fn := lk [(76, sp_s_l09Has (s_l09Has K)), (77, sp_s_l09Tuple (s_l09Tuple K))], prot := 0, nt := Try.f116.ntmps }
noncomputable def c_s_l09Solves_L2 : Code := nthC (partsOf (hasK su_s_l09Solves) (bodyOf Try.f116)) 0
theorem es_l09Solves_l2 {R : Type} (K : Nat) (k : Nat) (x : den lv_s_l09Solves_L2.ty) (kx : Nat → St → Option R) (kr : St → Option R) : gs_l09Solves_l2 K (k + 1) x kx kr = evC (cf_s_l09Solves K) (en_s_l09Solves K k) c_s_l09Solves_L2 (mkSt lv_s_l09Solves_L2 x) (fun s => mkLoop lv_s_l09Solves_L2 (gs_l09Solves_l2 K k) s kx kr) kx kr := by kernel_rfl
theorem ss_l09Solves_l2 {R : Type} (K : Nat) (C : Cx) (hP : C.P = Try.prog) (O : CfgOk C (cf_s_l09Solves K)) (k : Nat) : LpS C (R := R) (mkLoop lv_s_l09Solves_L2 (gs_l09Solves_l2 K k)) c_s_l09Solves_L2 :=
  loop_sound O (by rw [hP]; kernel_rfl) (fun x kx kr => rfl) (es_l09Solves_l2 K) (fun k => lpOk_of (en := en_s_l09Solves K k) (S := hasK su_s_l09Solves) (fun i => hasK_lk (sg_s_l09Solves K k) i) _ (by rw [show partsOf (hasK su_s_l09Solves) c_s_l09Solves_L2 = [] from by kernel_rfl]; exact trivial)) k
theorem e_s_l09Solves (K : Nat) (x : den as_s_l09Solves) : s_l09Solves K x = evFn (cf_s_l09Solves K) as_s_l09Solves [false, false] .bool (en_s_l09Solves K K) Try.f116.results.toList (bodyOf Try.f116) x := by kernel_rfl
theorem ok_s_l09Solves (K : Nat) : FnOk Try.prog 116 (sp_s_l09Solves (s_l09Solves K)) :=
  fn_ok (cf := cf_s_l09Solves K) (en := en_s_l09Solves K K) (c := bodyOf Try.f116) Try.func116 (by kernel_rfl) (by kernel_rfl) tysOk (fns_ok (l := [(76, sp_s_l09Has (s_l09Has K)), (77, sp_s_l09Tuple (s_l09Tuple K))]) ⟨ok_s_l09Has K, ⟨ok_s_l09Tuple K, trivial⟩⟩) (by kernel_rfl) rfl (Nat.le_of_ble_eq_true (by kernel_rfl)) (by kernel_rfl) (of_decide_eq_true (by kernel_rfl)) (by decide) (fun C hP O => lpOk_of (en := en_s_l09Solves K K) (S := hasK su_s_l09Solves) (fun i => hasK_lk (sg_s_l09Solves K K) i) _ (by rw [show partsOf (hasK su_s_l09Solves) (bodyOf Try.f116) = [(true, c_s_l09Solves_L2)] from by kernel_rfl]; exact (lpL_loop (f := mkLoop lv_s_l09Solves_L2 (gs_l09Solves_l2 K K)) (by kernel_rfl) (ss_l09Solves_l2 K C hP O K) trivial))) (fun x y h => by rw [← e_s_l09Solves]; exact h)
noncomputable def as_s_l09Solutions : Ty := (.pair (.st (.pair (.int .i64) (.pair (.sl (.st (.pair (.st (.pair (.int .i64) (.pair (.int .i64) .unit))) (.pair (.sl (.int .i64)) .unit)))) .unit))) .unit)
noncomputable def sp_s_l09Solutions (F : ((Int × (List ((Int × Int × Unit) × (List Int) × Unit)) × Unit) × Unit) → Option (List Int)) : FnSpec := ⟨as_s_l09Solutions, [false], (.sl (.int .i64)), F⟩
noncomputable def s_l09Solutions_l3 {R : Type} (K : Nat) : Nat → (Int × (List ((Int × Int × Unit) × (List Int) × Unit)) × Unit) → (List Int) → Int → ((List Int) → Option R) → Option R
  | 0, _, _, _, _ => none
  | k + 1, v1, v3, v4, kx0 =>
    (s_l01Rows K (v1.1, ())).bind fun y2 =>
    (if (decide (v4 < y2)) = true then
    (s_l09Solves K (v1, v4, ())).bind fun y3 =>
    (if y3 = true then
    (if (decide (v3.length + ([v4]).length ≤ lim)) = true then
    let l4 := (v3 ++ [v4])
    s_l09Solutions_l3 K k v1 l4 (IntKind.i64.wrap (v4 + (1 : Int))) kx0
    else
    none)
    else
    s_l09Solutions_l3 K k v1 v3 (IntKind.i64.wrap (v4 + (1 : Int))) kx0)
    else
    kx0 v3)
noncomputable def s_l09Solutions (K : Nat) (x : ((Int × (List ((Int × Int × Unit) × (List Int) × Unit)) × Unit) × Unit)) : Option (List Int) :=
    let l1 := ([] : List Int)
    s_l09Solutions_l3 K K x.1 l1 (0 : Int) (fun z5 =>
    some z5)
noncomputable def lv_s_l09Solutions_L3 : Lv := [(1, (.bx (.v (.st (.pair (.int .i64) (.pair (.sl (.st (.pair (.st (.pair (.int .i64) (.pair (.int .i64) .unit))) (.pair (.sl (.int .i64)) .unit)))) .unit)))))), (3, (.r (.int .i64))), (4, (.v (.int .i64)))]
noncomputable def lv_s_l09Solutions_X0 : Lv := [(3, (.r (.int .i64)))]
noncomputable def rv_s_l09Solutions : Lv := [(2, (.r (.int .i64)))]
noncomputable def gs_l09Solutions_l3 {R : Type} (K : Nat) (k : Nat) (x : den lv_s_l09Solutions_L3.ty) (kx : Nat → St → Option R) (kr : St → Option R) : Option R := s_l09Solutions_l3 K k x.1 x.2.1 x.2.2.1 (fun z0 => kx 0 (mkSt lv_s_l09Solutions_X0 (z0, ())))
noncomputable def sg_s_l09Solutions {R : Type} (K : Nat) (k : Nat) : List (Nat × SegS R) := []
noncomputable def su_s_l09Solutions : List (Nat × Unit) := []
noncomputable def en_s_l09Solutions {R : Type} (K : Nat) (k : Nat) : Env R := { L := lk [(3, mkLoop lv_s_l09Solutions_L3 (gs_l09Solutions_l3 K k))], X := lk [(0, lv_s_l09Solutions_X0)], S := lk (sg_s_l09Solutions K k), rv := rv_s_l09Solutions }
noncomputable def cf_s_l09Solutions (K : Nat) : Cfg := { ty := lk tys, fn := lk [(75, sp_s_l01Rows (s_l01Rows K)), (116, sp_s_l09Solves (s_l09Solves K))], prot := 0, nt := Try.f65.ntmps }
noncomputable def c_s_l09Solutions_L3 : Code := nthC (partsOf (hasK su_s_l09Solutions) (bodyOf Try.f65)) 0
theorem es_l09Solutions_l3 {R : Type} (K : Nat) (k : Nat) (x : den lv_s_l09Solutions_L3.ty) (kx : Nat → St → Option R) (kr : St → Option R) : gs_l09Solutions_l3 K (k + 1) x kx kr = evC (cf_s_l09Solutions K) (en_s_l09Solutions K k) c_s_l09Solutions_L3 (mkSt lv_s_l09Solutions_L3 x) (fun s => mkLoop lv_s_l09Solutions_L3 (gs_l09Solutions_l3 K k) s kx kr) kx kr := by kernel_rfl
theorem ss_l09Solutions_l3 {R : Type} (K : Nat) (C : Cx) (hP : C.P = Try.prog) (O : CfgOk C (cf_s_l09Solutions K)) (k : Nat) : LpS C (R := R) (mkLoop lv_s_l09Solutions_L3 (gs_l09Solutions_l3 K k)) c_s_l09Solutions_L3 :=
  loop_sound O (by rw [hP]; kernel_rfl) (fun x kx kr => rfl) (es_l09Solutions_l3 K) (fun k => lpOk_of (en := en_s_l09Solutions K k) (S := hasK su_s_l09Solutions) (fun i => hasK_lk (sg_s_l09Solutions K k) i) _ (by rw [show partsOf (hasK su_s_l09Solutions) c_s_l09Solutions_L3 = [] from by kernel_rfl]; exact trivial)) k
theorem e_s_l09Solutions (K : Nat) (x : den as_s_l09Solutions) : s_l09Solutions K x = evFn (cf_s_l09Solutions K) as_s_l09Solutions [false] (.sl (.int .i64)) (en_s_l09Solutions K K) Try.f65.results.toList (bodyOf Try.f65) x := by kernel_rfl
theorem ok_s_l09Solutions (K : Nat) : FnOk Try.prog 65 (sp_s_l09Solutions (s_l09Solutions K)) :=
  fn_ok (cf := cf_s_l09Solutions K) (en := en_s_l09Solutions K K) (c := bodyOf Try.f65) Try.func65 (by kernel_rfl) (by kernel_rfl) tysOk (fns_ok (l := [(75, sp_s_l01Rows (s_l01Rows K)), (116, sp_s_l09Solves (s_l09Solves K))]) ⟨ok_s_l01Rows K, ⟨ok_s_l09Solves K, trivial⟩⟩) (by kernel_rfl) rfl (Nat.le_of_ble_eq_true (by kernel_rfl)) (by kernel_rfl) (of_decide_eq_true (by kernel_rfl)) (by decide) (fun C hP O => lpOk_of (en := en_s_l09Solutions K K) (S := hasK su_s_l09Solutions) (fun i => hasK_lk (sg_s_l09Solutions K K) i) _ (by rw [show partsOf (hasK su_s_l09Solutions) (bodyOf Try.f65) = [(true, c_s_l09Solutions_L3)] from by kernel_rfl]; exact (lpL_loop (f := mkLoop lv_s_l09Solutions_L3 (gs_l09Solutions_l3 K K)) (by kernel_rfl) (ss_l09Solutions_l3 K C hP O K) trivial))) (fun x y h => by rw [← e_s_l09Solutions]; exact h)
end Go.Proofs.Ytieiajeggahipaa.E
namespace Go.Proofs.Ytieiajeggahipaa.E
open Go Go.Proofs
set_option linter.unusedVariables false
set_option linter.unusedSimpArgs false
variable {K : Nat} {R : Type}
/-! a digit more -/
def dg (b : Bool) (n : Nat) : Nat := if b = true then 2 ^ n else 0
theorem dg_le (b : Bool) (n : Nat) : dg b n ≤ 2 ^ n := by unfold dg; split <;> simp
theorem mkB_succ (g : Nat → Bool) (n : Nat) : mkB g (n + 1) = mkB g n + dg (g n) n := rfl
theorem shl_bt {a j n : Nat} (hn : n < 62) : shlI .i64 (bt a j) (n : Int) = ((dg (a.testBit j) n : Nat) : Int) := by
  unfold bt dg
  cases a.testBit j
  · have := shlI_n 0 n (by simp)
    simpa using this
  · rw [if_pos rfl, if_pos rfl, shl1 (by omega)]
theorem lt62 {n : Nat} (hn : n < 62) : 2 ^ (n + 1) ≤ 4611686018427387904 := Nat.le_trans (Nat.pow_le_pow_right (by decide) (show n + 1 ≤ 62 by omega)) (by decide)
theorem or_dg {x n : Nat} (hx : x < 2 ^ n) (hn : n < 62) (b : Bool) : bitI .or .i64 (x : Int) ((dg b n : Nat) : Int) = ((x + dg b n : Nat) : Int) := by
  have h2 := lt62 hn
  have h3 := Nat.pow_succ 2 n
  have h4 := dg_le b n
  rw [bitI_or (by omega) (by omega)]
  congr 1
  unfold dg; cases b
  · simp
  · rw [if_pos rfl, or_pow hx]
theorem add_dg {x n : Nat} (hx : x < 2 ^ n) (hn : n < 62) (b : Bool) : IntKind.i64.wrap ((x : Int) + ((dg b n : Nat) : Int)) = ((x + dg b n : Nat) : Int) := by
  have h2 := lt62 hn
  have h3 := Nat.pow_succ 2 n
  have h4 := dg_le b n
  rw [w64 (by omega) (by omega)]; simp
/-- The number of the tuple of an assignment's values. -/
def tup (a : Nat) (vs : List Int) : Nat := mkB (fun i => a.testBit (vs.getD i 0).toNat) vs.length
theorem inR_nat {m v : Int} (h : inR m v = true) : ∃ n : Nat, v = n ∧ (n : Int) ≤ m - 1 := by
  simp only [inR, and_dec] at h
  exact ⟨v.toNat, by omega, by omega⟩
theorem sat_l (a : Nat) (c : DC) (ha : a < 9223372036854775808) (hl : c.2.1.length ≤ 8) (kx : DC → Int → Option R) : ∀ (r p : List Int) (k : Nat), c.2.1 = p ++ r → r.length < k → (∀ v ∈ r, 0 ≤ v ∧ v ≤ 7) →
    i_Clause_satisfied_l3 K k (a : Int) c ((mkB (fun i => a.testBit (c.2.1.getD i 0).toNat) p.length : Nat) : Int) c.2.1 (c.2.1.length : Int) (p.length : Int) kx = kx c ((tup a c.2.1 : Nat) : Int)
  | [], p, k + 1, h, _, _ => by
    simp only [i_Clause_satisfied_l3]
    rw [ite_f (decide_eq_false (by rw [h]; simp))]
    unfold tup; rw [show c.2.1.length = p.length from by rw [h]; simp]
  | y :: r, p, k + 1, h, hk, hv => by
    obtain ⟨h0, h7⟩ := hv y (by simp)
    obtain ⟨m, rfl⟩ := Int.eq_ofNat_of_zero_le h0
    simp only [i_Clause_satisfied_l3]
    have hlt : p.length < c.2.1.length := by rw [h]; simp
    have hg : c.2.1.getD p.length 0 = (m : Int) := by rw [h]; exact getD_mid p r _ _
    rw [ite_t (decide_eq_true (by omega)), ite_t (bnds_n hlt), Int.toNat_natCast, hg, i_bit_eq m ha, some_bind', ite_t (nn _), shl_bt (by omega), or_dg (mkB_lt _ _) (by omega), w64s (by omega)]
    have := sat_l a c ha hl kx r (p ++ [(m : Int)]) k (by rw [h, mid_app]) (by simp at hk; omega) (fun v hv' => hv v (by simp [hv']))
    rw [snoc_len, mkB_succ, hg, Int.toNat_natCast] at this
    exact this
theorem okC_v {m : Int} {c : DC} (h : okC m c = true) (hm : m ≤ 8) : (∀ v ∈ c.2.1, 0 ≤ v ∧ v ≤ 7) ∧ c.2.1.length ≤ 4 ∧ isF 1 c.1 = true := by
  simp only [okC, Bool.and_eq_true, decide_eq_true_eq, List.all_eq_true] at h
  obtain ⟨⟨h1, h2⟩, h3⟩ := h
  refine ⟨fun v hv => ?_, ?_, h1⟩
  · have := h3 v hv
    simp only [inR, and_dec] at this
    omega
  · obtain ⟨n, b, e, h4, _, _⟩ := isF_nat h1 (by decide)
    rw [e] at h2
    have h2 : (c.2.1.length : Int) = n := h2
    omega
def satC (c : DC) (a : Nat) : Bool := c.1.2.1.toNat.testBit (tup a c.2.1)
theorem tup_lt (a : Nat) {vs : List Int} (h : vs.length ≤ 4) : tup a vs < 16 := Nat.lt_of_lt_of_le (mkB_lt _ _) (pw4 h)
theorem i_satisfied_eq {a : Nat} {m : Int} {c : DC} (h : okC m c = true) (hm : m ≤ 8) (ha : a < 9223372036854775808) (hK : 4611686018427387904 ≤ K) : i_Clause_satisfied K (c, (a : Int), ()) = some (satC c a) := by
  obtain ⟨h1, h2, h3⟩ := okC_v h hm
  simp only [i_Clause_satisfied]
  have := sat_l (K := K) a c ha (by omega) (fun z2 z3 => (i_Relation_has K (z2.1, z3, ())).bind fun y4 => some y4) c.2.1 [] K rfl (by omega) h1
  simp only [List.length_nil, mkB] at this
  rw [show ((0 : Nat) : Int) = 0 from rfl] at this
  rw [this]
  obtain ⟨n, b, e, h4, h5, _⟩ := isF_nat h3 (by decide)
  rw [e, i_Relation_has_eq _ (bits_lt h4 h5), some_bind', satC, e]; rfl
theorem tuple_l (a : Nat) (c : DC) (ha : a < 9223372036854775808) (hl : c.2.1.length ≤ 8) (kx : Int → Option R) : ∀ (r p : List Int) (k : Nat), c.2.1 = p ++ r → r.length < k → (∀ v ∈ r, 0 ≤ v ∧ v ≤ 7) →
    s_l09Tuple_l3 K k (a : Int) c ((mkB (fun i => a.testBit (c.2.1.getD i 0).toNat) p.length : Nat) : Int) (p.length : Int) kx = kx ((tup a c.2.1 : Nat) : Int)
  | [], p, k + 1, h, _, _ => by
    simp only [s_l09Tuple_l3]
    rw [ite_f (decide_eq_false (by rw [h]; simp))]
    unfold tup; rw [show c.2.1.length = p.length from by rw [h]; simp]
  | y :: r, p, k + 1, h, hk, hv => by
    obtain ⟨h0, h7⟩ := hv y (by simp)
    obtain ⟨m, rfl⟩ := Int.eq_ofNat_of_zero_le h0
    simp only [s_l09Tuple_l3]
    have hlt : p.length < c.2.1.length := by rw [h]; simp
    have hg : c.2.1.getD p.length 0 = (m : Int) := by rw [h]; exact getD_mid p r _ _
    rw [ite_t (decide_eq_true (by omega)), ite_t (bnds_n hlt), Int.toNat_natCast, hg, ite_t (u64_dec _), ite_t (u64_dec _), u64n (by omega), u64n (by omega), bitI_bt m ha, shl_bt (by omega), add_dg (mkB_lt _ _) (by omega), w64s (by omega)]
    have := tuple_l a c ha hl kx r (p ++ [(m : Int)]) k (by rw [h, mid_app]) (by simp at hk; omega) (fun v hv' => hv v (by simp [hv']))
    rw [snoc_len, mkB_succ, hg, Int.toNat_natCast] at this
    exact this
theorem s_l09Tuple_eq {a : Nat} {m : Int} {c : DC} (h : okC m c = true) (hm : m ≤ 8) (ha : a < 9223372036854775808) (hK : 4611686018427387904 ≤ K) : s_l09Tuple K (c, (a : Int), ()) = some ((tup a c.2.1 : Nat) : Int) := by
  obtain ⟨h1, h2, h3⟩ := okC_v h hm
  simp only [s_l09Tuple]
  have := tuple_l (K := K) a c ha (by omega) (fun z3 => some z3) c.2.1 [] K rfl (by omega) h1
  simp only [List.length_nil, mkB] at this
  rw [show ((0 : Nat) : Int) = 0 from rfl] at this
  exact this
theorem s_has_tuple {a : Nat} {m : Int} {c : DC} (h : okC m c = true) (hm : m ≤ 8) : s_l09Has K (c.1, ((tup a c.2.1 : Nat) : Int), ()) = some (satC c a) := by
  obtain ⟨h1, h2, h3⟩ := okC_v h hm
  obtain ⟨n, b, e, h4, h5, _⟩ := isF_nat h3 (by decide)
  have := tup_lt a h2
  rw [e, s_l09Has_eq (bits_lt h4 h5) (by omega), satC, e]; rfl
def satX (x : DX) (a : Nat) : Bool := x.2.1.all fun c => satC c a
theorem okX_h {x : DX} (h : okX x = true) : 0 ≤ x.1 ∧ x.1 ≤ 8 ∧ x.2.1.length ≤ 12 ∧ ∀ c ∈ x.2.1, okC x.1 c = true := by
  simp only [okX, Bool.and_eq_true, decide_eq_true_eq, List.all_eq_true] at h
  exact ⟨h.1.1.1, h.1.1.2, h.1.2, h.2⟩
theorem okX_sh {x : DX} (h : okX x = true) : shX x := by
  obtain ⟨h1, h2, h3, h4⟩ := okX_h h
  exact ⟨by omega, fun c hc => by have := (okC_v (h4 c hc) h2).2.1; omega⟩
theorem solves_l (x : DX) (h : okX x = true) (a : Nat) (ha : a < 9223372036854775808) (hK : 4611686018427387904 ≤ K) (kx : Option R) (kr : Bool → Option R) : ∀ (r p : List DC) (k : Nat), x.2.1 = p ++ r → r.length < k →
    s_l09Solves_l2 K k (a : Int) x (p.length : Int) kx kr = if (r.all fun c => satC c a) = true then kx else kr false
  | [], p, k + 1, e, _ => by simp only [s_l09Solves_l2]; rw [e, ite_f nlt_len]; rfl
  | y :: r, p, k + 1, e, hk => by
    obtain ⟨h1, h2, h3, h4⟩ := okX_h h
    have hy := h4 y (by rw [e]; simp)
    simp only [s_l09Solves_l2]
    rw [e, ite_t lt_len, ite_t bnds_mid, ite_t bnds_mid, getD_midI, s_l09Tuple_eq hy h2 ha hK, some_bind', s_has_tuple hy h2, some_bind', next_i (by rw [← e]; omega), solves_l x h a ha hK kx kr r (p ++ [y]) k (by rw [e, mid_app]) (by simp at hk; omega), List.all_cons]
    cases satC y a <;> rfl
theorem s_l09Solves_eq {x : DX} (h : okX x = true) {a : Nat} (ha : a < 9223372036854775808) (hK : 4611686018427387904 ≤ K) : s_l09Solves K (x, (a : Int), ()) = some (satX x a) := by
  simp only [s_l09Solves]
  have := solves_l (K := K) x h a ha hK (some true) (fun z5 => some z5) x.2.1 [] K rfl (by have := (okX_h h).2.2.1; omega)
  simp only [List.length_nil] at this
  rw [show ((0 : Nat) : Int) = 0 from rfl] at this
  rw [this, satX]; cases x.2.1.all fun c => satC c a <;> rfl
/-- The numbers below n that are such, as Go's numbers. -/
def sel (P : Nat → Bool) (n : Nat) : List Int := ((List.range n).filter P).map fun (a : Nat) => (a : Int)
theorem sel_succ (P : Nat → Bool) (n : Nat) : sel P (n + 1) = if P n = true then sel P n ++ [(n : Int)] else sel P n := by
  simp only [sel, List.range_succ, List.filter_append, List.map_append]
  cases h : P n <;> simp [h]
theorem sel_len (P : Nat → Bool) : ∀ n, (sel P n).length ≤ n
  | 0 => by simp [sel]
  | n + 1 => by
    have := sel_len P n
    rw [sel_succ]; split <;> simp <;> omega
theorem sel_congr {P Q : Nat → Bool} {n : Nat} (h : ∀ a, a < n → P a = Q a) : sel P n = sel Q n := by
  simp only [sel]; rw [List.filter_congr fun a ha => h a (List.mem_range.1 ha)]
theorem lim_len {l : List Int} {m : Int} (h : l.length < 1099511627776) : decide (l.length + [m].length ≤ lim) = true := by
  apply decide_eq_true; simp [lim]; omega
def solX (x : DX) : List Int := sel (satX x) (2 ^ x.1.toNat)
theorem sols_l (x : DX) (h : okX x = true) (n : Nat) (hn : n ≤ 256) (hK : 4611686018427387904 ≤ K) (kx : List Int → Option R) : ∀ (m i k : Nat), i + m = n → m < k →
    i_Instance_solutions_l3 K k x (sel (satX x) i) (n : Int) (i : Int) kx = kx (sel (satX x) n)
  | 0, i, k + 1, e, _ => by
    obtain rfl : i = n := by omega
    simp only [i_Instance_solutions_l3]; rw [ite_f (by simp)]
  | m + 1, i, k + 1, e, hk => by
    obtain ⟨h1, h2, h3, h4⟩ := okX_h h
    simp only [i_Instance_solutions_l3]
    rw [ite_t (decide_eq_true (by omega)), slices_ContainsFunc_impl_Clause_eq _ (fun c => !satC c i) (by omega) hK (fun c hc => by
      simp only [i_Instance_solutions_c1, i_satisfied_eq (h4 c hc) h2 (show i < 9223372036854775808 by omega) hK]; rfl), some_bind', not_any_not]
    have hl := sel_len (satX x) i
    rw [w64s (by omega), ite_t (lim_len (by omega))]
    have := sols_l x h n hn hK kx m (i + 1) k (by omega) (by omega)
    rw [sel_succ, satX] at this
    cases hs : x.2.1.all fun c => satC c i
    · rw [hs, if_neg (by decide)] at this
      rw [if_neg (by decide)]; exact this
    · rw [hs, if_pos rfl] at this
      rw [if_pos rfl]; exact this
theorem pw8 {n : Nat} (h : n ≤ 8) : 2 ^ n ≤ 256 := Nat.pow_le_pow_right (by decide) h
theorem okX_nat {x : DX} (h : okX x = true) : ∃ n : Nat, x.1 = n ∧ n ≤ 8 := by
  obtain ⟨h1, h2, _⟩ := okX_h h
  exact ⟨x.1.toNat, by omega, by omega⟩
theorem i_solutions_eq {x : DX} (h : okX x = true) (hK : 4611686018427387904 ≤ K) : i_Instance_solutions K (x, ()) = some (solX x) := by
  obtain ⟨n, e, hn⟩ := okX_nat h
  have hp := pw8 hn
  simp only [i_Instance_solutions]
  rw [e, ite_t (nn n), shl1 (by omega)]
  have := sols_l (K := K) x h (2 ^ n) hp hK (fun z => some z) (2 ^ n) 0 K (by omega) (by omega)
  rw [show ((0 : Nat) : Int) = 0 from rfl] at this
  rw [solX, e, Int.toNat_natCast]; exact this
theorem s_sols_l (x : DX) (h : okX x = true) (n : Nat) (e : x.1 = n) (hn : n ≤ 8) (hK : 4611686018427387904 ≤ K) (kx : List Int → Option R) : ∀ (m i k : Nat), i + m = 2 ^ n → m < k →
    s_l09Solutions_l3 K k x (sel (satX x) i) (i : Int) kx = kx (sel (satX x) (2 ^ n))
  | 0, i, k + 1, ei, _ => by
    obtain rfl : i = 2 ^ n := by omega
    simp only [s_l09Solutions_l3]; rw [e, s_l01Rows_eq (by omega), some_bind', ite_f (by simp)]
  | m + 1, i, k + 1, ei, hk => by
    have hp := pw8 hn
    simp only [s_l09Solutions_l3]
    have hl := sel_len (satX x) i
    rw [e, s_l01Rows_eq (by omega), some_bind', ite_t (decide_eq_true (by omega)), s_l09Solves_eq h (show i < 9223372036854775808 by omega) hK, some_bind', w64s (by omega), ite_t (lim_len (by omega))]
    have := s_sols_l x h n e hn hK kx m (i + 1) k (by omega) (by omega)
    rw [sel_succ] at this
    cases hs : satX x i
    · rw [hs, if_neg (by decide)] at this
      rw [if_neg (by decide)]; exact this
    · rw [hs, if_pos rfl] at this
      rw [if_pos rfl]; exact this
theorem s_l09Solutions_eq {x : DX} (h : okX x = true) (hK : 4611686018427387904 ≤ K) : s_l09Solutions K (x, ()) = some (solX x) := by
  obtain ⟨n, e, hn⟩ := okX_nat h
  have hp := pw8 hn
  simp only [s_l09Solutions]
  have := s_sols_l (K := K) x h n e hn hK (fun z => some z) (2 ^ n) 0 K (by omega) (by omega)
  rw [show ((0 : Nat) : Int) = 0 from rfl] at this
  rw [solX, e, Int.toNat_natCast]; exact this
end Go.Proofs.Ytieiajeggahipaa.E
namespace Go.Proofs.Ytieiajeggahipaa.E
open Go Go.Proofs Go.Proofs.Ytieiajeggahipaa
set_option maxRecDepth 100000
set_option linter.unusedVariables false
noncomputable def as_s_SolutionsOf : Ty := (.pair (.st (.pair (.int .i64) (.pair (.sl (.st (.pair (.st (.pair (.int .i64) (.pair (.int .i64) .unit))) (.pair (.sl (.int .i64)) .unit)))) .unit))) .unit)
noncomputable def sp_s_SolutionsOf (F : ((Int × (List ((Int × Int × Unit) × (List Int) × Unit)) × Unit) × Unit) → Option ((List Int) × Int × Unit)) : FnSpec := ⟨as_s_SolutionsOf, [false], (.tup (.pair (.sl (.int .i64)) (.pair (.int .i64) .unit))), F⟩
noncomputable def s_SolutionsOf (K : Nat) (x : ((Int × (List ((Int × Int × Unit) × (List Int) × Unit)) × Unit) × Unit)) : Option ((List Int) × Int × Unit) :=
    (s_l09Is K (x.1, ())).bind fun y1 =>
    (if (!y1) = true then
    some (([] : List Int), (1 : Int), ())
    else
    (s_l09Solutions K (x.1, ())).bind fun y2 =>
    some (y2, (0 : Int), ()))
noncomputable def rv_s_SolutionsOf : Lv := [(2, (.r (.int .i64))), (3, (.v (.int .i64)))]
noncomputable def sg_s_SolutionsOf {R : Type} (K : Nat) (k : Nat) : List (Nat × SegS R) := []
noncomputable def su_s_SolutionsOf : List (Nat × Unit) := []
noncomputable def en_s_SolutionsOf {R : Type} (K : Nat) (k : Nat) : Env R := { L := lk [], X := lk [], S := lk (sg_s_SolutionsOf K k), rv := rv_s_SolutionsOf }
noncomputable def cf_s_SolutionsOf (K : Nat) : Cfg := { ty := lk tys, fn := lk [(64, sp_s_l09Is (s_l09Is K)), (65, sp_s_l09Solutions (s_l09Solutions K))], prot := 0, nt := Try.f33.ntmps }
theorem e_s_SolutionsOf (K : Nat) (x : den as_s_SolutionsOf) : s_SolutionsOf K x = evFn (cf_s_SolutionsOf K) as_s_SolutionsOf [false] (.tup (.pair (.sl (.int .i64)) (.pair (.int .i64) .unit))) (en_s_SolutionsOf K K) Try.f33.results.toList (bodyOf Try.f33) x := by kernel_rfl
theorem ok_s_SolutionsOf (K : Nat) : FnOk Try.prog 33 (sp_s_SolutionsOf (s_SolutionsOf K)) :=
  fn_ok (cf := cf_s_SolutionsOf K) (en := en_s_SolutionsOf K K) (c := bodyOf Try.f33) Try.func33 (by kernel_rfl) (by kernel_rfl) tysOk (fns_ok (l := [(64, sp_s_l09Is (s_l09Is K)), (65, sp_s_l09Solutions (s_l09Solutions K))]) ⟨ok_s_l09Is K, ⟨ok_s_l09Solutions K, trivial⟩⟩) (by kernel_rfl) rfl (Nat.le_of_ble_eq_true (by kernel_rfl)) (by kernel_rfl) (of_decide_eq_true (by kernel_rfl)) (by decide) (fun C hP O => lpOk_of (en := en_s_SolutionsOf K K) (S := hasK su_s_SolutionsOf) (fun i => hasK_lk (sg_s_SolutionsOf K K) i) _ (by rw [show partsOf (hasK su_s_SolutionsOf) (bodyOf Try.f33) = [] from by kernel_rfl]; exact trivial)) (fun x y h => by rw [← e_s_SolutionsOf]; exact h)
noncomputable def as_i_SolutionsOf : Ty := (.pair (.st (.pair (.int .i64) (.pair (.sl (.st (.pair (.st (.pair (.int .i64) (.pair (.int .i64) .unit))) (.pair (.sl (.int .i64)) .unit)))) .unit))) .unit)
noncomputable def sp_i_SolutionsOf (F : ((Int × (List ((Int × Int × Unit) × (List Int) × Unit)) × Unit) × Unit) → Option ((List Int) × Int × Unit)) : FnSpec := ⟨as_i_SolutionsOf, [false], (.tup (.pair (.sl (.int .i64)) (.pair (.int .i64) .unit))), F⟩
noncomputable def i_SolutionsOf (K : Nat) (x : ((Int × (List ((Int × Int × Unit) × (List Int) × Unit)) × Unit) × Unit)) : Option ((List Int) × Int × Unit) :=
    (i_IsInstance K (x.1, ())).bind fun y1 =>
    (if (!y1) = true then
    some (([] : List Int), (1 : Int), ())
    else
    (i_Instance_solutions K (x.1, ())).bind fun y2 =>
    some (y2, (0 : Int), ()))
noncomputable def rv_i_SolutionsOf : Lv := [(2, (.r (.int .i64))), (3, (.v (.int .i64)))]
noncomputable def sg_i_SolutionsOf {R : Type} (K : Nat) (k : Nat) : List (Nat × SegS R) := []
noncomputable def su_i_SolutionsOf : List (Nat × Unit) := []
noncomputable def en_i_SolutionsOf {R : Type} (K : Nat) (k : Nat) : Env R := { L := lk [], X := lk [], S := lk (sg_i_SolutionsOf K k), rv := rv_i_SolutionsOf }
noncomputable def cf_i_SolutionsOf (K : Nat) : Cfg := { ty := lk tys, fn := lk [(78, sp_i_IsInstance (i_IsInstance K)), (82, sp_i_Instance_solutions (i_Instance_solutions K))], prot := 0, nt := Try.f34.ntmps }
theorem e_i_SolutionsOf (K : Nat) (x : den as_i_SolutionsOf) : i_SolutionsOf K x = evFn (cf_i_SolutionsOf K) as_i_SolutionsOf [false] (.tup (.pair (.sl (.int .i64)) (.pair (.int .i64) .unit))) (en_i_SolutionsOf K K) Try.f34.results.toList (bodyOf Try.f34) x := by kernel_rfl
theorem ok_i_SolutionsOf (K : Nat) : FnOk Try.prog 34 (sp_i_SolutionsOf (i_SolutionsOf K)) :=
  fn_ok (cf := cf_i_SolutionsOf K) (en := en_i_SolutionsOf K K) (c := bodyOf Try.f34) Try.func34 (by kernel_rfl) (by kernel_rfl) tysOk (fns_ok (l := [(78, sp_i_IsInstance (i_IsInstance K)), (82, sp_i_Instance_solutions (i_Instance_solutions K))]) ⟨ok_i_IsInstance K, ⟨ok_i_Instance_solutions K, trivial⟩⟩) (by kernel_rfl) rfl (Nat.le_of_ble_eq_true (by kernel_rfl)) (by kernel_rfl) (of_decide_eq_true (by kernel_rfl)) (by decide) (fun C hP O => lpOk_of (en := en_i_SolutionsOf K K) (S := hasK su_i_SolutionsOf) (fun i => hasK_lk (sg_i_SolutionsOf K K) i) _ (by rw [show partsOf (hasK su_i_SolutionsOf) (bodyOf Try.f34) = [] from by kernel_rfl]; exact trivial)) (fun x y h => by rw [← e_i_SolutionsOf]; exact h)
noncomputable def as_w_FnExactSolutionsOf : Ty := (.pair (.st (.pair (.int .i64) (.pair (.sl (.st (.pair (.st (.pair (.int .i64) (.pair (.int .i64) .unit))) (.pair (.sl (.int .i64)) .unit)))) .unit))) .unit)
noncomputable def sp_w_FnExactSolutionsOf (F : ((Int × (List ((Int × Int × Unit) × (List Int) × Unit)) × Unit) × Unit) → Option Bool) : FnSpec := ⟨as_w_FnExactSolutionsOf, [false], .bool, F⟩
noncomputable def w_FnExactSolutionsOf_j27 {R : Type} (K : Nat) (k : Nat) (v7 : (List Int)) (v10 : Int) (kn : Option R) (kr : (Bool → Option R)) : Option R :=
    (w_heldInt64S K (v7, (1 : Int), ())).bind fun y16 =>
    (if (decide (y16 < (0 : Int))) = true then
    kr false
    else
    (if (!decide (y16 = v10)) = true then
    kr false
    else
    kr true))
noncomputable def w_FnExactSolutionsOf_j16 {R : Type} (K : Nat) (k : Nat) (v1 : (Int × (List ((Int × Int × Unit) × (List Int) × Unit)) × Unit)) (v4 : (List Int)) (v5 : Int) (v7 : (List Int)) (kn : Option R) (kr : (Bool → Option R)) : Option R :=
    (w_markInt64S K (v7, (1 : Int), ())).bind fun y11 =>
    (w_heldInt64S K (y11.2.1, (1 : Int), ())).bind fun y12 =>
    (if (decide (y12 < (0 : Int))) = true then
    kr false
    else
    (if (!decide (y12 = y11.1)) = true then
    kr false
    else
    (w_toInstance K (v1, ())).bind fun y13 =>
    (i_SolutionsOf K ((y13.1, y13.2.1, ()), ())).bind fun y14 =>
    (w_eqInt64S K (y14.1, v4, ())).bind fun y15 =>
    (if (!y15) = true then
    kr false
    else
    (if (!decide (y14.2.1 = v5)) = true then
    kr false
    else
    w_FnExactSolutionsOf_j27 K k y11.2.1 y11.1 none (fun z17 =>
    kr z17)))))
noncomputable def w_FnExactSolutionsOf_j10 {R : Type} (K : Nat) (k : Nat) (v1 : (Int × (List ((Int × Int × Unit) × (List Int) × Unit)) × Unit)) (v4 : (List Int)) (v5 : Int) (v6_0 : Int) (v6_1 : (List ((Int × Int × Unit) × (List Int) × Unit))) (v7 : (List Int)) (v8 : Int) (kn : Option R) (kr : (Bool → Option R)) : Option R :=
    (w_toInstance K (v1, ())).bind fun y7 =>
    (w_eqInstance K ((v6_0, v6_1, ()), (y7.1, y7.2.1, ()), ())).bind fun y8 =>
    (if (!y8) = true then
    kr false
    else
    (w_markInstance K ((v6_0, v6_1, ()), (1 : Int), ())).bind fun y9 =>
    (if (decide (y9.1 < (0 : Int))) = true then
    kr false
    else
    (w_eqInt64S K (v7, v4, ())).bind fun y10 =>
    (if (!y10) = true then
    kr false
    else
    (if (!decide (v8 = v5)) = true then
    kr false
    else
    w_FnExactSolutionsOf_j16 K k v1 v4 v5 v7 none (fun z18 =>
    kr z18)))))
noncomputable def w_FnExactSolutionsOf (K : Nat) (x : ((Int × (List ((Int × Int × Unit) × (List Int) × Unit)) × Unit) × Unit)) : Option Bool :=
    (w_szInstance K (x.1, (1048576 : Int), ())).bind fun y1 =>
    (if (decide (y1 < (0 : Int))) = true then
    some true
    else
    (w_toInstance K (x.1, ())).bind fun y2 =>
    (s_SolutionsOf K ((y2.1, y2.2.1, ()), ())).bind fun y3 =>
    (w_toInstance K (x.1, ())).bind fun y4 =>
    (i_SolutionsOf K ((y4.1, y4.2.1, ()), ())).bind fun y5 =>
    (w_eqInt64S K (y5.1, y3.1, ())).bind fun y6 =>
    (if (!y6) = true then
    some false
    else
    (if (!decide (y5.2.1 = y3.2.1)) = true then
    some false
    else
    w_FnExactSolutionsOf_j10 K K x.1 y3.1 y3.2.1 y4.1 y4.2.1 y5.1 y5.2.1 none (fun z19 =>
    some z19))))
noncomputable def lv_w_FnExactSolutionsOf_J10 : Lv := [(1, (.bx (.v (.st (.pair (.int .i64) (.pair (.sl (.st (.pair (.st (.pair (.int .i64) (.pair (.int .i64) .unit))) (.pair (.sl (.int .i64)) .unit)))) .unit)))))), (4, (.r (.int .i64))), (5, (.v (.int .i64))), (6, (.bx (.st (.pair (.v (.int .i64)) (.pair (.r (.st (.pair (.st (.pair (.int .i64) (.pair (.int .i64) .unit))) (.pair (.sl (.int .i64)) .unit)))) .unit))))), (7, (.r (.int .i64))), (8, (.v (.int .i64)))]
noncomputable def lv_w_FnExactSolutionsOf_J16 : Lv := [(1, (.bx (.v (.st (.pair (.int .i64) (.pair (.sl (.st (.pair (.st (.pair (.int .i64) (.pair (.int .i64) .unit))) (.pair (.sl (.int .i64)) .unit)))) .unit)))))), (4, (.r (.int .i64))), (5, (.v (.int .i64))), (7, (.r (.int .i64)))]
noncomputable def lv_w_FnExactSolutionsOf_J27 : Lv := [(7, (.r (.int .i64))), (10, (.v (.int .i64)))]
noncomputable def lv_w_FnExactSolutionsOf_N10 : Lv := []
noncomputable def lv_w_FnExactSolutionsOf_N16 : Lv := []
noncomputable def lv_w_FnExactSolutionsOf_N27 : Lv := []
noncomputable def rv_w_FnExactSolutionsOf : Lv := [(2, (.v .bool))]
noncomputable def gw_FnExactSolutionsOf_j27 {R : Type} (K : Nat) (k : Nat) (x : den lv_w_FnExactSolutionsOf_J27.ty) (kn : den lv_w_FnExactSolutionsOf_N27.ty → Option R) (kx : Nat → St → Option R) (kr : St → Option R) : Option R := w_FnExactSolutionsOf_j27 K k x.1 x.2.1 (kn ()) (fun z0 => kr (mkSt rv_w_FnExactSolutionsOf (z0, ())))
noncomputable def gw_FnExactSolutionsOf_j16 {R : Type} (K : Nat) (k : Nat) (x : den lv_w_FnExactSolutionsOf_J16.ty) (kn : den lv_w_FnExactSolutionsOf_N16.ty → Option R) (kx : Nat → St → Option R) (kr : St → Option R) : Option R := w_FnExactSolutionsOf_j16 K k x.1 x.2.1 x.2.2.1 x.2.2.2.1 (kn ()) (fun z0 => kr (mkSt rv_w_FnExactSolutionsOf (z0, ())))
noncomputable def gw_FnExactSolutionsOf_j10 {R : Type} (K : Nat) (k : Nat) (x : den lv_w_FnExactSolutionsOf_J10.ty) (kn : den lv_w_FnExactSolutionsOf_N10.ty → Option R) (kx : Nat → St → Option R) (kr : St → Option R) : Option R := w_FnExactSolutionsOf_j10 K k x.1 x.2.1 x.2.2.1 x.2.2.2.1.1 x.2.2.2.1.2.1 x.2.2.2.2.1 x.2.2.2.2.2.1 (kn ()) (fun z0 => kr (mkSt rv_w_FnExactSolutionsOf (z0, ())))
noncomputable def sg_w_FnExactSolutionsOf {R : Type} (K : Nat) (k : Nat) : List (Nat × SegS R) := [(27, mkSeg lv_w_FnExactSolutionsOf_J27 lv_w_FnExactSolutionsOf_N27 (gw_FnExactSolutionsOf_j27 K k)), (16, mkSeg lv_w_FnExactSolutionsOf_J16 lv_w_FnExactSolutionsOf_N16 (gw_FnExactSolutionsOf_j16 K k)), (10, mkSeg lv_w_FnExactSolutionsOf_J10 lv_w_FnExactSolutionsOf_N10 (gw_FnExactSolutionsOf_j10 K k))]
noncomputable def su_w_FnExactSolutionsOf : List (Nat × Unit) := [(27, ()), (16, ()), (10, ())]
noncomputable def en_w_FnExactSolutionsOf {R : Type} (K : Nat) (k : Nat) : Env R := { L := lk [], X := lk [], S := lk (sg_w_FnExactSolutionsOf K k), rv := rv_w_FnExactSolutionsOf }
noncomputable def cf_w_FnExactSolutionsOf (K : Nat) : Cfg := { ty := lk tys, fn := lk [(17, sp_w_eqInt64S (w_eqInt64S K)), (18, sp_w_markInt64S (w_markInt64S K)), (19, sp_w_heldInt64S (w_heldInt64S K)), (20, sp_w_szInstance (w_szInstance K)), (22, sp_w_toInstance (w_toInstance K)), (24, sp_w_eqInstance (w_eqInstance K)), (32, sp_w_markInstance (w_markInstance K)), (33, sp_s_SolutionsOf (s_SolutionsOf K)), (34, sp_i_SolutionsOf (i_SolutionsOf K))], prot := 0, nt := Try.f7.ntmps }
noncomputable def c_w_FnExactSolutionsOf_J10 : Code := nthC (partsOf (hasK su_w_FnExactSolutionsOf) (bodyOf Try.f7)) 0
noncomputable def c_w_FnExactSolutionsOf_J16 : Code := nthC (partsOf (hasK su_w_FnExactSolutionsOf) c_w_FnExactSolutionsOf_J10) 0
noncomputable def c_w_FnExactSolutionsOf_J27 : Code := nthC (partsOf (hasK su_w_FnExactSolutionsOf) c_w_FnExactSolutionsOf_J16) 0
theorem ew_FnExactSolutionsOf_j27 {R : Type} (K : Nat) (k : Nat) (x : den lv_w_FnExactSolutionsOf_J27.ty) (kn : den lv_w_FnExactSolutionsOf_N27.ty → Option R) (kx : Nat → St → Option R) (kr : St → Option R) : gw_FnExactSolutionsOf_j27 K k x kn kx kr = evC (cf_w_FnExactSolutionsOf K) (en_w_FnExactSolutionsOf K k) c_w_FnExactSolutionsOf_J27 (mkSt lv_w_FnExactSolutionsOf_J27 x) (cutK lv_w_FnExactSolutionsOf_N27 kn) kx kr := by kernel_rfl
theorem sw_FnExactSolutionsOf_j27 {R : Type} (K : Nat) (C : Cx) (hP : C.P = Try.prog) (O : CfgOk C (cf_w_FnExactSolutionsOf K)) (k : Nat) : SgS C (R := R) (mkSeg lv_w_FnExactSolutionsOf_J27 lv_w_FnExactSolutionsOf_N27 (gw_FnExactSolutionsOf_j27 K k)) c_w_FnExactSolutionsOf_J27 :=
  seg_sound O (by rw [hP]; kernel_rfl) (ew_FnExactSolutionsOf_j27 K k) (lpOk_of (en := en_w_FnExactSolutionsOf K k) (S := hasK su_w_FnExactSolutionsOf) (fun i => hasK_lk (sg_w_FnExactSolutionsOf K k) i) _ (by rw [show partsOf (hasK su_w_FnExactSolutionsOf) c_w_FnExactSolutionsOf_J27 = [] from by kernel_rfl]; exact trivial))
theorem ew_FnExactSolutionsOf_j16 {R : Type} (K : Nat) (k : Nat) (x : den lv_w_FnExactSolutionsOf_J16.ty) (kn : den lv_w_FnExactSolutionsOf_N16.ty → Option R) (kx : Nat → St → Option R) (kr : St → Option R) : gw_FnExactSolutionsOf_j16 K k x kn kx kr = evC (cf_w_FnExactSolutionsOf K) (en_w_FnExactSolutionsOf K k) c_w_FnExactSolutionsOf_J16 (mkSt lv_w_FnExactSolutionsOf_J16 x) (cutK lv_w_FnExactSolutionsOf_N16 kn) kx kr := by kernel_rfl
theorem sw_FnExactSolutionsOf_j16 {R : Type} (K : Nat) (C : Cx) (hP : C.P = Try.prog) (O : CfgOk C (cf_w_FnExactSolutionsOf K)) (k : Nat) : SgS C (R := R) (mkSeg lv_w_FnExactSolutionsOf_J16 lv_w_FnExactSolutionsOf_N16 (gw_FnExactSolutionsOf_j16 K k)) c_w_FnExactSolutionsOf_J16 :=
  seg_sound O (by rw [hP]; kernel_rfl) (ew_FnExactSolutionsOf_j16 K k) (lpOk_of (en := en_w_FnExactSolutionsOf K k) (S := hasK su_w_FnExactSolutionsOf) (fun i => hasK_lk (sg_w_FnExactSolutionsOf K k) i) _ (by rw [show partsOf (hasK su_w_FnExactSolutionsOf) c_w_FnExactSolutionsOf_J16 = [(false, c_w_FnExactSolutionsOf_J27)] from by kernel_rfl]; exact (lpL_seg (f := mkSeg lv_w_FnExactSolutionsOf_J27 lv_w_FnExactSolutionsOf_N27 (gw_FnExactSolutionsOf_j27 K k)) (by kernel_rfl) (sw_FnExactSolutionsOf_j27 K C hP O k) trivial)))
theorem ew_FnExactSolutionsOf_j10 {R : Type} (K : Nat) (k : Nat) (x : den lv_w_FnExactSolutionsOf_J10.ty) (kn : den lv_w_FnExactSolutionsOf_N10.ty → Option R) (kx : Nat → St → Option R) (kr : St → Option R) : gw_FnExactSolutionsOf_j10 K k x kn kx kr = evC (cf_w_FnExactSolutionsOf K) (en_w_FnExactSolutionsOf K k) c_w_FnExactSolutionsOf_J10 (mkSt lv_w_FnExactSolutionsOf_J10 x) (cutK lv_w_FnExactSolutionsOf_N10 kn) kx kr := by kernel_rfl
theorem sw_FnExactSolutionsOf_j10 {R : Type} (K : Nat) (C : Cx) (hP : C.P = Try.prog) (O : CfgOk C (cf_w_FnExactSolutionsOf K)) (k : Nat) : SgS C (R := R) (mkSeg lv_w_FnExactSolutionsOf_J10 lv_w_FnExactSolutionsOf_N10 (gw_FnExactSolutionsOf_j10 K k)) c_w_FnExactSolutionsOf_J10 :=
  seg_sound O (by rw [hP]; kernel_rfl) (ew_FnExactSolutionsOf_j10 K k) (lpOk_of (en := en_w_FnExactSolutionsOf K k) (S := hasK su_w_FnExactSolutionsOf) (fun i => hasK_lk (sg_w_FnExactSolutionsOf K k) i) _ (by rw [show partsOf (hasK su_w_FnExactSolutionsOf) c_w_FnExactSolutionsOf_J10 = [(false, c_w_FnExactSolutionsOf_J16)] from by kernel_rfl]; exact (lpL_seg (f := mkSeg lv_w_FnExactSolutionsOf_J16 lv_w_FnExactSolutionsOf_N16 (gw_FnExactSolutionsOf_j16 K k)) (by kernel_rfl) (sw_FnExactSolutionsOf_j16 K C hP O k) trivial)))
theorem e_w_FnExactSolutionsOf (K : Nat) (x : den as_w_FnExactSolutionsOf) : w_FnExactSolutionsOf K x = evFn (cf_w_FnExactSolutionsOf K) as_w_FnExactSolutionsOf [false] .bool (en_w_FnExactSolutionsOf K K) Try.f7.results.toList (bodyOf Try.f7) x := by kernel_rfl
theorem ok_w_FnExactSolutionsOf (K : Nat) : FnOk Try.prog 7 (sp_w_FnExactSolutionsOf (w_FnExactSolutionsOf K)) :=
  fn_ok (cf := cf_w_FnExactSolutionsOf K) (en := en_w_FnExactSolutionsOf K K) (c := bodyOf Try.f7) Try.func7 (by kernel_rfl) (by kernel_rfl) tysOk (fns_ok (l := [(17, sp_w_eqInt64S (w_eqInt64S K)), (18, sp_w_markInt64S (w_markInt64S K)), (19, sp_w_heldInt64S (w_heldInt64S K)), (20, sp_w_szInstance (w_szInstance K)), (22, sp_w_toInstance (w_toInstance K)), (24, sp_w_eqInstance (w_eqInstance K)), (32, sp_w_markInstance (w_markInstance K)), (33, sp_s_SolutionsOf (s_SolutionsOf K)), (34, sp_i_SolutionsOf (i_SolutionsOf K))]) ⟨ok_w_eqInt64S K, ⟨ok_w_markInt64S K, ⟨ok_w_heldInt64S K, ⟨ok_w_szInstance K, ⟨ok_w_toInstance K, ⟨ok_w_eqInstance K, ⟨ok_w_markInstance K, ⟨ok_s_SolutionsOf K, ⟨ok_i_SolutionsOf K, trivial⟩⟩⟩⟩⟩⟩⟩⟩⟩) (by kernel_rfl) rfl (Nat.le_of_ble_eq_true (by kernel_rfl)) (by kernel_rfl) (of_decide_eq_true (by kernel_rfl)) (by decide) (fun C hP O => lpOk_of (en := en_w_FnExactSolutionsOf K K) (S := hasK su_w_FnExactSolutionsOf) (fun i => hasK_lk (sg_w_FnExactSolutionsOf K K) i) _ (by rw [show partsOf (hasK su_w_FnExactSolutionsOf) (bodyOf Try.f7) = [(false, c_w_FnExactSolutionsOf_J10)] from by kernel_rfl]; exact (lpL_seg (f := mkSeg lv_w_FnExactSolutionsOf_J10 lv_w_FnExactSolutionsOf_N10 (gw_FnExactSolutionsOf_j10 K K)) (by kernel_rfl) (sw_FnExactSolutionsOf_j10 K C hP O K) trivial))) (fun x y h => by rw [← e_w_FnExactSolutionsOf]; exact h)
end Go.Proofs.Ytieiajeggahipaa.E
