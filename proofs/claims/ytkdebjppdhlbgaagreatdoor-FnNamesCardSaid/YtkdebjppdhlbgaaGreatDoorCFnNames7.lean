/-
  What the Go functions that FnNames reaches hand back, each as a plain function with a proof that the call does so, and plain lemmas on them. Conditions: those of each theorem.
-/
import Derived.Test.YtkdebjppdhlbgaaGreatDoorCFnNames6
namespace Go.Proofs.YtkdebjppdhlbgaaGreatDoor.E
open Go Go.Proofs Go.Proofs.YtkdebjppdhlbgaaGreatDoor
set_option maxRecDepth 100000
set_option linter.unusedVariables false
noncomputable def ps_s_l01DrawOf : Lv := [(0, (.bx (.v tq1))), (1, (.v (.int .i64)))]
noncomputable def rl_s_l01DrawOf : Lv := [(0, (.v tq0))]
noncomputable def sp_s_l01DrawOf (F : (dq1 × Int × Unit) → Option ((dq0 × Unit) × (dq1 × Unit))) : ShSpec := ⟨ps_s_l01DrawOf, rl_s_l01DrawOf, F⟩
noncomputable def s_l01DrawOf_j33 {R : Type} (K : Nat) (k : Nat) (v0 : dq1) (v4 : dq0) (v5 : dq0) (kn : Option R) (kr : (dq1 → dq0 → Option R)) : Option R :=
    kr v0 v5
noncomputable def s_l01DrawOf_l11 {R : Type} (K : Nat) : Nat → dq1 → Int → dq0 → Int → (List Int) → Int → Int → (dq1 → Int → dq0 → (List Int) → Option R) → Option R
  | 0, _, _, _, _, _, _, _, _ => none
  | k + 1, v0, v1, v4, v6, v7, v8, v9, kx1 =>
    (s_l01Rows K (v1, ())).bind fun y14 =>
    (if (decide (v9 < y14)) = true then
    let x15 := (((4 : Int), ((0 : Int), (0 : Int), ()).2.1, ()).1, (bitI .and .i64 v9 v6), ())
    (s_l01Weight K (x15, ())).bind fun y16 =>
    let l17 := [(Int.tmod (IntKind.i64.wrap (y16 + v8)) (2 : Int))]
    (if (decide (v7.length + l17.length ≤ lim)) = true then
    let l18 := (v7 ++ l17)
    s_l01DrawOf_l11 K k v0 v1 v4 v6 l18 v8 (IntKind.i64.wrap (v9 + (1 : Int))) kx1
    else
    none)
    else
    kx1 v0 v1 v4 v7)
noncomputable def s_l01DrawOf_j19 {R : Type} (K : Nat) (k : Nat) (v0 : dq1) (v1 : Int) (v4 : dq0) (v10 : (List Int)) (v11 : Int) (v12 : Int) (v13 : Int) (kn : dq1 → Int → dq0 → (List Int) → Int → Int → Int → Option R)  : Option R :=
    kn v0 v1 v4 v10 v11 v12 (IntKind.i64.wrap (v13 + (1 : Int)))
noncomputable def s_l01DrawOf_l18 {R : Type} (K : Nat) : Nat → dq1 → Int → dq0 → (List Int) → Int → Int → Int → (dq1 → Int → dq0 → (List Int) → Option R) → Option R
  | 0, _, _, _, _, _, _, _, _ => none
  | k + 1, v0, v1, v4, v10, v11, v12, v13, kx3 =>
    (s_l01Rows K (v1, ())).bind fun y29 =>
    (if (decide (v13 < y29)) = true then
    (if (decide ((bitI .and .i64 v13 v11) = v11)) = true then
    let l30 := [(1 : Int)]
    (if (decide (v10.length + l30.length ≤ lim)) = true then
    let l31 := (v10 ++ l30)
    s_l01DrawOf_j19 K k v0 v1 v4 l31 v11 v12 v13 (fun z32 z33 z34 z35 z36 z37 z38 =>
    s_l01DrawOf_l18 K k z32 z33 z34 z35 z36 z37 z38 kx3)
    else
    none)
    else
    (if (decide ((bitI .and .i64 v13 v12) = v12)) = true then
    let l39 := [(1 : Int)]
    (if (decide (v10.length + l39.length ≤ lim)) = true then
    let l40 := (v10 ++ l39)
    s_l01DrawOf_j19 K k v0 v1 v4 l40 v11 v12 v13 (fun z41 z42 z43 z44 z45 z46 z47 =>
    s_l01DrawOf_l18 K k z41 z42 z43 z44 z45 z46 z47 kx3)
    else
    none)
    else
    let l48 := [(0 : Int)]
    (if (decide (v10.length + l48.length ≤ lim)) = true then
    let l49 := (v10 ++ l48)
    s_l01DrawOf_j19 K k v0 v1 v4 l49 v11 v12 v13 (fun z50 z51 z52 z53 z54 z55 z56 =>
    s_l01DrawOf_l18 K k z50 z51 z52 z53 z54 z55 z56 kx3)
    else
    none)))
    else
    kx3 v0 v1 v4 v10)
noncomputable def s_l01DrawOf (K : Nat) (x : (dq1 × Int × Unit)) : Option ((dq0 × Unit) × (dq1 × Unit)) :=
    (s_l01All K (x.2.1, ())).bind fun y1 =>
    (s_l01Next K (x.1, (IntKind.i64.wrap (y1 + (1 : Int))), ())).bind fun y2 =>
    (s_l01Next K (y2.2.1, (8 : Int), ())).bind fun y3 =>
    (if (decide (y3.1.1 = (0 : Int))) = true then
    (if (decide (x.2.1 > (0 : Int))) = true then
    (s_l01Next K (y3.2.1, x.2.1, ())).bind fun y4 =>
    (s_l01Projection K (x.2.1, y4.1.1, ())).bind fun y5 =>
    some ((y5, ()), (y4.2.1, ()))
    else
    s_l01DrawOf_j33 K K y3.2.1 ((0 : Int), (0 : Int), ()) ((x.2.1, ((0 : Int), (0 : Int), ()).2.1, ()).1, y2.1.1, ()) none (fun z6 z7 =>
    some ((z7, ()), (z6, ()))))
    else
    (if (decide (y3.1.1 = (1 : Int))) = true then
    (s_l01Next K (y3.2.1, (2 : Int), ())).bind fun y8 =>
    (s_l01Constant K (x.2.1, y8.1.1, ())).bind fun y9 =>
    some ((y9, ()), (y8.2.1, ()))
    else
    (if (decide (y3.1.1 = (2 : Int))) = true then
    (s_l01Rows K (x.2.1, ())).bind fun y10 =>
    (s_l01Next K (y3.2.1, y10, ())).bind fun y11 =>
    let l12 := ([] : List Int)
    (s_l01Next K (y11.2.1, (2 : Int), ())).bind fun y13 =>
    s_l01DrawOf_l11 K K y13.2.1 x.2.1 ((0 : Int), (0 : Int), ()) y11.1.1 l12 y13.1.1 (0 : Int) (fun z19 z20 z21 z22 =>
    (s_l01Of K (z20, z22, ())).bind fun y23 =>
    some ((y23, ()), (z19, ())))
    else
    (if (decide (y3.1.1 = (3 : Int))) = true then
    let l24 := ([] : List Int)
    (s_l01Rows K (x.2.1, ())).bind fun y25 =>
    (s_l01Next K (y3.2.1, y25, ())).bind fun y26 =>
    (s_l01Rows K (x.2.1, ())).bind fun y27 =>
    (s_l01Next K (y26.2.1, y27, ())).bind fun y28 =>
    s_l01DrawOf_l18 K K y28.2.1 x.2.1 ((0 : Int), (0 : Int), ()) l24 y26.1.1 y28.1.1 (0 : Int) (fun z57 z58 z59 z60 =>
    (s_l01Of K (z58, z60, ())).bind fun y61 =>
    some ((y61, ()), (z57, ())))
    else
    (if (decide (y3.1.1 = (4 : Int))) = true then
    (s_l01Known K ()).bind fun y62 =>
    (s_l01Next K (y3.2.1, (y62.length : Int), ())).bind fun y63 =>
    (if (bnds y63.1.1 (y62.length : Int)) = true then
    (s_l01Read K ((y62.getD y63.1.1.toNat ByteArray.empty), ())).bind fun y64 =>
    (if (decide (y64.1.1 = x.2.1)) = true then
    some ((y64.1, ()), (y63.2.1, ()))
    else
    s_l01DrawOf_j33 K K y63.2.1 ((0 : Int), (0 : Int), ()) ((x.2.1, ((0 : Int), (0 : Int), ()).2.1, ()).1, y2.1.1, ()) none (fun z65 z66 =>
    some ((z66, ()), (z65, ()))))
    else
    none)
    else
    (if (decide (y3.1.1 = (5 : Int))) = true then
    (if (decide (x.2.1 > (0 : Int))) = true then
    (s_l01Fix K (((x.2.1, ((0 : Int), (0 : Int), ()).2.1, ()).1, y2.1.1, ()), (IntKind.i64.wrap (x.2.1 - (1 : Int))), (0 : Int), ())).bind fun y67 =>
    (s_l01Dual K (y67, ())).bind fun y68 =>
    (s_l01Rows K ((IntKind.i64.wrap (x.2.1 - (1 : Int))), ())).bind fun y69 =>
    (if (decide ((0 : Int) ≤ (IntKind.u64.wrap y69))) = true then
    let x70 := (IntKind.i64.wrap (y67.2.1 + (shlI .i64 y68.2.1 (IntKind.u64.wrap y69))))
    some ((((x.2.1, ((0 : Int), (0 : Int), ()).2.1, ()).1, x70, ()), ()), (y3.2.1, ()))
    else
    none)
    else
    s_l01DrawOf_j33 K K y3.2.1 ((0 : Int), (0 : Int), ()) ((x.2.1, ((0 : Int), (0 : Int), ()).2.1, ()).1, y2.1.1, ()) none (fun z71 z72 =>
    some ((z72, ()), (z71, ()))))
    else
    s_l01DrawOf_j33 K K y3.2.1 ((0 : Int), (0 : Int), ()) ((x.2.1, ((0 : Int), (0 : Int), ()).2.1, ()).1, y2.1.1, ()) none (fun z73 z74 =>
    some ((z74, ()), (z73, ())))))))))
noncomputable def X1_s_l01DrawOf : Lv := [(0, (.bx (.v tq1))), (1, (.v (.int .i64))), (4, (.bx (.v tq0))), (7, (.r (.int .i64)))]
noncomputable def X3_s_l01DrawOf : Lv := [(0, (.bx (.v tq1))), (1, (.v (.int .i64))), (4, (.bx (.v tq0))), (10, (.r (.int .i64)))]
noncomputable def rv_s_l01DrawOf : Lv := [(0, (.bx (.v tq1))), (4, (.bx (.v tq0)))]
noncomputable def D_s_l01DrawOf (K : Nat) : List (PD (den rl_s_l01DrawOf.ty × den (outL ps_s_l01DrawOf).ty)) := [.L 11 [(0, (.bx (.v tq1))), (1, (.v (.int .i64))), (4, (.bx (.v tq0))), (6, (.v (.int .i64))), (7, (.r (.int .i64))), (8, (.v (.int .i64))), (9, (.v (.int .i64)))] [] (fun k x kx kr => s_l01DrawOf_l11 K k x.1 x.2.1 x.2.2.1 x.2.2.2.1 x.2.2.2.2.1 x.2.2.2.2.2.1 x.2.2.2.2.2.2.1 (fun z0 z1 z2 z3 => kx 1 (mkSt X1_s_l01DrawOf (z0, z1, z2, z3, ())))),
  .L 18 [(0, (.bx (.v tq1))), (1, (.v (.int .i64))), (4, (.bx (.v tq0))), (10, (.r (.int .i64))), (11, (.v (.int .i64))), (12, (.v (.int .i64))), (13, (.v (.int .i64)))] [] (fun k x kx kr => s_l01DrawOf_l18 K k x.1 x.2.1 x.2.2.1 x.2.2.2.1 x.2.2.2.2.1 x.2.2.2.2.2.1 x.2.2.2.2.2.2.1 (fun z0 z1 z2 z3 => kx 3 (mkSt X3_s_l01DrawOf (z0, z1, z2, z3, ())))),
  .J 19 [(0, (.bx (.v tq1))), (1, (.v (.int .i64))), (4, (.bx (.v tq0))), (10, (.r (.int .i64))), (11, (.v (.int .i64))), (12, (.v (.int .i64))), (13, (.v (.int .i64)))] [(0, (.bx (.v tq1))), (1, (.v (.int .i64))), (4, (.bx (.v tq0))), (10, (.r (.int .i64))), (11, (.v (.int .i64))), (12, (.v (.int .i64))), (13, (.v (.int .i64)))] 0 (fun k x kn kx kr => s_l01DrawOf_j19 K k x.1 x.2.1 x.2.2.1 x.2.2.2.1 x.2.2.2.2.1 x.2.2.2.2.2.1 x.2.2.2.2.2.2.1 (fun z0 z1 z2 z3 z4 z5 z6 => kn (z0, z1, z2, z3, z4, z5, z6, ()))),
  .J 33 [(0, (.bx (.v tq1))), (4, (.bx (.v tq0))), (5, (.bx (.v tq0)))] [] 0 (fun k x kn kx kr => s_l01DrawOf_j33 K k x.1 x.2.1 x.2.2.1 (kn ()) (fun z0 z1 => kr (mkSt rv_s_l01DrawOf (z0, z1, ()))))]
theorem ok_s_l01DrawOf (K : Nat) : ShOk Tryz.prog 71 (sp_s_l01DrawOf (s_l01DrawOf K)) :=
  sh_okD tysOk [C_s_l01Next K, C_s_l01Dual K, C_s_l01Rows K, C_s_l01All K, C_s_l01Of K, C_s_l01Fix K, C_s_l01Projection K, C_s_l01Constant K, C_s_l01Weight K, C_s_l01Known K, C_s_l01Read K] 1 (D_s_l01DrawOf K) [(1, X1_s_l01DrawOf), (3, X3_s_l01DrawOf)] rv_s_l01DrawOf K Tryz.func71 (by kernel_rfl) ⟨⟨fun _ _ _ _ => by kernel_rfl, fun _ _ _ => rfl⟩, ⟨⟨fun _ _ _ _ => by kernel_rfl, fun _ _ _ => rfl⟩, ⟨fun _ _ _ _ _ => by kernel_rfl, ⟨fun _ _ _ _ _ => by kernel_rfl, trivial⟩⟩⟩⟩ (fun _ => by kernel_rfl)
noncomputable def C_s_l01DrawOf (K : Nat) : CB Tryz.prog := .s _ _ (ok_s_l01DrawOf K)
noncomputable def ps_s_l01Bad : Lv := [(0, (.bx (.v tq1))), (1, (.v tq0))]
noncomputable def rl_s_l01Bad : Lv := [(0, (.v tq0))]
noncomputable def sp_s_l01Bad (F : (dq1 × dq0 × Unit) → Option ((dq0 × Unit) × (dq1 × Unit))) : ShSpec := ⟨ps_s_l01Bad, rl_s_l01Bad, F⟩
noncomputable def s_l01Bad (K : Nat) (x : (dq1 × dq0 × Unit)) : Option ((dq0 × Unit) × (dq1 × Unit)) :=
    (s_l01Next K (x.1, (50 : Int), ())).bind fun y1 =>
    (if (decide (y1.1.1 = (0 : Int))) = true then
    let l2 := [(-1 : Int), (5 : Int), (1099511627776 : Int)]
    (s_l01Pick K (y1.2.1, l2, ())).bind fun y3 =>
    let x4 := ((y3.1.1, ((0 : Int), (0 : Int), ()).2.1, ()).1, x.2.1.2.1, ())
    some ((x4, ()), (y3.2.1, ()))
    else
    (if (decide (y1.1.1 = (1 : Int))) = true then
    (s_l01All K (x.2.1.1, ())).bind fun y5 =>
    let l6 := [(-1 : Int), (IntKind.i64.wrap (y5 + (1 : Int))), (1099511627776 : Int)]
    (s_l01Pick K (y1.2.1, l6, ())).bind fun y7 =>
    let x8 := ((x.2.1.1, ((0 : Int), (0 : Int), ()).2.1, ()).1, y7.1.1, ())
    some ((x8, ()), (y7.2.1, ()))
    else
    some ((x.2.1, ()), (y1.2.1, ()))))
noncomputable def rv_s_l01Bad : Lv := [(0, (.bx (.v tq1))), (4, (.bx (.v tq0)))]
theorem ok_s_l01Bad (K : Nat) : ShOk Tryz.prog 114 (sp_s_l01Bad (s_l01Bad K)) :=
  sh_okD tysOk [C_s_l01Next K, C_s_l01Pick K, C_s_l01All K] 1 [] [] rv_s_l01Bad K Tryz.func114 (by kernel_rfl) trivial (fun _ => by kernel_rfl)
noncomputable def C_s_l01Bad (K : Nat) : CB Tryz.prog := .s _ _ (ok_s_l01Bad K)
noncomputable def ps_s_l01Draw : Lv := [(0, (.bx (.v tq1)))]
noncomputable def rl_s_l01Draw : Lv := [(0, (.v tq0))]
noncomputable def sp_s_l01Draw (F : (dq1 × Unit) → Option ((dq0 × Unit) × (dq1 × Unit))) : ShSpec := ⟨ps_s_l01Draw, rl_s_l01Draw, F⟩
noncomputable def s_l01Draw (K : Nat) (x : (dq1 × Unit)) : Option ((dq0 × Unit) × (dq1 × Unit)) :=
    let l1 := [(0 : Int), (1 : Int), (1 : Int), (2 : Int), (2 : Int), (2 : Int), (3 : Int), (3 : Int), (3 : Int), (4 : Int), (4 : Int)]
    (s_l01Pick K (x.1, l1, ())).bind fun y2 =>
    (s_l01DrawOf K (y2.2.1, y2.1.1, ())).bind fun y3 =>
    some ((y3.1.1, ()), (y3.2.1, ()))
noncomputable def rv_s_l01Draw : Lv := [(0, (.bx (.v tq1))), (2, (.bx (.v tq0)))]
theorem ok_s_l01Draw (K : Nat) : ShOk Tryz.prog 115 (sp_s_l01Draw (s_l01Draw K)) :=
  sh_okD tysOk [C_s_l01Pick K, C_s_l01DrawOf K] 1 [] [] rv_s_l01Draw K Tryz.func115 (by kernel_rfl) trivial (fun _ => by kernel_rfl)
noncomputable def C_s_l01Draw (K : Nat) : CB Tryz.prog := .s _ _ (ok_s_l01Draw K)
noncomputable def ps_s_l01Spoil : Lv := [(0, (.bx (.v tq1)))]
noncomputable def rl_s_l01Spoil : Lv := [(0, (.v tq0))]
noncomputable def sp_s_l01Spoil (F : (dq1 × Unit) → Option ((dq0 × Unit) × (dq1 × Unit))) : ShSpec := ⟨ps_s_l01Spoil, rl_s_l01Spoil, F⟩
noncomputable def s_l01Spoil (K : Nat) (x : (dq1 × Unit)) : Option ((dq0 × Unit) × (dq1 × Unit)) :=
    (s_l01Draw K (x.1, ())).bind fun y1 =>
    (s_l01Bad K (y1.2.1, y1.1.1, ())).bind fun y2 =>
    some ((y2.1.1, ()), (y2.2.1, ()))
noncomputable def rv_s_l01Spoil : Lv := [(0, (.bx (.v tq1))), (2, (.bx (.v tq0)))]
theorem ok_s_l01Spoil (K : Nat) : ShOk Tryz.prog 72 (sp_s_l01Spoil (s_l01Spoil K)) :=
  sh_okD tysOk [C_s_l01Bad K, C_s_l01Draw K] 1 [] [] rv_s_l01Spoil K Tryz.func72 (by kernel_rfl) trivial (fun _ => by kernel_rfl)
noncomputable def C_s_l01Spoil (K : Nat) : CB Tryz.prog := .s _ _ (ok_s_l01Spoil K)
noncomputable def ps_s_l02DrawIn : Lv := [(0, (.bx (.v tq1)))]
noncomputable def rl_s_l02DrawIn : Lv := [(0, (.v tq0))]
noncomputable def sp_s_l02DrawIn (F : (dq1 × Unit) → Option ((dq0 × Unit) × (dq1 × Unit))) : ShSpec := ⟨ps_s_l02DrawIn, rl_s_l02DrawIn, F⟩
noncomputable def s_l02DrawIn_l13 {R : Type} (K : Nat) : Nat → dq1 → dq0 → Int → Int → Int → Int → Int → Int → (dq1 → dq0 → Int → Int → Int → Int → Int → Option R) → Option R
  | 0, _, _, _, _, _, _, _, _, _ => none
  | k + 1, v0, v2, v3, v5, v6, v7, v8, v9, kx3 =>
    (if (decide (v9 < v3)) = true then
    (if (decide ((0 : Int) ≤ (IntKind.u64.wrap v9))) = true then
    let x8 := (bitI .and .i64 (shrI .i64 v7 (IntKind.u64.wrap v9)) (1 : Int))
    (if (decide (x8 = (1 : Int))) = true then
    (if (decide ((0 : Int) ≤ (IntKind.u64.wrap (IntKind.i64.wrap (v9 + (1 : Int)))))) = true then
    let x9 := (shrI .i64 v6 (IntKind.u64.wrap (IntKind.i64.wrap (v9 + (1 : Int)))))
    s_l02DrawIn_l13 K k v0 v2 v3 v5 v6 v7 (IntKind.i64.wrap (v8 + x9)) (IntKind.i64.wrap (v9 + (1 : Int))) kx3
    else
    none)
    else
    s_l02DrawIn_l13 K k v0 v2 v3 v5 v6 v7 v8 (IntKind.i64.wrap (v9 + (1 : Int))) kx3)
    else
    none)
    else
    kx3 v0 v2 v3 v5 v6 v7 v8)
noncomputable def s_l02DrawIn_l9 {R : Type} (K : Nat) : Nat → dq1 → dq0 → Int → Int → Int → Int → (dq1 → dq0 → Int → Int → Option R) → Option R
  | 0, _, _, _, _, _, _, _ => none
  | k + 1, v0, v2, v3, v5, v6, v7, kx1 =>
    (s_l01Rows K (v3, ())).bind fun y7 =>
    (if (decide (v7 < y7)) = true then
    s_l02DrawIn_l13 K k v0 v2 v3 v5 v6 v7 v6 (0 : Int) (fun z10 z11 z12 z13 z14 z15 z16 =>
    (if (decide ((0 : Int) ≤ (IntKind.u64.wrap z15))) = true then
    let x17 := (shlI .i64 (bitI .and .i64 z16 (1 : Int)) (IntKind.u64.wrap z15))
    s_l02DrawIn_l9 K k z10 z11 z12 (bitI .or .i64 z13 x17) z14 (IntKind.i64.wrap (z15 + (1 : Int))) kx1
    else
    none))
    else
    kx1 v0 v2 v3 v5)
noncomputable def s_l02DrawIn_l26 {R : Type} (K : Nat) : Nat → dq1 → dq0 → Int → Int → Int → Int → Int → Int → (dq1 → dq0 → Int → Int → Int → Int → Int → Option R) → Option R
  | 0, _, _, _, _, _, _, _, _, _ => none
  | k + 1, v0, v2, v3, v10, v11, v12, v13, v14, kx7 =>
    (if (decide (v14 < v3)) = true then
    (if (decide ((0 : Int) ≤ (IntKind.u64.wrap v14))) = true then
    let x24 := (bitI .and .i64 (shrI .i64 v12 (IntKind.u64.wrap v14)) (1 : Int))
    s_l02DrawIn_l26 K k v0 v2 v3 v10 v11 v12 (IntKind.i64.wrap (v13 + x24)) (IntKind.i64.wrap (v14 + (1 : Int))) kx7
    else
    none)
    else
    kx7 v0 v2 v3 v10 v11 v12 v13)
noncomputable def s_l02DrawIn_l22 {R : Type} (K : Nat) : Nat → dq1 → dq0 → Int → Int → Int → Int → (dq1 → dq0 → Int → Int → Option R) → Option R
  | 0, _, _, _, _, _, _, _ => none
  | k + 1, v0, v2, v3, v10, v11, v12, kx5 =>
    (s_l01Rows K (v3, ())).bind fun y23 =>
    (if (decide (v12 < y23)) = true then
    s_l02DrawIn_l26 K k v0 v2 v3 v10 v11 v12 (0 : Int) (0 : Int) (fun z25 z26 z27 z28 z29 z30 z31 =>
    (if (decide (z31 ≥ z29)) = true then
    (if (decide ((0 : Int) ≤ (IntKind.u64.wrap z30))) = true then
    let x32 := (bitI .or .i64 z28 (shlI .i64 (1 : Int) (IntKind.u64.wrap z30)))
    s_l02DrawIn_l22 K k z25 z26 z27 x32 z29 (IntKind.i64.wrap (z30 + (1 : Int))) kx5
    else
    none)
    else
    s_l02DrawIn_l22 K k z25 z26 z27 z28 z29 (IntKind.i64.wrap (z30 + (1 : Int))) kx5))
    else
    kx5 v0 v2 v3 v10)
noncomputable def s_l02DrawIn_j36 {R : Type} (K : Nat) (k : Nat) (v0 : dq1) (v2 : dq0) (v3 : Int) (v4 : dq0) (v15 : Int) (v16 : Int) (kn : dq1 → dq0 → Int → dq0 → Int → Int → Option R)  : Option R :=
    kn v0 v2 v3 v4 v15 (IntKind.i64.wrap (v16 + (1 : Int)))
noncomputable def s_l02DrawIn_l35 {R : Type} (K : Nat) : Nat → dq1 → dq0 → Int → dq0 → Int → Int → (dq1 → dq0 → Int → Int → Option R) → Option R
  | 0, _, _, _, _, _, _, _ => none
  | k + 1, v0, v2, v3, v4, v15, v16, kx9 =>
    (s_l01Rows K (v3, ())).bind fun y37 =>
    (if (decide (v16 < y37)) = true then
    (s_l01Rows K (v3, ())).bind fun y38 =>
    let x39 := (IntKind.i64.wrap ((IntKind.i64.wrap (y38 - (1 : Int))) - v16))
    (if (decide (v16 < x39)) = true then
    (s_l01At K (v4, v16, ())).bind fun y40 =>
    (if (decide (y40 = (1 : Int))) = true then
    (if (decide ((0 : Int) ≤ (IntKind.u64.wrap v16))) = true then
    let x41 := (bitI .or .i64 v15 (shlI .i64 (1 : Int) (IntKind.u64.wrap v16)))
    s_l02DrawIn_j36 K k v0 v2 v3 v4 x41 v16 (fun z42 z43 z44 z45 z46 z47 =>
    s_l02DrawIn_l35 K k z42 z43 z44 z45 z46 z47 kx9)
    else
    none)
    else
    (if (decide (v16 > x39)) = true then
    (s_l01At K (v4, x39, ())).bind fun y48 =>
    (if (decide (y48 = (0 : Int))) = true then
    (if (decide ((0 : Int) ≤ (IntKind.u64.wrap v16))) = true then
    let x49 := (bitI .or .i64 v15 (shlI .i64 (1 : Int) (IntKind.u64.wrap v16)))
    s_l02DrawIn_j36 K k v0 v2 v3 v4 x49 v16 (fun z50 z51 z52 z53 z54 z55 =>
    s_l02DrawIn_l35 K k z50 z51 z52 z53 z54 z55 kx9)
    else
    none)
    else
    s_l02DrawIn_j36 K k v0 v2 v3 v4 v15 v16 (fun z56 z57 z58 z59 z60 z61 =>
    s_l02DrawIn_l35 K k z56 z57 z58 z59 z60 z61 kx9))
    else
    s_l02DrawIn_j36 K k v0 v2 v3 v4 v15 v16 (fun z62 z63 z64 z65 z66 z67 =>
    s_l02DrawIn_l35 K k z62 z63 z64 z65 z66 z67 kx9)))
    else
    (if (decide (v16 > x39)) = true then
    (s_l01At K (v4, x39, ())).bind fun y68 =>
    (if (decide (y68 = (0 : Int))) = true then
    (if (decide ((0 : Int) ≤ (IntKind.u64.wrap v16))) = true then
    let x69 := (bitI .or .i64 v15 (shlI .i64 (1 : Int) (IntKind.u64.wrap v16)))
    s_l02DrawIn_j36 K k v0 v2 v3 v4 x69 v16 (fun z70 z71 z72 z73 z74 z75 =>
    s_l02DrawIn_l35 K k z70 z71 z72 z73 z74 z75 kx9)
    else
    none)
    else
    s_l02DrawIn_j36 K k v0 v2 v3 v4 v15 v16 (fun z76 z77 z78 z79 z80 z81 =>
    s_l02DrawIn_l35 K k z76 z77 z78 z79 z80 z81 kx9))
    else
    s_l02DrawIn_j36 K k v0 v2 v3 v4 v15 v16 (fun z82 z83 z84 z85 z86 z87 =>
    s_l02DrawIn_l35 K k z82 z83 z84 z85 z86 z87 kx9)))
    else
    kx9 v0 v2 v3 v15)
noncomputable def s_l02DrawIn (K : Nat) (x : (dq1 × Unit)) : Option ((dq0 × Unit) × (dq1 × Unit)) :=
    let l1 := [(0 : Int), (1 : Int), (2 : Int), (2 : Int), (3 : Int), (3 : Int), (4 : Int)]
    (s_l01Pick K (x.1, l1, ())).bind fun y2 =>
    (s_l01DrawOf K (y2.2.1, y2.1.1, ())).bind fun y3 =>
    (s_l01Next K (y3.2.1, (6 : Int), ())).bind fun y4 =>
    (if (decide (y4.1.1 = (0 : Int))) = true then
    (s_l01Spoil K (y4.2.1, ())).bind fun y5 =>
    some ((y5.1.1, ()), (y5.2.1, ()))
    else
    (if (decide (y4.1.1 = (1 : Int))) = true then
    (s_l01Next K (y4.2.1, (32 : Int), ())).bind fun y6 =>
    s_l02DrawIn_l9 K K y6.2.1 ((0 : Int), (0 : Int), ()) y2.1.1 (0 : Int) y6.1.1 (0 : Int) (fun z18 z19 z20 z21 =>
    some ((((z20, ((0 : Int), (0 : Int), ()).2.1, ()).1, z21, ()), ()), (z18, ())))
    else
    (if (decide (y4.1.1 = (2 : Int))) = true then
    (s_l01Next K (y4.2.1, (IntKind.i64.wrap (y2.1.1 + (2 : Int))), ())).bind fun y22 =>
    s_l02DrawIn_l22 K K y22.2.1 ((0 : Int), (0 : Int), ()) y2.1.1 (0 : Int) y22.1.1 (0 : Int) (fun z33 z34 z35 z36 =>
    some ((((z35, ((0 : Int), (0 : Int), ()).2.1, ()).1, z36, ()), ()), (z33, ())))
    else
    (if (decide (y4.1.1 = (3 : Int))) = true then
    s_l02DrawIn_l35 K K y4.2.1 ((0 : Int), (0 : Int), ()) y2.1.1 y3.1.1 (0 : Int) (0 : Int) (fun z88 z89 z90 z91 =>
    some ((((z90, ((0 : Int), (0 : Int), ()).2.1, ()).1, z91, ()), ()), (z88, ())))
    else
    some ((y3.1.1, ()), (y4.2.1, ()))))))
noncomputable def X1_s_l02DrawIn : Lv := [(0, (.bx (.v tq1))), (2, (.bx (.v tq0))), (3, (.v (.int .i64))), (5, (.v (.int .i64)))]
noncomputable def X3_s_l02DrawIn : Lv := [(0, (.bx (.v tq1))), (2, (.bx (.v tq0))), (3, (.v (.int .i64))), (5, (.v (.int .i64))), (6, (.v (.int .i64))), (7, (.v (.int .i64))), (8, (.v (.int .i64)))]
noncomputable def X5_s_l02DrawIn : Lv := [(0, (.bx (.v tq1))), (2, (.bx (.v tq0))), (3, (.v (.int .i64))), (10, (.v (.int .i64)))]
noncomputable def X7_s_l02DrawIn : Lv := [(0, (.bx (.v tq1))), (2, (.bx (.v tq0))), (3, (.v (.int .i64))), (10, (.v (.int .i64))), (11, (.v (.int .i64))), (12, (.v (.int .i64))), (13, (.v (.int .i64)))]
noncomputable def X9_s_l02DrawIn : Lv := [(0, (.bx (.v tq1))), (2, (.bx (.v tq0))), (3, (.v (.int .i64))), (15, (.v (.int .i64)))]
noncomputable def rv_s_l02DrawIn : Lv := [(0, (.bx (.v tq1))), (2, (.bx (.v tq0)))]
noncomputable def D_s_l02DrawIn (K : Nat) : List (PD (den rl_s_l02DrawIn.ty × den (outL ps_s_l02DrawIn).ty)) := [.L 9 [(0, (.bx (.v tq1))), (2, (.bx (.v tq0))), (3, (.v (.int .i64))), (5, (.v (.int .i64))), (6, (.v (.int .i64))), (7, (.v (.int .i64)))] [] (fun k x kx kr => s_l02DrawIn_l9 K k x.1 x.2.1 x.2.2.1 x.2.2.2.1 x.2.2.2.2.1 x.2.2.2.2.2.1 (fun z0 z1 z2 z3 => kx 1 (mkSt X1_s_l02DrawIn (z0, z1, z2, z3, ())))),
  .L 13 [(0, (.bx (.v tq1))), (2, (.bx (.v tq0))), (3, (.v (.int .i64))), (5, (.v (.int .i64))), (6, (.v (.int .i64))), (7, (.v (.int .i64))), (8, (.v (.int .i64))), (9, (.v (.int .i64)))] [] (fun k x kx kr => s_l02DrawIn_l13 K k x.1 x.2.1 x.2.2.1 x.2.2.2.1 x.2.2.2.2.1 x.2.2.2.2.2.1 x.2.2.2.2.2.2.1 x.2.2.2.2.2.2.2.1 (fun z0 z1 z2 z3 z4 z5 z6 => kx 3 (mkSt X3_s_l02DrawIn (z0, z1, z2, z3, z4, z5, z6, ())))),
  .L 22 [(0, (.bx (.v tq1))), (2, (.bx (.v tq0))), (3, (.v (.int .i64))), (10, (.v (.int .i64))), (11, (.v (.int .i64))), (12, (.v (.int .i64)))] [] (fun k x kx kr => s_l02DrawIn_l22 K k x.1 x.2.1 x.2.2.1 x.2.2.2.1 x.2.2.2.2.1 x.2.2.2.2.2.1 (fun z0 z1 z2 z3 => kx 5 (mkSt X5_s_l02DrawIn (z0, z1, z2, z3, ())))),
  .L 26 [(0, (.bx (.v tq1))), (2, (.bx (.v tq0))), (3, (.v (.int .i64))), (10, (.v (.int .i64))), (11, (.v (.int .i64))), (12, (.v (.int .i64))), (13, (.v (.int .i64))), (14, (.v (.int .i64)))] [] (fun k x kx kr => s_l02DrawIn_l26 K k x.1 x.2.1 x.2.2.1 x.2.2.2.1 x.2.2.2.2.1 x.2.2.2.2.2.1 x.2.2.2.2.2.2.1 x.2.2.2.2.2.2.2.1 (fun z0 z1 z2 z3 z4 z5 z6 => kx 7 (mkSt X7_s_l02DrawIn (z0, z1, z2, z3, z4, z5, z6, ())))),
  .L 35 [(0, (.bx (.v tq1))), (2, (.bx (.v tq0))), (3, (.v (.int .i64))), (4, (.bx (.v tq0))), (15, (.v (.int .i64))), (16, (.v (.int .i64)))] [] (fun k x kx kr => s_l02DrawIn_l35 K k x.1 x.2.1 x.2.2.1 x.2.2.2.1 x.2.2.2.2.1 x.2.2.2.2.2.1 (fun z0 z1 z2 z3 => kx 9 (mkSt X9_s_l02DrawIn (z0, z1, z2, z3, ())))),
  .J 36 [(0, (.bx (.v tq1))), (2, (.bx (.v tq0))), (3, (.v (.int .i64))), (4, (.bx (.v tq0))), (15, (.v (.int .i64))), (16, (.v (.int .i64)))] [(0, (.bx (.v tq1))), (2, (.bx (.v tq0))), (3, (.v (.int .i64))), (4, (.bx (.v tq0))), (15, (.v (.int .i64))), (16, (.v (.int .i64)))] 0 (fun k x kn kx kr => s_l02DrawIn_j36 K k x.1 x.2.1 x.2.2.1 x.2.2.2.1 x.2.2.2.2.1 x.2.2.2.2.2.1 (fun z0 z1 z2 z3 z4 z5 => kn (z0, z1, z2, z3, z4, z5, ())))]
theorem ok_s_l02DrawIn (K : Nat) : ShOk Tryz.prog 31 (sp_s_l02DrawIn (s_l02DrawIn K)) :=
  sh_okD tysOk [C_s_l01Next K, C_s_l01Rows K, C_s_l01Pick K, C_s_l01DrawOf K, C_s_l01Spoil K, C_s_l01At K] 1 (D_s_l02DrawIn K) [(1, X1_s_l02DrawIn), (3, X3_s_l02DrawIn), (5, X5_s_l02DrawIn), (7, X7_s_l02DrawIn), (9, X9_s_l02DrawIn)] rv_s_l02DrawIn K Tryz.func31 (by kernel_rfl) ⟨⟨fun _ _ _ _ => by kernel_rfl, fun _ _ _ => rfl⟩, ⟨⟨fun _ _ _ _ => by kernel_rfl, fun _ _ _ => rfl⟩, ⟨⟨fun _ _ _ _ => by kernel_rfl, fun _ _ _ => rfl⟩, ⟨⟨fun _ _ _ _ => by kernel_rfl, fun _ _ _ => rfl⟩, ⟨⟨fun _ _ _ _ => by kernel_rfl, fun _ _ _ => rfl⟩, ⟨fun _ _ _ _ _ => by kernel_rfl, trivial⟩⟩⟩⟩⟩⟩ (fun _ => by kernel_rfl)
noncomputable def C_s_l02DrawIn (K : Nat) : CB Tryz.prog := .s _ _ (ok_s_l02DrawIn K)
noncomputable def ps_s_l08DrawList : Lv := [(0, (.bx (.v tq1)))]
noncomputable def rl_s_l08DrawList : Lv := [(0, (.r tq0))]
noncomputable def sp_s_l08DrawList (F : (dq1 × Unit) → Option (((List dq0) × Unit) × (dq1 × Unit))) : ShSpec := ⟨ps_s_l08DrawList, rl_s_l08DrawList, F⟩
noncomputable def s_l08DrawList_l9 {R : Type} (K : Nat) : Nat → dq1 → (List dq0) → Int → (dq1 → (List dq0) → Option R) → Option R
  | 0, _, _, _, _ => none
  | k + 1, v0, v6, v7, kx0 =>
    (if (decide (v7 > (0 : Int))) = true then
    (s_l02DrawIn K (v0, ())).bind fun y11 =>
    (if (decide (v6.length + ([y11.1.1]).length ≤ lim)) = true then
    let l12 := (v6 ++ [y11.1.1])
    s_l08DrawList_l9 K k y11.2.1 l12 (IntKind.i64.wrap (v7 - (1 : Int))) kx0
    else
    none)
    else
    kx0 v0 v6)
noncomputable def s_l08DrawList (K : Nat) (x : (dq1 × Unit)) : Option (((List dq0) × Unit) × (dq1 × Unit)) :=
    (s_l01Next K (x.1, (2 : Int), ())).bind fun y1 =>
    (if (decide (y1.1.1 = (0 : Int))) = true then
    (s_l08DrawName K (y1.2.1, ())).bind fun y2 =>
    (s_l08Generators K (y2.1.1, ())).bind fun y3 =>
    let l4 := ([] : List dq0)
    (if (decide (l4.length + y3.1.length ≤ lim)) = true then
    let l5 := (l4 ++ y3.1)
    (s_l01Next K (y2.2.1, (3 : Int), ())).bind fun y6 =>
    (if (decide (y6.1.1 = (0 : Int))) = true then
    (s_l02DrawIn K (y6.2.1, ())).bind fun y7 =>
    (if (decide (l5.length + ([y7.1.1]).length ≤ lim)) = true then
    let l8 := (l5 ++ [y7.1.1])
    some ((l8, ()), (y7.2.1, ()))
    else
    none)
    else
    some ((l5, ()), (y6.2.1, ())))
    else
    none)
    else
    let l9 := ([] : List dq0)
    (s_l01Next K (y1.2.1, (3 : Int), ())).bind fun y10 =>
    s_l08DrawList_l9 K K y10.2.1 l9 y10.1.1 (fun z13 z14 =>
    some ((z14, ()), (z13, ()))))
noncomputable def X0_s_l08DrawList : Lv := [(0, (.bx (.v tq1))), (6, (.r tq0))]
noncomputable def rv_s_l08DrawList : Lv := [(0, (.bx (.v tq1))), (2, (.r tq0))]
noncomputable def D_s_l08DrawList (K : Nat) : List (PD (den rl_s_l08DrawList.ty × den (outL ps_s_l08DrawList).ty)) := [.L 9 [(0, (.bx (.v tq1))), (6, (.r tq0)), (7, (.v (.int .i64)))] [] (fun k x kx kr => s_l08DrawList_l9 K k x.1 x.2.1 x.2.2.1 (fun z0 z1 => kx 0 (mkSt X0_s_l08DrawList (z0, z1, ()))))]
theorem ok_s_l08DrawList (K : Nat) : ShOk Tryz.prog 21 (sp_s_l08DrawList (s_l08DrawList K)) :=
  sh_okD tysOk [C_s_l08DrawName K, C_s_l08Generators K, C_s_l01Next K, C_s_l02DrawIn K] 1 (D_s_l08DrawList K) [(0, X0_s_l08DrawList)] rv_s_l08DrawList K Tryz.func21 (by kernel_rfl) ⟨⟨fun _ _ _ _ => by kernel_rfl, fun _ _ _ => rfl⟩, trivial⟩ (fun _ => by kernel_rfl)
noncomputable def C_s_l08DrawList (K : Nat) : CB Tryz.prog := .s _ _ (ok_s_l08DrawList K)
noncomputable def ps_s_l01From : Lv := [(0, (.v (.sl (.int .u8))))]
noncomputable def rl_s_l01From : Lv := [(0, (.bx (.v tq1)))]
noncomputable def sp_s_l01From (F : ((List Int) × Unit) → Option ((dq1 × Unit) × Unit)) : ShSpec := ⟨ps_s_l01From, rl_s_l01From, F⟩
noncomputable def s_l01From_j5 {R : Type} (K : Nat) (k : Nat) (v0 : (List Int)) (v3 : dq1) (v4 : Int) (kn : (List Int) → dq1 → Int → Option R)  : Option R :=
    (if (bnds v4 (v0.length : Int)) = true then
    let x3 := (IntKind.u64.wrap ((IntKind.u64.wrap (v3.2.2.1 * (1099511628211 : Int))) + (IntKind.u64.wrap (v0.getD v4.toNat (0 : Int)))))
    kn v0 (v3.1, v3.2.1, (IntKind.u64.wrap (x3 + (149 : Int))), ()) (IntKind.i64.wrap (v4 + (1 : Int)))
    else
    none)
noncomputable def s_l01From_l3 {R : Type} (K : Nat) : Nat → (List Int) → dq1 → Int → (dq1 → Option R) → Option R
  | 0, _, _, _, _ => none
  | k + 1, v0, v3, v4, kx0 =>
    (if (decide (v4 < (v0.length : Int))) = true then
    (if (decide (v4 < (4096 : Int))) = true then
    s_l01From_j5 K k v0 v3 v4 (fun z4 z5 z6 =>
    s_l01From_l3 K k z4 z5 z6 kx0)
    else
    kx0 v3)
    else
    kx0 v3)
noncomputable def s_l01From (K : Nat) (x : ((List Int) × Unit)) : Option ((dq1 × Unit) × Unit) :=
    let x1 := (IntKind.u64.wrap ((13231 : Int) + (IntKind.u64.wrap (x.1.length : Int))))
    let x2 := ((x.1, (0 : Int), (0 : Int), ()).1, (x.1, (0 : Int), (0 : Int), ()).2.1, x1, ())
    s_l01From_l3 K K x.1 x2 (0 : Int) (fun z7 =>
    some ((z7, ()), ()))
noncomputable def X0_s_l01From : Lv := [(3, (.bx (.v tq1)))]
noncomputable def rv_s_l01From : Lv := [(2, (.bx (.v tq1)))]
noncomputable def D_s_l01From (K : Nat) : List (PD (den rl_s_l01From.ty × den (outL ps_s_l01From).ty)) := [.L 3 [(0, (.v (.sl (.int .u8)))), (3, (.bx (.v tq1))), (4, (.v (.int .i64)))] [] (fun k x kx kr => s_l01From_l3 K k x.1 x.2.1 x.2.2.1 (fun z0 => kx 0 (mkSt X0_s_l01From (z0, ())))),
  .J 5 [(0, (.v (.sl (.int .u8)))), (3, (.bx (.v tq1))), (4, (.v (.int .i64)))] [(0, (.v (.sl (.int .u8)))), (3, (.bx (.v tq1))), (4, (.v (.int .i64)))] 0 (fun k x kn kx kr => s_l01From_j5 K k x.1 x.2.1 x.2.2.1 (fun z0 z1 z2 => kn (z0, z1, z2, ())))]
theorem ok_s_l01From (K : Nat) : ShOk Tryz.prog 22 (sp_s_l01From (s_l01From K)) :=
  sh_okD tysOk [] 0 (D_s_l01From K) [(0, X0_s_l01From)] rv_s_l01From K Tryz.func22 (by kernel_rfl) ⟨⟨fun _ _ _ _ => by kernel_rfl, fun _ _ _ => rfl⟩, ⟨fun _ _ _ _ _ => by kernel_rfl, trivial⟩⟩ (fun _ => by kernel_rfl)
noncomputable def C_s_l01From (K : Nat) : CB Tryz.prog := .s _ _ (ok_s_l01From K)
noncomputable def as_s_DrawCloneName : Ty := (.pair (.sl (.int .u8)) .unit)
noncomputable def sp_s_DrawCloneName (F : ((List Int) × Unit) → Option (List dq0)) : FnSpec := ⟨as_s_DrawCloneName, [false], (.sl tq0), F⟩
noncomputable def s_DrawCloneName (K : Nat) (x : ((List Int) × Unit)) : Option (List dq0) :=
    (s_l01From K (x.1, ())).bind fun y1 =>
    (s_l08DrawList K (y1.1.1, ())).bind fun y2 =>
    some y2.1.1
noncomputable def rv_s_DrawCloneName : Lv := [(2, (.r tq0))]
theorem ok_s_DrawCloneName (K : Nat) : FnOk Tryz.prog 5 (sp_s_DrawCloneName (s_DrawCloneName K)) :=
  fn_okD tysOk [C_s_l08DrawList K, C_s_l01From K] 0 [] [] rv_s_DrawCloneName K Tryz.func5 (by kernel_rfl) trivial (fun _ => by kernel_rfl)
noncomputable def C_s_DrawCloneName (K : Nat) : CB Tryz.prog := .f _ _ (ok_s_DrawCloneName K)
noncomputable def as_s_DrawDualName : Ty := (.pair (.sl (.int .u8)) .unit)
noncomputable def sp_s_DrawDualName (F : ((List Int) × Unit) → Option ByteArray) : FnSpec := ⟨as_s_DrawDualName, [false], .str, F⟩
noncomputable def s_DrawDualName (K : Nat) (x : ((List Int) × Unit)) : Option ByteArray :=
    (s_l01From K (x.1, ())).bind fun y1 =>
    (s_l08DrawName K (y1.1.1, ())).bind fun y2 =>
    some y2.1.1
noncomputable def rv_s_DrawDualName : Lv := [(2, (.v .str))]
theorem ok_s_DrawDualName (K : Nat) : FnOk Tryz.prog 18 (sp_s_DrawDualName (s_DrawDualName K)) :=
  fn_okD tysOk [C_s_l01From K, C_s_l08DrawName K] 0 [] [] rv_s_DrawDualName K Tryz.func18 (by kernel_rfl) trivial (fun _ => by kernel_rfl)
noncomputable def C_s_DrawDualName (K : Nat) : CB Tryz.prog := .f _ _ (ok_s_DrawDualName K)
noncomputable def as_s_DrawGeneratorsOf : Ty := (.pair (.sl (.int .u8)) .unit)
noncomputable def sp_s_DrawGeneratorsOf (F : ((List Int) × Unit) → Option ByteArray) : FnSpec := ⟨as_s_DrawGeneratorsOf, [false], .str, F⟩
noncomputable def s_DrawGeneratorsOf (K : Nat) (x : ((List Int) × Unit)) : Option ByteArray :=
    (s_l01From K (x.1, ())).bind fun y1 =>
    (s_l08DrawName K (y1.1.1, ())).bind fun y2 =>
    some y2.1.1
noncomputable def rv_s_DrawGeneratorsOf : Lv := [(2, (.v .str))]
theorem ok_s_DrawGeneratorsOf (K : Nat) : FnOk Tryz.prog 8 (sp_s_DrawGeneratorsOf (s_DrawGeneratorsOf K)) :=
  fn_okD tysOk [C_s_l01From K, C_s_l08DrawName K] 0 [] [] rv_s_DrawGeneratorsOf K Tryz.func8 (by kernel_rfl) trivial (fun _ => by kernel_rfl)
noncomputable def C_s_DrawGeneratorsOf (K : Nat) : CB Tryz.prog := .f _ _ (ok_s_DrawGeneratorsOf K)
noncomputable def as_s_DrawIsBelow : Ty := (.pair (.sl (.int .u8)) .unit)
noncomputable def sp_s_DrawIsBelow (F : ((List Int) × Unit) → Option (ByteArray × ByteArray × Unit)) : FnSpec := ⟨as_s_DrawIsBelow, [false], (.tup (.pair .str (.pair .str .unit))), F⟩
noncomputable def s_DrawIsBelow (K : Nat) (x : ((List Int) × Unit)) : Option (ByteArray × ByteArray × Unit) :=
    (s_l01From K (x.1, ())).bind fun y1 =>
    (s_l08DrawName K (y1.1.1, ())).bind fun y2 =>
    (s_l08DrawName K (y2.2.1, ())).bind fun y3 =>
    some (y2.1.1, y3.1.1, ())
noncomputable def rv_s_DrawIsBelow : Lv := [(2, (.v .str)), (3, (.v .str))]
theorem ok_s_DrawIsBelow (K : Nat) : FnOk Tryz.prog 15 (sp_s_DrawIsBelow (s_DrawIsBelow K)) :=
  fn_okD tysOk [C_s_l01From K, C_s_l08DrawName K] 0 [] [] rv_s_DrawIsBelow K Tryz.func15 (by kernel_rfl) trivial (fun _ => by kernel_rfl)
noncomputable def C_s_DrawIsBelow (K : Nat) : CB Tryz.prog := .f _ _ (ok_s_DrawIsBelow K)
noncomputable def as_s_DrawIsInNamed : Ty := (.pair (.sl (.int .u8)) .unit)
noncomputable def sp_s_DrawIsInNamed (F : ((List Int) × Unit) → Option (dq0 × ByteArray × Unit)) : FnSpec := ⟨as_s_DrawIsInNamed, [false], (.tup (.pair tq0 (.pair .str .unit))), F⟩
noncomputable def s_DrawIsInNamed_j5 {R : Type} (K : Nat) (k : Nat) (v2 : dq0) (v4 : dq1) (v5 : ByteArray) (v6 : (List dq0)) (kn : Option R) (kr : (dq0 → ByteArray → Option R)) : Option R :=
    gN K ((s_l01Next K (v4, (v6.length : Int), ())).bind fun y5 =>
    (if (bnds y5.1.1 (v6.length : Int)) = true then
    kr (v6.getD y5.1.1.toNat ((0 : Int), (0 : Int), ())) v5
    else
    none))
noncomputable def s_DrawIsInNamed (K : Nat) (x : ((List Int) × Unit)) : Option (dq0 × ByteArray × Unit) :=
    (s_l01From K (x.1, ())).bind fun y1 =>
    (s_l08DrawName K (y1.1.1, ())).bind fun y2 =>
    (s_l08Generators K (y2.1.1, ())).bind fun y3 =>
    (if y3.2.1 = true then
    (s_l01Next K (y2.2.1, (4 : Int), ())).bind fun y4 =>
    (if (decide (y4.1.1 = (0 : Int))) = true then
    s_DrawIsInNamed_j5 K K ((0 : Int), (0 : Int), ()) y4.2.1 y2.1.1 y3.1 none (fun z6 z7 =>
    some (z6, z7, ()))
    else
    (s_l02DrawIn K (y4.2.1, ())).bind fun y8 =>
    some (y8.1.1, y2.1.1, ()))
    else
    (s_l02DrawIn K (y2.2.1, ())).bind fun y9 =>
    some (y9.1.1, y2.1.1, ()))
noncomputable def rv_s_DrawIsInNamed : Lv := [(2, (.bx (.v tq0))), (3, (.v .str))]
noncomputable def D_s_DrawIsInNamed (K : Nat) : List (PD (den (.tup (.pair tq0 (.pair .str .unit))))) := [.J 5 [(2, (.bx (.v tq0))), (4, (.bx (.v tq1))), (5, (.v .str)), (6, (.r tq0))] [] K (fun k x kn kx kr => s_DrawIsInNamed_j5 K k x.1 x.2.1 x.2.2.1 x.2.2.2.1 (kn ()) (fun z0 z1 => kr (mkSt rv_s_DrawIsInNamed (z0, z1, ()))))]
theorem ok_s_DrawIsInNamed (K : Nat) : FnOk Tryz.prog 12 (sp_s_DrawIsInNamed (s_DrawIsInNamed K)) :=
  fn_okD tysOk [C_s_l01From K, C_s_l08DrawName K, C_s_l08Generators K, C_s_l01Next K, C_s_l02DrawIn K] 0 (D_s_DrawIsInNamed K) [] rv_s_DrawIsInNamed K Tryz.func12 (by kernel_rfl) ⟨fun _ _ _ _ _ => by kernel_rfl, trivial⟩ (fun _ => by kernel_rfl)
noncomputable def C_s_DrawIsInNamed (K : Nat) : CB Tryz.prog := .f _ _ (ok_s_DrawIsInNamed K)
noncomputable def as_s_DualName : Ty := (.pair .str .unit)
noncomputable def sp_s_DualName (F : (ByteArray × Unit) → Option (ByteArray × Int × Unit)) : FnSpec := ⟨as_s_DualName, [false], (.tup (.pair .str (.pair (.int .i64) .unit))), F⟩
noncomputable def s_DualName_l6 {R : Type} (K : Nat) : Nat → (List dq0) → (List dq0) → Int → ((List dq0) → Option R) → Option R
  | 0, _, _, _, _ => none
  | k + 1, v4, v6, v7, kx0 =>
    (if (decide (v7 < (v4.length : Int))) = true then
    (if (bnds v7 (v4.length : Int)) = true then
    (s_l01Dual K ((v4.getD v7.toNat ((0 : Int), (0 : Int), ())), ())).bind fun y3 =>
    (if (decide (v6.length + ([y3]).length ≤ lim)) = true then
    let l4 := (v6 ++ [y3])
    s_DualName_l6 K k v4 l4 (IntKind.i64.wrap (v7 + (1 : Int))) kx0
    else
    none)
    else
    none)
    else
    kx0 v6)
noncomputable def s_DualName (K : Nat) (x : (ByteArray × Unit)) : Option (ByteArray × Int × Unit) :=
    (s_l08Generators K (x.1, ())).bind fun y1 =>
    (if (!y1.2.1) = true then
    some ((⟨#[]⟩ : ByteArray), (6 : Int), ())
    else
    let l2 := ([] : List dq0)
    s_DualName_l6 K K y1.1 l2 (0 : Int) (fun z5 =>
    (s_l08Name K (z5, ())).bind fun y6 =>
    some (y6, (0 : Int), ())))
noncomputable def X0_s_DualName : Lv := [(6, (.r tq0))]
noncomputable def rv_s_DualName : Lv := [(2, (.v .str)), (3, (.v (.int .i64)))]
noncomputable def D_s_DualName (K : Nat) : List (PD (den (.tup (.pair .str (.pair (.int .i64) .unit))))) := [.L 6 [(4, (.r tq0)), (6, (.r tq0)), (7, (.v (.int .i64)))] [] (fun k x kx kr => s_DualName_l6 K k x.1 x.2.1 x.2.2.1 (fun z0 => kx 0 (mkSt X0_s_DualName (z0, ()))))]
theorem ok_s_DualName (K : Nat) : FnOk Tryz.prog 20 (sp_s_DualName (s_DualName K)) :=
  fn_okD tysOk [C_s_l08Name K, C_s_l08Generators K, C_s_l01Dual K] 0 (D_s_DualName K) [(0, X0_s_DualName)] rv_s_DualName K Tryz.func20 (by kernel_rfl) ⟨⟨fun _ _ _ _ => by kernel_rfl, fun _ _ _ => rfl⟩, trivial⟩ (fun _ => by kernel_rfl)
noncomputable def C_s_DualName (K : Nat) : CB Tryz.prog := .f _ _ (ok_s_DualName K)
noncomputable def as_s_GeneratorsOf : Ty := (.pair .str .unit)
noncomputable def sp_s_GeneratorsOf (F : (ByteArray × Unit) → Option ((List dq0) × Int × Unit)) : FnSpec := ⟨as_s_GeneratorsOf, [false], (.tup (.pair (.sl tq0) (.pair (.int .i64) .unit))), F⟩
noncomputable def s_GeneratorsOf (K : Nat) (x : (ByteArray × Unit)) : Option ((List dq0) × Int × Unit) :=
    (s_l08Generators K (x.1, ())).bind fun y1 =>
    (if (!y1.2.1) = true then
    some (([] : List dq0), (6 : Int), ())
    else
    some (y1.1, (0 : Int), ()))
noncomputable def rv_s_GeneratorsOf : Lv := [(2, (.r tq0)), (3, (.v (.int .i64)))]
theorem ok_s_GeneratorsOf (K : Nat) : FnOk Tryz.prog 10 (sp_s_GeneratorsOf (s_GeneratorsOf K)) :=
  fn_okD tysOk [C_s_l08Generators K] 0 [] [] rv_s_GeneratorsOf K Tryz.func10 (by kernel_rfl) trivial (fun _ => by kernel_rfl)
noncomputable def C_s_GeneratorsOf (K : Nat) : CB Tryz.prog := .f _ _ (ok_s_GeneratorsOf K)
noncomputable def as_s_l08In : Ty := (.pair tq0 (.pair .str .unit))
noncomputable def sp_s_l08In (F : (dq0 × ByteArray × Unit) → Option Bool) : FnSpec := ⟨as_s_l08In, [false, false], .bool, F⟩
noncomputable def s_l08In (K : Nat) (x : (dq0 × ByteArray × Unit)) : Option Bool :=
    (s_l08Generators K (x.2.1, ())).bind fun y1 =>
    (if (decide (y1.1.length + ([x.1]).length ≤ lim)) = true then
    let l2 := (y1.1 ++ [x.1])
    (s_l08Name K (l2, ())).bind fun y3 =>
    some (cmpS .eql y3 x.2.1)
    else
    none)
noncomputable def rv_s_l08In : Lv := [(4, (.v .bool))]
theorem ok_s_l08In (K : Nat) : FnOk Tryz.prog 35 (sp_s_l08In (s_l08In K)) :=
  fn_okD tysOk [C_s_l08Name K, C_s_l08Generators K] 0 [] [] rv_s_l08In K Tryz.func35 (by kernel_rfl) trivial (fun _ => by kernel_rfl)
noncomputable def C_s_l08In (K : Nat) : CB Tryz.prog := .f _ _ (ok_s_l08In K)
noncomputable def as_s_IsBelow : Ty := (.pair .str (.pair .str .unit))
noncomputable def sp_s_IsBelow (F : (ByteArray × ByteArray × Unit) → Option (Bool × Int × Unit)) : FnSpec := ⟨as_s_IsBelow, [false, false], (.tup (.pair .bool (.pair (.int .i64) .unit))), F⟩
noncomputable def s_IsBelow_l6 {R : Type} (K : Nat) : Nat → ByteArray → (List dq0) → Int → (Option R) → (Bool → Int → Option R) → Option R
  | 0, _, _, _, _, _ => none
  | k + 1, v1, v6, v10, kx0, kr =>
    (if (decide (v10 < (v6.length : Int))) = true then
    (if (bnds v10 (v6.length : Int)) = true then
    (s_l08In K ((v6.getD v10.toNat ((0 : Int), (0 : Int), ())), v1, ())).bind fun y3 =>
    (if (!y3) = true then
    kr false (0 : Int)
    else
    s_IsBelow_l6 K k v1 v6 (IntKind.i64.wrap (v10 + (1 : Int))) kx0 kr)
    else
    none)
    else
    kx0)
noncomputable def s_IsBelow_j5 {R : Type} (K : Nat) (k : Nat) (v1 : ByteArray) (v6 : (List dq0)) (kn : Option R) (kr : (Bool → Int → Option R)) : Option R :=
    s_IsBelow_l6 K k v1 v6 (0 : Int) (kr true (0 : Int)) (fun z4 z5 =>
    kr z4 z5)
noncomputable def s_IsBelow (K : Nat) (x : (ByteArray × ByteArray × Unit)) : Option (Bool × Int × Unit) :=
    (s_l08Generators K (x.1, ())).bind fun y1 =>
    (s_l08Generators K (x.2.1, ())).bind fun y2 =>
    (if (!y1.2.1) = true then
    some (false, (6 : Int), ())
    else
    (if (!y2.2.1) = true then
    some (false, (6 : Int), ())
    else
    s_IsBelow_j5 K K x.2.1 y1.1 none (fun z6 z7 =>
    some (z6, z7, ()))))
noncomputable def X0_s_IsBelow : Lv := []
noncomputable def rv_s_IsBelow : Lv := [(4, (.v .bool)), (5, (.v (.int .i64)))]
noncomputable def D_s_IsBelow (K : Nat) : List (PD (den (.tup (.pair .bool (.pair (.int .i64) .unit))))) := [.J 5 [(1, (.v .str)), (6, (.r tq0))] [] 0 (fun k x kn kx kr => s_IsBelow_j5 K k x.1 x.2.1 (kn ()) (fun z0 z1 => kr (mkSt rv_s_IsBelow (z0, z1, ())))),
  .L 6 [(1, (.v .str)), (6, (.r tq0)), (10, (.v (.int .i64)))] [] (fun k x kx kr => s_IsBelow_l6 K k x.1 x.2.1 x.2.2.1 (kx 0 (mkSt X0_s_IsBelow ())) (fun z0 z1 => kr (mkSt rv_s_IsBelow (z0, z1, ()))))]
theorem ok_s_IsBelow (K : Nat) : FnOk Tryz.prog 17 (sp_s_IsBelow (s_IsBelow K)) :=
  fn_okD tysOk [C_s_l08Generators K, C_s_l08In K] 0 (D_s_IsBelow K) [(0, X0_s_IsBelow)] rv_s_IsBelow K Tryz.func17 (by kernel_rfl) ⟨fun _ _ _ _ _ => by kernel_rfl, ⟨⟨fun _ _ _ _ => by kernel_rfl, fun _ _ _ => rfl⟩, trivial⟩⟩ (fun _ => by kernel_rfl)
noncomputable def C_s_IsBelow (K : Nat) : CB Tryz.prog := .f _ _ (ok_s_IsBelow K)
noncomputable def as_s_IsInNamed : Ty := (.pair tq0 (.pair .str .unit))
noncomputable def sp_s_IsInNamed (F : (dq0 × ByteArray × Unit) → Option (Bool × Int × Unit)) : FnSpec := ⟨as_s_IsInNamed, [false, false], (.tup (.pair .bool (.pair (.int .i64) .unit))), F⟩
noncomputable def s_IsInNamed (K : Nat) (x : (dq0 × ByteArray × Unit)) : Option (Bool × Int × Unit) :=
    (s_l01Is K (x.1, ())).bind fun y1 =>
    (if (!y1) = true then
    some (false, (1 : Int), ())
    else
    (s_l08Generators K (x.2.1, ())).bind fun y2 =>
    (if (!y2.2.1) = true then
    some (false, (6 : Int), ())
    else
    (s_l08In K (x.1, x.2.1, ())).bind fun y3 =>
    some (y3, (0 : Int), ())))
noncomputable def rv_s_IsInNamed : Lv := [(4, (.v .bool)), (5, (.v (.int .i64)))]
theorem ok_s_IsInNamed (K : Nat) : FnOk Tryz.prog 14 (sp_s_IsInNamed (s_IsInNamed K)) :=
  fn_okD tysOk [C_s_l08Generators K, C_s_l01Is K, C_s_l08In K] 0 [] [] rv_s_IsInNamed K Tryz.func14 (by kernel_rfl) trivial (fun _ => by kernel_rfl)
noncomputable def C_s_IsInNamed (K : Nat) : CB Tryz.prog := .f _ _ (ok_s_IsInNamed K)
noncomputable def as_w_big : Ty := (.pair (.sl (.int .u8)) .unit)
noncomputable def sp_w_big (F : ((List Int) × Unit) → Option Bool) : FnSpec := ⟨as_w_big, [false], .bool, F⟩
noncomputable def w_big (K : Nat) (x : ((List Int) × Unit)) : Option Bool :=
    some (decide ((x.1.length : Int) > (4096 : Int)))
noncomputable def rv_w_big : Lv := [(2, (.v .bool))]
theorem ok_w_big (K : Nat) : FnOk Tryz.prog 4 (sp_w_big (w_big K)) :=
  fn_okD tysOk [] 0 [] [] rv_w_big K Tryz.func4 (by kernel_rfl) trivial (fun _ => by kernel_rfl)
noncomputable def C_w_big (K : Nat) : CB Tryz.prog := .f _ _ (ok_w_big K)
noncomputable def as_w_funcs9 : Ty := (.pair (.sl tq0) (.pair (.sl tq0) .unit))
noncomputable def sp_w_funcs9 (F : ((List dq0) × (List dq0) × Unit) → Option Bool) : FnSpec := ⟨as_w_funcs9, [false, false], .bool, F⟩
noncomputable def w_funcs9_l4 {R : Type} (K : Nat) : Nat → (List dq0) → (List dq0) → Int → (Option R) → (Bool → Option R) → Option R
  | 0, _, _, _, _, _ => none
  | k + 1, v0, v1, v5, kx0, kr =>
    (if (decide (v5 < (v0.length : Int))) = true then
    (if (bnds v5 (v0.length : Int)) = true then
    (if (bnds v5 (v1.length : Int)) = true then
    let x1 := (!(eqD (.pair (.int .i64) (.pair (.int .i64) .unit)) (v0.getD v5.toNat ((0 : Int), (0 : Int), ())) (v1.getD v5.toNat ((0 : Int), (0 : Int), ()))))
    (if x1 = true then
    kr false
    else
    w_funcs9_l4 K k v0 v1 (IntKind.i64.wrap (v5 + (1 : Int))) kx0 kr)
    else
    none)
    else
    none)
    else
    kx0)
noncomputable def w_funcs9 (K : Nat) (x : ((List dq0) × (List dq0) × Unit)) : Option Bool :=
    (if (!decide ((x.1.length : Int) = (x.2.1.length : Int))) = true then
    some false
    else
    w_funcs9_l4 K K x.1 x.2.1 (0 : Int) (some true) (fun z2 =>
    some z2))
noncomputable def X0_w_funcs9 : Lv := []
noncomputable def rv_w_funcs9 : Lv := [(4, (.v .bool))]
noncomputable def D_w_funcs9 (K : Nat) : List (PD (den .bool)) := [.L 4 [(0, (.v (.sl tq0))), (1, (.v (.sl tq0))), (5, (.v (.int .i64)))] [] (fun k x kx kr => w_funcs9_l4 K k x.1 x.2.1 x.2.2.1 (kx 0 (mkSt X0_w_funcs9 ())) (fun z0 => kr (mkSt rv_w_funcs9 (z0, ()))))]
theorem ok_w_funcs9 (K : Nat) : FnOk Tryz.prog 11 (sp_w_funcs9 (w_funcs9 K)) :=
  fn_okD tysOk [] 0 (D_w_funcs9 K) [(0, X0_w_funcs9)] rv_w_funcs9 K Tryz.func11 (by kernel_rfl) ⟨⟨fun _ _ _ _ => by kernel_rfl, fun _ _ _ => rfl⟩, trivial⟩ (fun _ => by kernel_rfl)
noncomputable def C_w_funcs9 (K : Nat) : CB Tryz.prog := .f _ _ (ok_w_funcs9 K)
noncomputable def as_w_FnNames : Ty := (.pair (.sl (.int .u8)) .unit)
noncomputable def sp_w_FnNames (F : ((List Int) × Unit) → Option Bool) : FnSpec := ⟨as_w_FnNames, [false], .bool, F⟩
noncomputable def w_FnNames_l44 {R : Type} (K : Nat) : Nat → (List dq0) → ByteArray → Int → (Option R) → (Bool → Option R) → Option R
  | 0, _, _, _, _, _ => none
  | k + 1, v3, v4, v38, kx0, kr =>
    (if (decide (v38 < (v3.length : Int))) = true then
    (if (bnds v38 (v3.length : Int)) = true then
    (i_IsInNamed K ((v3.getD v38.toNat ((0 : Int), (0 : Int), ())), v4, ())).bind fun y22 =>
    (if (!decide (y22.2.1 = (0 : Int))) = true then
    kr false
    else
    (if (!y22.1) = true then
    kr false
    else
    w_FnNames_l44 K k v3 v4 (IntKind.i64.wrap (v38 + (1 : Int))) kx0 kr))
    else
    none)
    else
    kx0)
noncomputable def w_FnNames_j41 {R : Type} (K : Nat) (k : Nat) (v3 : (List dq0)) (v4 : ByteArray) (v5 : Int) (kn : Option R) (kr : (Bool → Option R)) : Option R :=
    (if (!decide (v5 = (0 : Int))) = true then
    kr (cmpS .eql v4 (⟨#[]⟩ : ByteArray))
    else
    w_FnNames_l44 K k v3 v4 (0 : Int) (kr true) (fun z23 =>
    kr z23))
noncomputable def w_FnNames_j37 {R : Type} (K : Nat) (k : Nat) (v3 : (List dq0)) (v4 : ByteArray) (v5 : Int) (v8 : ByteArray) (v9 : (List dq0)) (v10 : Int) (kn : Option R) (kr : (Bool → Option R)) : Option R :=
    (if (decide (v10 = (0 : Int))) = true then
    (i_CloneName K (v9, ())).bind fun y21 =>
    (if (!decide (y21.2.1 = (0 : Int))) = true then
    kr false
    else
    (if (cmpS .neq y21.1 v8) = true then
    kr false
    else
    w_FnNames_j41 K k v3 v4 v5 none (fun z24 =>
    kr z24)))
    else
    w_FnNames_j41 K k v3 v4 v5 none (fun z25 =>
    kr z25))
noncomputable def w_FnNames_j32 {R : Type} (K : Nat) (k : Nat) (v3 : (List dq0)) (v4 : ByteArray) (v5 : Int) (v8 : ByteArray) (v9 : (List dq0)) (v10 : Int) (v19 : ByteArray) (v20 : ByteArray) (v21 : Bool) (v22 : Int) (kn : Option R) (kr : (Bool → Option R)) : Option R :=
    (if (decide (v22 = (0 : Int))) = true then
    (i_IsBelow K (v20, v19, ())).bind fun y19 =>
    (i_IsBelow K (v19, (⟨#[66, 70]⟩ : ByteArray), ())).bind fun y20 =>
    (if (!decide (y19.2.1 = (0 : Int))) = true then
    kr false
    else
    (if v21 = true then
    (if y19.1 = true then
    (if (cmpS .neq v19 v20) = true then
    kr false
    else
    (if (!decide (y20.2.1 = (0 : Int))) = true then
    kr false
    else
    (if (!y20.1) = true then
    kr false
    else
    w_FnNames_j37 K k v3 v4 v5 v8 v9 v10 none (fun z26 =>
    kr z26))))
    else
    (if (!decide (y20.2.1 = (0 : Int))) = true then
    kr false
    else
    (if (!y20.1) = true then
    kr false
    else
    w_FnNames_j37 K k v3 v4 v5 v8 v9 v10 none (fun z27 =>
    kr z27))))
    else
    (if (!decide (y20.2.1 = (0 : Int))) = true then
    kr false
    else
    (if (!y20.1) = true then
    kr false
    else
    w_FnNames_j37 K k v3 v4 v5 v8 v9 v10 none (fun z28 =>
    kr z28)))))
    else
    w_FnNames_j37 K k v3 v4 v5 v8 v9 v10 none (fun z29 =>
    kr z29))
noncomputable def w_FnNames_j28 {R : Type} (K : Nat) (k : Nat) (v3 : (List dq0)) (v4 : ByteArray) (v5 : Int) (v8 : ByteArray) (v9 : (List dq0)) (v10 : Int) (v19 : ByteArray) (v20 : ByteArray) (v21 : Bool) (v22 : Int) (v25 : ByteArray) (v26 : ByteArray) (v27 : Int) (kn : Option R) (kr : (Bool → Option R)) : Option R :=
    (if (decide (v27 = (0 : Int))) = true then
    (i_DualName K (v26, ())).bind fun y18 =>
    (if (!decide (y18.2.1 = (0 : Int))) = true then
    kr false
    else
    (if (cmpS .neq y18.1 v25) = true then
    kr false
    else
    w_FnNames_j32 K k v3 v4 v5 v8 v9 v10 v19 v20 v21 v22 none (fun z30 =>
    kr z30)))
    else
    w_FnNames_j32 K k v3 v4 v5 v8 v9 v10 v19 v20 v21 v22 none (fun z31 =>
    kr z31))
noncomputable def w_FnNames_j23 {R : Type} (K : Nat) (k : Nat) (v0 : (List Int)) (v3 : (List dq0)) (v4 : ByteArray) (v5 : Int) (v8 : ByteArray) (v9 : (List dq0)) (v10 : Int) (v19 : ByteArray) (v20 : ByteArray) (v21 : Bool) (v22 : Int) (kn : Option R) (kr : (Bool → Option R)) : Option R :=
    (s_DrawDualName K (v0, ())).bind fun y15 =>
    (i_DualName K (y15, ())).bind fun y16 =>
    (s_DualName K (y15, ())).bind fun y17 =>
    (if (!decide (y16.2.1 = y17.2.1)) = true then
    kr false
    else
    (if (cmpS .neq y16.1 y17.1) = true then
    kr false
    else
    w_FnNames_j28 K k v3 v4 v5 v8 v9 v10 v19 v20 v21 v22 y15 y16.1 y16.2.1 none (fun z32 =>
    kr z32)))
noncomputable def w_FnNames_j18 {R : Type} (K : Nat) (k : Nat) (v0 : (List Int)) (v3 : (List dq0)) (v4 : ByteArray) (v5 : Int) (v8 : ByteArray) (v9 : (List dq0)) (v10 : Int) (kn : Option R) (kr : (Bool → Option R)) : Option R :=
    (s_DrawIsBelow K (v0, ())).bind fun y12 =>
    (i_IsBelow K (y12.1, y12.2.1, ())).bind fun y13 =>
    (s_IsBelow K (y12.1, y12.2.1, ())).bind fun y14 =>
    (if (!decide (y13.2.1 = y14.2.1)) = true then
    kr false
    else
    (if (!(y13.1 == y14.1)) = true then
    kr false
    else
    w_FnNames_j23 K k v0 v3 v4 v5 v8 v9 v10 y12.1 y12.2.1 y13.1 y13.2.1 none (fun z33 =>
    kr z33)))
noncomputable def w_FnNames_j13 {R : Type} (K : Nat) (k : Nat) (v0 : (List Int)) (v3 : (List dq0)) (v4 : ByteArray) (v5 : Int) (v8 : ByteArray) (v9 : (List dq0)) (v10 : Int) (kn : Option R) (kr : (Bool → Option R)) : Option R :=
    (s_DrawIsInNamed K (v0, ())).bind fun y9 =>
    (i_IsInNamed K (y9.1, y9.2.1, ())).bind fun y10 =>
    (s_IsInNamed K (y9.1, y9.2.1, ())).bind fun y11 =>
    (if (!decide (y10.2.1 = y11.2.1)) = true then
    kr false
    else
    (if (!(y10.1 == y11.1)) = true then
    kr false
    else
    w_FnNames_j18 K k v0 v3 v4 v5 v8 v9 v10 none (fun z34 =>
    kr z34)))
noncomputable def w_FnNames_j8 {R : Type} (K : Nat) (k : Nat) (v0 : (List Int)) (v3 : (List dq0)) (v4 : ByteArray) (v5 : Int) (kn : Option R) (kr : (Bool → Option R)) : Option R :=
    (s_DrawGeneratorsOf K (v0, ())).bind fun y5 =>
    (i_GeneratorsOf K (y5, ())).bind fun y6 =>
    (s_GeneratorsOf K (y5, ())).bind fun y7 =>
    (if (!decide (y6.2.1 = y7.2.1)) = true then
    kr false
    else
    (w_funcs9 K (y6.1, y7.1, ())).bind fun y8 =>
    (if (!y8) = true then
    kr false
    else
    w_FnNames_j13 K k v0 v3 v4 v5 y5 y6.1 y6.2.1 none (fun z35 =>
    kr z35)))
noncomputable def w_FnNames (K : Nat) (x : ((List Int) × Unit)) : Option Bool :=
    (w_big K (x.1, ())).bind fun y1 =>
    (if y1 = true then
    some true
    else
    (s_DrawCloneName K (x.1, ())).bind fun y2 =>
    (i_CloneName K (y2, ())).bind fun y3 =>
    (s_CloneName K (y2, ())).bind fun y4 =>
    (if (!decide (y3.2.1 = y4.2.1)) = true then
    some false
    else
    (if (cmpS .neq y3.1 y4.1) = true then
    some false
    else
    w_FnNames_j8 K K x.1 y2 y3.1 y3.2.1 none (fun z36 =>
    some z36))))
noncomputable def X0_w_FnNames : Lv := []
noncomputable def rv_w_FnNames : Lv := [(2, (.v .bool))]
noncomputable def D_w_FnNames (K : Nat) : List (PD (den .bool)) := [.J 8 [(0, (.v (.sl (.int .u8)))), (3, (.r tq0)), (4, (.v .str)), (5, (.v (.int .i64)))] [] 0 (fun k x kn kx kr => w_FnNames_j8 K k x.1 x.2.1 x.2.2.1 x.2.2.2.1 (kn ()) (fun z0 => kr (mkSt rv_w_FnNames (z0, ())))),
  .J 13 [(0, (.v (.sl (.int .u8)))), (3, (.r tq0)), (4, (.v .str)), (5, (.v (.int .i64))), (8, (.v .str)), (9, (.r tq0)), (10, (.v (.int .i64)))] [] 0 (fun k x kn kx kr => w_FnNames_j13 K k x.1 x.2.1 x.2.2.1 x.2.2.2.1 x.2.2.2.2.1 x.2.2.2.2.2.1 x.2.2.2.2.2.2.1 (kn ()) (fun z0 => kr (mkSt rv_w_FnNames (z0, ())))),
  .J 18 [(0, (.v (.sl (.int .u8)))), (3, (.r tq0)), (4, (.v .str)), (5, (.v (.int .i64))), (8, (.v .str)), (9, (.r tq0)), (10, (.v (.int .i64)))] [] 0 (fun k x kn kx kr => w_FnNames_j18 K k x.1 x.2.1 x.2.2.1 x.2.2.2.1 x.2.2.2.2.1 x.2.2.2.2.2.1 x.2.2.2.2.2.2.1 (kn ()) (fun z0 => kr (mkSt rv_w_FnNames (z0, ())))),
  .J 23 [(0, (.v (.sl (.int .u8)))), (3, (.r tq0)), (4, (.v .str)), (5, (.v (.int .i64))), (8, (.v .str)), (9, (.r tq0)), (10, (.v (.int .i64))), (19, (.v .str)), (20, (.v .str)), (21, (.v .bool)), (22, (.v (.int .i64)))] [] 0 (fun k x kn kx kr => w_FnNames_j23 K k x.1 x.2.1 x.2.2.1 x.2.2.2.1 x.2.2.2.2.1 x.2.2.2.2.2.1 x.2.2.2.2.2.2.1 x.2.2.2.2.2.2.2.1 x.2.2.2.2.2.2.2.2.1 x.2.2.2.2.2.2.2.2.2.1 x.2.2.2.2.2.2.2.2.2.2.1 (kn ()) (fun z0 => kr (mkSt rv_w_FnNames (z0, ())))),
  .J 28 [(3, (.r tq0)), (4, (.v .str)), (5, (.v (.int .i64))), (8, (.v .str)), (9, (.r tq0)), (10, (.v (.int .i64))), (19, (.v .str)), (20, (.v .str)), (21, (.v .bool)), (22, (.v (.int .i64))), (25, (.v .str)), (26, (.v .str)), (27, (.v (.int .i64)))] [] 0 (fun k x kn kx kr => w_FnNames_j28 K k x.1 x.2.1 x.2.2.1 x.2.2.2.1 x.2.2.2.2.1 x.2.2.2.2.2.1 x.2.2.2.2.2.2.1 x.2.2.2.2.2.2.2.1 x.2.2.2.2.2.2.2.2.1 x.2.2.2.2.2.2.2.2.2.1 x.2.2.2.2.2.2.2.2.2.2.1 x.2.2.2.2.2.2.2.2.2.2.2.1 x.2.2.2.2.2.2.2.2.2.2.2.2.1 (kn ()) (fun z0 => kr (mkSt rv_w_FnNames (z0, ())))),
  .J 32 [(3, (.r tq0)), (4, (.v .str)), (5, (.v (.int .i64))), (8, (.v .str)), (9, (.r tq0)), (10, (.v (.int .i64))), (19, (.v .str)), (20, (.v .str)), (21, (.v .bool)), (22, (.v (.int .i64)))] [] 0 (fun k x kn kx kr => w_FnNames_j32 K k x.1 x.2.1 x.2.2.1 x.2.2.2.1 x.2.2.2.2.1 x.2.2.2.2.2.1 x.2.2.2.2.2.2.1 x.2.2.2.2.2.2.2.1 x.2.2.2.2.2.2.2.2.1 x.2.2.2.2.2.2.2.2.2.1 (kn ()) (fun z0 => kr (mkSt rv_w_FnNames (z0, ())))),
  .J 37 [(3, (.r tq0)), (4, (.v .str)), (5, (.v (.int .i64))), (8, (.v .str)), (9, (.r tq0)), (10, (.v (.int .i64)))] [] 0 (fun k x kn kx kr => w_FnNames_j37 K k x.1 x.2.1 x.2.2.1 x.2.2.2.1 x.2.2.2.2.1 x.2.2.2.2.2.1 (kn ()) (fun z0 => kr (mkSt rv_w_FnNames (z0, ())))),
  .J 41 [(3, (.r tq0)), (4, (.v .str)), (5, (.v (.int .i64)))] [] 0 (fun k x kn kx kr => w_FnNames_j41 K k x.1 x.2.1 x.2.2.1 (kn ()) (fun z0 => kr (mkSt rv_w_FnNames (z0, ())))),
  .L 44 [(3, (.r tq0)), (4, (.v .str)), (38, (.v (.int .i64)))] [] (fun k x kx kr => w_FnNames_l44 K k x.1 x.2.1 x.2.2.1 (kx 0 (mkSt X0_w_FnNames ())) (fun z0 => kr (mkSt rv_w_FnNames (z0, ()))))]
theorem ok_w_FnNames (K : Nat) : FnOk Tryz.prog 3 (sp_w_FnNames (w_FnNames K)) :=
  fn_okD tysOk [C_w_big K, C_s_DrawCloneName K, C_i_CloneName K, C_s_CloneName K, C_s_DrawGeneratorsOf K, C_i_GeneratorsOf K, C_s_GeneratorsOf K, C_w_funcs9 K, C_s_DrawIsInNamed K, C_i_IsInNamed K, C_s_IsInNamed K, C_s_DrawIsBelow K, C_i_IsBelow K, C_s_IsBelow K, C_s_DrawDualName K, C_i_DualName K, C_s_DualName K] 0 (D_w_FnNames K) [(0, X0_w_FnNames)] rv_w_FnNames K Tryz.func3 (by kernel_rfl) ⟨fun _ _ _ _ _ => by kernel_rfl, ⟨fun _ _ _ _ _ => by kernel_rfl, ⟨fun _ _ _ _ _ => by kernel_rfl, ⟨fun _ _ _ _ _ => by kernel_rfl, ⟨fun _ _ _ _ _ => by kernel_rfl, ⟨fun _ _ _ _ _ => by kernel_rfl, ⟨fun _ _ _ _ _ => by kernel_rfl, ⟨fun _ _ _ _ _ => by kernel_rfl, ⟨⟨fun _ _ _ _ => by kernel_rfl, fun _ _ _ => rfl⟩, trivial⟩⟩⟩⟩⟩⟩⟩⟩⟩ (fun _ => by kernel_rfl)
noncomputable def C_w_FnNames (K : Nat) : CB Tryz.prog := .f _ _ (ok_w_FnNames K)
end Go.Proofs.YtkdebjppdhlbgaaGreatDoor.E
