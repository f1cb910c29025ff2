/-
  What the Go functions that FnCommuting reaches hand back, each as a plain function with a proof that the call does so, and plain lemmas on them. Conditions: those of each theorem.
-/
import Derived.Test.YtmlgfaojfmkdnaaGreatDoorCFnCommuting7
namespace Go.Proofs.YtmlgfaojfmkdnaaGreatDoor.E
open Go Go.Proofs Go.Proofs.YtmlgfaojfmkdnaaGreatDoor
set_option maxRecDepth 100000
set_option linter.unusedVariables false
noncomputable def ps_s_l10Draw:Lv:=[(0,(.bx (.v tq1)))]
noncomputable def rl_s_l10Draw:Lv:=[(0,(.v tq0))]
noncomputable def sp_s_l10Draw (F:(dq1 × Unit)->Option ((dq0 × Unit) × (dq1 × Unit))):ShSpec:=⟨ps_s_l10Draw,rl_s_l10Draw,F⟩
noncomputable def s_l10Draw_l8 {R:Type} (K:Nat):Nat->dq1->dq0->Int->Int->Int->Int->(dq1->dq0->Int->Int->Option R)->Option R
  | 0,_,_,_,_,_,_,_=>none
  | k + 1,v0,v2,v3,v4,v5,v6,kx1 =>
    (s_l01Rows K (v3,())).bind fun y13 =>
    (if (decide (v6 < y13))=true then
    (s_l10Weight K (v6,())).bind fun y14 =>
    (if (decide ((0:Int)<=(IntKind.u64.wrap y14)))=true then
    let x15:=(bitI .and .i64 (shrI .i64 v4 (IntKind.u64.wrap y14)) (1:Int))
    (if (decide ((0:Int)<=(IntKind.u64.wrap v6)))=true then
    s_l10Draw_l8 K k v0 v2 v3 v4 (bitI .or .i64 v5 (shlI .i64 x15 (IntKind.u64.wrap v6))) (IntKind.i64.wrap (v6 + (1:Int))) kx1
    else
    none)
    else
    none)
    else
    kx1 v0 v2 v3 v5)
noncomputable def s_l10Draw (K:Nat) (x:(dq1 × Unit)):Option ((dq0 × Unit) × (dq1 × Unit)) :=
    (s_l01Next K (x.1,(4:Int),())).bind fun y1 =>
    (if (decide (y1.1.1=(0:Int)))=true then
    let x2:=(((3:Int),((0:Int),(0:Int),()).2.1,()).1,(232:Int),())
    let x3:=(((3:Int),((0:Int),(0:Int),()).2.1,()).1,(150:Int),())
    let x4:=(((3:Int),((0:Int),(0:Int),()).2.1,()).1,(178:Int),())
    let x5:=(((2:Int),((0:Int),(0:Int),()).2.1,()).1,(8:Int),())
    let x6:=(((2:Int),((0:Int),(0:Int),()).2.1,()).1,(14:Int),())
    let x7:=(((3:Int),((0:Int),(0:Int),()).2.1,()).1,(128:Int),())
    let l8:=[x2,x3,x4,x5,x6,x7]
    (s_l01Next K (y1.2.1,(6:Int),())).bind fun y9 =>
    (if (bnds y9.1.1 (l8.length:Int))=true then
    some (((l8.getD y9.1.1.toNat ((0:Int),(0:Int),())),()),(y9.2.1,()))
    else
    none)
    else
    (if (decide (y1.1.1=(1:Int)))=true then
    let l10:=[(1:Int),(2:Int),(3:Int),(4:Int)]
    (s_l01Pick K (y1.2.1,l10,())).bind fun y11 =>
    (s_l01Next K (y11.2.1,(32:Int),())).bind fun y12 =>
    s_l10Draw_l8 K K y12.2.1 ((0:Int),(0:Int),()) y11.1.1 y12.1.1 (0:Int) (0:Int) (fun z16 z17 z18 z19 =>
    some ((((z18,((0:Int),(0:Int),()).2.1,()).1,z19,()),()),(z16,())))
    else
    (s_l02DrawIn K (y1.2.1,())).bind fun y20 =>
    some ((y20.1.1,()),(y20.2.1,()))))
noncomputable def X1_s_l10Draw:Lv:=[(0,(.bx (.v tq1))),(2,(.bx (.v tq0))),(3,(.v (.int .i64))),(5,(.v (.int .i64)))]
noncomputable def rv_s_l10Draw:Lv:=[(0,(.bx (.v tq1))),(2,(.bx (.v tq0)))]
noncomputable def D_s_l10Draw (K:Nat):List (PD (den rl_s_l10Draw.ty × den (outL ps_s_l10Draw).ty)):=[.L 8 [(0,(.bx (.v tq1))),(2,(.bx (.v tq0))),(3,(.v (.int .i64))),(4,(.v (.int .i64))),(5,(.v (.int .i64))),(6,(.v (.int .i64)))] [] (fun k x kx kr=>s_l10Draw_l8 K k x.1 x.2.1 x.2.2.1 x.2.2.2.1 x.2.2.2.2.1 x.2.2.2.2.2.1 (fun z0 z1 z2 z3=>kx 1 (mkSt X1_s_l10Draw (z0,z1,z2,z3,()))))]
theorem ok_s_l10Draw (K:Nat):ShOk Tryz.prog 58 (sp_s_l10Draw (s_l10Draw K)) :=
  sh_okD tysOk [C_s_l01Next K,C_s_l01Pick K,C_s_l01Rows K,C_s_l10Weight K,C_s_l02DrawIn K] 1 (D_s_l10Draw K) [(1,X1_s_l10Draw)] rv_s_l10Draw K Tryz.func58 (by kernel_rfl) ⟨⟨fun _ _ _ _=>by kernel_rfl,fun _ _ _=>rfl⟩,trivial⟩ (fun _=>by kernel_rfl)
noncomputable def C_s_l10Draw (K:Nat):CB Tryz.prog:=.s _ _ (ok_s_l10Draw K)
noncomputable def as_s_DrawAreCommuting:Ty:=(.pair (.sl (.int .u8)) .unit)
noncomputable def sp_s_DrawAreCommuting (F:((List Int) × Unit)->Option (dq0 × dq0 × Unit)):FnSpec:=⟨as_s_DrawAreCommuting,[false],(.tup (.pair tq0 (.pair tq0 .unit))),F⟩
noncomputable def s_DrawAreCommuting (K:Nat) (x:((List Int) × Unit)):Option (dq0 × dq0 × Unit) :=
    (s_l01From K (x.1,())).bind fun y1 =>
    (s_l10Draw K (y1.1.1,())).bind fun y2 =>
    (s_l10Draw K (y2.2.1,())).bind fun y3 =>
    let x4:=(decide ((IntKind.i64.wrap (y2.1.1.1 + y3.1.1.1)) > (7:Int)))
    (if x4=true then
    (s_l01DrawOf K (y3.2.1,(2:Int),())).bind fun y5 =>
    some (y5.1.1,y3.1.1,())
    else
    some (y2.1.1,y3.1.1,()))
noncomputable def rv_s_DrawAreCommuting:Lv:=[(2,(.bx (.v tq0))),(3,(.bx (.v tq0)))]
theorem ok_s_DrawAreCommuting (K:Nat):FnOk Tryz.prog 20 (sp_s_DrawAreCommuting (s_DrawAreCommuting K)) :=
  fn_okD tysOk [C_s_l01From K,C_s_l10Draw K,C_s_l01DrawOf K] 0 [] [] rv_s_DrawAreCommuting K Tryz.func20 (by kernel_rfl) trivial (fun _=>by kernel_rfl)
noncomputable def C_s_DrawAreCommuting (K:Nat):CB Tryz.prog:=.f _ _ (ok_s_DrawAreCommuting K)
noncomputable def as_s_DrawCentraliserOf:Ty:=(.pair (.sl (.int .u8)) .unit)
noncomputable def sp_s_DrawCentraliserOf (F:((List Int) × Unit)->Option ((List dq0) × Int × Unit)):FnSpec:=⟨as_s_DrawCentraliserOf,[false],(.tup (.pair (.sl tq0) (.pair (.int .i64) .unit))),F⟩
noncomputable def s_DrawCentraliserOf_l4 {R:Type} (K:Nat):Nat->dq1->(List dq0)->Int->(dq1->(List dq0)->Option R)->Option R
  | 0,_,_,_,_=>none
  | k + 1,v4,v5,v6,kx0 =>
    (if (decide (v6 > (0:Int)))=true then
    (s_l10Draw K (v4,())).bind fun y4 =>
    (if (decide (y4.1.1.1=(4:Int)))=true then
    (s_l01DrawOf K (y4.2.1,(2:Int),())).bind fun y5 =>
    (if (decide (v5.length + ([y5.1.1]).length<=lim))=true then
    let l6:=(v5 ++ [y5.1.1])
    s_DrawCentraliserOf_l4 K k y5.2.1 l6 (IntKind.i64.wrap (v6 - (1:Int))) kx0
    else
    none)
    else
    (if (decide (v5.length + ([y4.1.1]).length<=lim))=true then
    let l7:=(v5 ++ [y4.1.1])
    s_DrawCentraliserOf_l4 K k y4.2.1 l7 (IntKind.i64.wrap (v6 - (1:Int))) kx0
    else
    none))
    else
    kx0 v4 v5)
noncomputable def s_DrawCentraliserOf (K:Nat) (x:((List Int) × Unit)):Option ((List dq0) × Int × Unit) :=
    (s_l01From K (x.1,())).bind fun y1 =>
    let l2:=([]:List dq0)
    (s_l01Next K (y1.1.1,(3:Int),())).bind fun y3 =>
    s_DrawCentraliserOf_l4 K K y3.2.1 l2 y3.1.1 (fun z8 z9 =>
    (s_l01Next K (z8,(5:Int),())).bind fun y10 =>
    let l11:=[(0:Int),(1:Int),(2:Int),(2:Int),(3:Int),y10.1.1]
    (s_l01Pick K (y10.2.1,l11,())).bind fun y12 =>
    some (z9,y12.1.1,()))
noncomputable def X0_s_DrawCentraliserOf:Lv:=[(4,(.bx (.v tq1))),(5,(.r tq0))]
noncomputable def rv_s_DrawCentraliserOf:Lv:=[(2,(.r tq0)),(3,(.v (.int .i64)))]
noncomputable def D_s_DrawCentraliserOf (K:Nat):List (PD (den (.tup (.pair (.sl tq0) (.pair (.int .i64) .unit))))):=[.L 4 [(4,(.bx (.v tq1))),(5,(.r tq0)),(6,(.v (.int .i64)))] [] (fun k x kx kr=>s_DrawCentraliserOf_l4 K k x.1 x.2.1 x.2.2.1 (fun z0 z1=>kx 0 (mkSt X0_s_DrawCentraliserOf (z0,z1,()))))]
theorem ok_s_DrawCentraliserOf (K:Nat):FnOk Tryz.prog 23 (sp_s_DrawCentraliserOf (s_DrawCentraliserOf K)) :=
  fn_okD tysOk [C_s_l01From K,C_s_l10Draw K,C_s_l01DrawOf K,C_s_l01Next K,C_s_l01Pick K] 0 (D_s_DrawCentraliserOf K) [(0,X0_s_DrawCentraliserOf)] rv_s_DrawCentraliserOf K Tryz.func23 (by kernel_rfl) ⟨⟨fun _ _ _ _=>by kernel_rfl,fun _ _ _=>rfl⟩,trivial⟩ (fun _=>by kernel_rfl)
noncomputable def C_s_DrawCentraliserOf (K:Nat):CB Tryz.prog:=.f _ _ (ok_s_DrawCentraliserOf K)
noncomputable def ps_s_l04DrawList:Lv:=[(0,(.bx (.v tq1))),(1,(.v (.int .i64)))]
noncomputable def rl_s_l04DrawList:Lv:=[(0,(.r tq0))]
noncomputable def sp_s_l04DrawList (F:(dq1 × Int × Unit)->Option (((List dq0) × Unit) × (dq1 × Unit))):ShSpec:=⟨ps_s_l04DrawList,rl_s_l04DrawList,F⟩
noncomputable def s_l04DrawList_l4 {R:Type} (K:Nat):Nat->dq1->Int->(List dq0)->(List dq0)->Int->(dq1->(List dq0)->Option R)->Option R
  | 0,_,_,_,_,_,_=>none
  | k + 1,v0,v1,v5,v6,v7,kx0 =>
    (if (decide (v7 > (0:Int)))=true then
    (s_l01Next K (v0,(11:Int),())).bind fun y15 =>
    (if (bnds y15.1.1 (v5.length:Int))=true then
    (s_l01Next K (y15.2.1,(4:Int),())).bind fun y16 =>
    (if (decide (y16.1.1=(0:Int)))=true then
    (s_l01Next K (y16.2.1,v1,())).bind fun y17 =>
    (s_l01DrawOf K (y17.2.1,(IntKind.i64.wrap ((1:Int) + y17.1.1)),())).bind fun y18 =>
    (if (decide (v6.length + ([y18.1.1]).length<=lim))=true then
    let l19:=(v6 ++ [y18.1.1])
    s_l04DrawList_l4 K k y18.2.1 v1 v5 l19 (IntKind.i64.wrap (v7 - (1:Int))) kx0
    else
    none)
    else
    let l20:=[(v5.getD y15.1.1.toNat ((0:Int),(0:Int),()))]
    (if (decide (v6.length + l20.length<=lim))=true then
    let l21:=(v6 ++ l20)
    s_l04DrawList_l4 K k y16.2.1 v1 v5 l21 (IntKind.i64.wrap (v7 - (1:Int))) kx0
    else
    none))
    else
    none)
    else
    kx0 v0 v6)
noncomputable def s_l04DrawList_l14 {R:Type} (K:Nat):Nat->dq1->(List dq0)->(dq1->(List dq0)->Option R)->Option R
  | 0,_,_,_=>none
  | k + 1,v0,v6,kx3 =>
    (if (decide ((v6.length:Int) < (9:Int)))=true then
    let x27:=(((1:Int),((0:Int),(0:Int),()).2.1,()).1,(2:Int),())
    (if (decide (v6.length + ([x27]).length<=lim))=true then
    let l28:=(v6 ++ [x27])
    s_l04DrawList_l14 K k v0 l28 kx3
    else
    none)
    else
    kx3 v0 v6)
noncomputable def s_l04DrawList (K:Nat) (x:(dq1 × Int × Unit)):Option (((List dq0) × Unit) × (dq1 × Unit)) :=
    let x1:=(((2:Int),((0:Int),(0:Int),()).2.1,()).1,(8:Int),())
    let x2:=(((2:Int),((0:Int),(0:Int),()).2.1,()).1,(14:Int),())
    let x3:=(((2:Int),((0:Int),(0:Int),()).2.1,()).1,(6:Int),())
    let x4:=(((2:Int),((0:Int),(0:Int),()).2.1,()).1,(9:Int),())
    let x5:=(((2:Int),((0:Int),(0:Int),()).2.1,()).1,(7:Int),())
    let x6:=(((2:Int),((0:Int),(0:Int),()).2.1,()).1,(1:Int),())
    let x7:=(((2:Int),((0:Int),(0:Int),()).2.1,()).1,(13:Int),())
    let x8:=(((2:Int),((0:Int),(0:Int),()).2.1,()).1,(2:Int),())
    let x9:=(((1:Int),((0:Int),(0:Int),()).2.1,()).1,(1:Int),())
    let x10:=(((0:Int),((0:Int),(0:Int),()).2.1,()).1,(0:Int),())
    let x11:=(((0:Int),((0:Int),(0:Int),()).2.1,()).1,(1:Int),())
    let l12:=[x1,x2,x3,x4,x5,x6,x7,x8,x9,x10,x11]
    let l13:=([]:List dq0)
    (s_l01Next K (x.1,(4:Int),())).bind fun y14 =>
    s_l04DrawList_l4 K K y14.2.1 x.2.1 l12 l13 y14.1.1 (fun z22 z23 =>
    (s_l01Next K (z22,(40:Int),())).bind fun y24 =>
    (if (decide (y24.1.1=(0:Int)))=true then
    (s_l01Spoil K (y24.2.1,())).bind fun y25 =>
    (if (decide (z23.length + ([y25.1.1]).length<=lim))=true then
    let l26:=(z23 ++ [y25.1.1])
    some ((l26,()),(y25.2.1,()))
    else
    none)
    else
    (if (decide (y24.1.1=(1:Int)))=true then
    s_l04DrawList_l14 K K y24.2.1 z23 (fun z29 z30 =>
    some ((z30,()),(z29,())))
    else
    some ((z23,()),(y24.2.1,())))))
noncomputable def X0_s_l04DrawList:Lv:=[(0,(.bx (.v tq1))),(6,(.r tq0))]
noncomputable def X3_s_l04DrawList:Lv:=[(0,(.bx (.v tq1))),(6,(.r tq0))]
noncomputable def rv_s_l04DrawList:Lv:=[(0,(.bx (.v tq1))),(4,(.r tq0))]
noncomputable def D_s_l04DrawList (K:Nat):List (PD (den rl_s_l04DrawList.ty × den (outL ps_s_l04DrawList).ty)):=[.L 4 [(0,(.bx (.v tq1))),(1,(.v (.int .i64))),(5,(.r tq0)),(6,(.r tq0)),(7,(.v (.int .i64)))] [] (fun k x kx kr=>s_l04DrawList_l4 K k x.1 x.2.1 x.2.2.1 x.2.2.2.1 x.2.2.2.2.1 (fun z0 z1=>kx 0 (mkSt X0_s_l04DrawList (z0,z1,())))),
  .L 14 [(0,(.bx (.v tq1))),(6,(.r tq0))] [] (fun k x kx kr=>s_l04DrawList_l14 K k x.1 x.2.1 (fun z0 z1=>kx 3 (mkSt X3_s_l04DrawList (z0,z1,()))))]
theorem ok_s_l04DrawList (K:Nat):ShOk Tryz.prog 73 (sp_s_l04DrawList (s_l04DrawList K)) :=
  sh_okD tysOk [C_s_l01DrawOf K,C_s_l01Next K,C_s_l01Spoil K] 1 (D_s_l04DrawList K) [(0,X0_s_l04DrawList),(3,X3_s_l04DrawList)] rv_s_l04DrawList K Tryz.func73 (by kernel_rfl) ⟨⟨fun _ _ _ _=>by kernel_rfl,fun _ _ _=>rfl⟩,⟨⟨fun _ _ _ _=>by kernel_rfl,fun _ _ _=>rfl⟩,trivial⟩⟩ (fun _=>by kernel_rfl)
noncomputable def C_s_l04DrawList (K:Nat):CB Tryz.prog:=.s _ _ (ok_s_l04DrawList K)
noncomputable def as_s_DrawFindOfKind:Ty:=(.pair (.sl (.int .u8)) .unit)
noncomputable def sp_s_DrawFindOfKind (F:((List Int) × Unit)->Option ((List dq0) × Int × Unit)):FnSpec:=⟨as_s_DrawFindOfKind,[false],(.tup (.pair (.sl tq0) (.pair (.int .i64) .unit))),F⟩
noncomputable def s_DrawFindOfKind (K:Nat) (x:((List Int) × Unit)):Option ((List dq0) × Int × Unit) :=
    (s_l01From K (x.1,())).bind fun y1 =>
    (s_l04DrawList K (y1.1.1,(2:Int),())).bind fun y2 =>
    (s_l01Next K (y2.2.1,(4:Int),())).bind fun y3 =>
    (s_l01Next K (y3.2.1,(24:Int),())).bind fun y4 =>
    let x5:=(IntKind.i64.wrap (y3.1.1 + (IntKind.i64.wrap (Int.tdiv y4.1.1 (23:Int)))))
    some (y2.1.1,x5,())
noncomputable def rv_s_DrawFindOfKind:Lv:=[(2,(.r tq0)),(3,(.v (.int .i64)))]
theorem ok_s_DrawFindOfKind (K:Nat):FnOk Tryz.prog 29 (sp_s_DrawFindOfKind (s_DrawFindOfKind K)) :=
  fn_okD tysOk [C_s_l01From K,C_s_l01Next K,C_s_l04DrawList K] 0 [] [] rv_s_DrawFindOfKind K Tryz.func29 (by kernel_rfl) trivial (fun _=>by kernel_rfl)
noncomputable def C_s_DrawFindOfKind (K:Nat):CB Tryz.prog:=.f _ _ (ok_s_DrawFindOfKind K)
noncomputable def as_s_DrawIsAbelian:Ty:=(.pair (.sl (.int .u8)) .unit)
noncomputable def sp_s_DrawIsAbelian (F:((List Int) × Unit)->Option (List dq0)):FnSpec:=⟨as_s_DrawIsAbelian,[false],(.sl tq0),F⟩
noncomputable def s_DrawIsAbelian (K:Nat) (x:((List Int) × Unit)):Option (List dq0) :=
    (s_DrawCentraliserOf K (x.1,())).bind fun y1 =>
    some y1.1
noncomputable def rv_s_DrawIsAbelian:Lv:=[(2,(.r tq0))]
theorem ok_s_DrawIsAbelian (K:Nat):FnOk Tryz.prog 26 (sp_s_DrawIsAbelian (s_DrawIsAbelian K)) :=
  fn_okD tysOk [C_s_DrawCentraliserOf K] 0 [] [] rv_s_DrawIsAbelian K Tryz.func26 (by kernel_rfl) trivial (fun _=>by kernel_rfl)
noncomputable def C_s_DrawIsAbelian (K:Nat):CB Tryz.prog:=.f _ _ (ok_s_DrawIsAbelian K)
noncomputable def as_s_l04Code:Ty:=(.pair (.sl tq0) (.pair (.int .i64) .unit))
noncomputable def sp_s_l04Code (F:((List dq0) × Int × Unit)->Option Int):FnSpec:=⟨as_s_l04Code,[false,false],(.int .i64),F⟩
noncomputable def s_l04Code_l7 {R:Type} (K:Nat):Nat->(List dq0)->Int->Int->(Option R)->(Int->Option R)->Option R
  | 0,_,_,_,_,_=>none
  | k + 1,v0,v1,v6,kx0,kr =>
    (if (decide (v6 < (v0.length:Int)))=true then
    (if (decide (v1=(3:Int)))=true then
    (if (bnds v6 (v0.length:Int))=true then
    let x3:=(decide ((v0.getD v6.toNat ((0:Int),(0:Int),())).1 > (2:Int)))
    (if x3=true then
    kr (2:Int)
    else
    s_l04Code_l7 K k v0 v1 (IntKind.i64.wrap (v6 + (1:Int))) kx0 kr)
    else
    none)
    else
    s_l04Code_l7 K k v0 v1 (IntKind.i64.wrap (v6 + (1:Int))) kx0 kr)
    else
    kx0)
noncomputable def s_l04Code (K:Nat) (x:((List dq0) × Int × Unit)):Option Int :=
    (s_l02Code K (x.1,())).bind fun y1 =>
    (if (!decide (y1=(0:Int)))=true then
    some y1
    else
    (s_l01In K (x.2.1,(2:Int),(3:Int),())).bind fun y2 =>
    (if (!y2)=true then
    some (2:Int)
    else
    s_l04Code_l7 K K x.1 x.2.1 (0:Int) (some (0:Int)) (fun z4 =>
    some z4)))
noncomputable def X0_s_l04Code:Lv:=[]
noncomputable def rv_s_l04Code:Lv:=[(4,(.v (.int .i64)))]
noncomputable def D_s_l04Code (K:Nat):List (PD (den (.int .i64))):=[.L 7 [(0,(.v (.sl tq0))),(1,(.v (.int .i64))),(6,(.v (.int .i64)))] [] (fun k x kx kr=>s_l04Code_l7 K k x.1 x.2.1 x.2.2.1 (kx 0 (mkSt X0_s_l04Code ())) (fun z0=>kr (mkSt rv_s_l04Code (z0,()))))]
theorem ok_s_l04Code (K:Nat):FnOk Tryz.prog 38 (sp_s_l04Code (s_l04Code K)) :=
  fn_okD tysOk [C_s_l02Code K,C_s_l01In K] 0 (D_s_l04Code K) [(0,X0_s_l04Code)] rv_s_l04Code K Tryz.func38 (by kernel_rfl) ⟨⟨fun _ _ _ _=>by kernel_rfl,fun _ _ _=>rfl⟩,trivial⟩ (fun _=>by kernel_rfl)
noncomputable def C_s_l04Code (K:Nat):CB Tryz.prog:=.f _ _ (ok_s_l04Code K)
noncomputable def as_s_l01Own:Ty:=(.pair (.sl (.int .i64)) .unit)
noncomputable def sp_s_l01Own (F:((List Int) × Unit)->Option (List Int)):FnSpec:=⟨as_s_l01Own,[false],(.sl (.int .i64)),F⟩
noncomputable def s_l01Own (K:Nat) (x:((List Int) × Unit)):Option (List Int) :=
    let l1:=([]:List Int)
    (if (decide (l1.length + x.1.length<=lim))=true then
    let l2:=(l1 ++ x.1)
    some l2
    else
    none)
noncomputable def rv_s_l01Own:Lv:=[(2,(.r (.int .i64)))]
theorem ok_s_l01Own (K:Nat):FnOk Tryz.prog 132 (sp_s_l01Own (s_l01Own K)) :=
  fn_okD tysOk [] 0 [] [] rv_s_l01Own K Tryz.func132 (by kernel_rfl) trivial (fun _=>by kernel_rfl)
noncomputable def C_s_l01Own (K:Nat):CB Tryz.prog:=.f _ _ (ok_s_l01Own K)
noncomputable def as_s_l04Put:Ty:=(.pair tq0 (.pair (.sl (.int .i64)) (.pair (.int .i64) .unit)))
noncomputable def sp_s_l04Put (F:(dq0 × (List Int) × Int × Unit)->Option Int):FnSpec:=⟨as_s_l04Put,[false,false,false],(.int .i64),F⟩
noncomputable def s_l04Put_l7 {R:Type} (K:Nat):Nat->(List Int)->Int->dq0->Int->Int->Int->Int->((List Int)->Int->dq0->Int->Int->Int->Option R)->Option R
  | 0,_,_,_,_,_,_,_,_=>none
  | k + 1,v1,v2,v3,v7,v8,v9,v10,kx2 =>
    (if (decide (v10 < (v1.length:Int)))=true then
    (if (bnds v10 (v1.length:Int))=true then
    (if (decide ((0:Int)<=(IntKind.u64.wrap v8)))=true then
    let x2:=(shrI .i64 (v1.getD v10.toNat (0:Int)) (IntKind.u64.wrap v8))
    (if (decide ((0:Int)<=(IntKind.u64.wrap v10)))=true then
    let x3:=(shlI .i64 (bitI .and .i64 x2 (1:Int)) (IntKind.u64.wrap v10))
    s_l04Put_l7 K k v1 v2 v3 v7 v8 (bitI .or .i64 v9 x3) (IntKind.i64.wrap (v10 + (1:Int))) kx2
    else
    none)
    else
    none)
    else
    none)
    else
    kx2 v1 v2 v3 v7 v8 v9)
noncomputable def s_l04Put_l3 {R:Type} (K:Nat):Nat->(List Int)->Int->dq0->Int->Int->(Int->Option R)->Option R
  | 0,_,_,_,_,_,_=>none
  | k + 1,v1,v2,v3,v7,v8,kx0 =>
    (s_l01Rows K (v2,())).bind fun y1 =>
    (if (decide (v8 < y1))=true then
    s_l04Put_l7 K k v1 v2 v3 v7 v8 (0:Int) (0:Int) (fun z4 z5 z6 z7 z8 z9 =>
    (s_l01At K (z6,z9,())).bind fun y10 =>
    (if (decide ((0:Int)<=(IntKind.u64.wrap z8)))=true then
    s_l04Put_l3 K k z4 z5 z6 (bitI .or .i64 z7 (shlI .i64 y10 (IntKind.u64.wrap z8))) (IntKind.i64.wrap (z8 + (1:Int))) kx0
    else
    none))
    else
    kx0 v7)
noncomputable def s_l04Put (K:Nat) (x:(dq0 × (List Int) × Int × Unit)):Option Int :=
    s_l04Put_l3 K K x.2.1 x.2.2.1 x.1 (0:Int) (0:Int) (fun z11 =>
    some z11)
noncomputable def X0_s_l04Put:Lv:=[(7,(.v (.int .i64)))]
noncomputable def X2_s_l04Put:Lv:=[(1,(.v (.sl (.int .i64)))),(2,(.v (.int .i64))),(3,(.bx (.v tq0))),(7,(.v (.int .i64))),(8,(.v (.int .i64))),(9,(.v (.int .i64)))]
noncomputable def rv_s_l04Put:Lv:=[(6,(.v (.int .i64)))]
noncomputable def D_s_l04Put (K:Nat):List (PD (den (.int .i64))):=[.L 3 [(1,(.v (.sl (.int .i64)))),(2,(.v (.int .i64))),(3,(.bx (.v tq0))),(7,(.v (.int .i64))),(8,(.v (.int .i64)))] [] (fun k x kx kr=>s_l04Put_l3 K k x.1 x.2.1 x.2.2.1 x.2.2.2.1 x.2.2.2.2.1 (fun z0=>kx 0 (mkSt X0_s_l04Put (z0,())))),
  .L 7 [(1,(.v (.sl (.int .i64)))),(2,(.v (.int .i64))),(3,(.bx (.v tq0))),(7,(.v (.int .i64))),(8,(.v (.int .i64))),(9,(.v (.int .i64))),(10,(.v (.int .i64)))] [] (fun k x kx kr=>s_l04Put_l7 K k x.1 x.2.1 x.2.2.1 x.2.2.2.1 x.2.2.2.2.1 x.2.2.2.2.2.1 x.2.2.2.2.2.2.1 (fun z0 z1 z2 z3 z4 z5=>kx 2 (mkSt X2_s_l04Put (z0,z1,z2,z3,z4,z5,()))))]
theorem ok_s_l04Put (K:Nat):FnOk Tryz.prog 162 (sp_s_l04Put (s_l04Put K)) :=
  fn_okD tysOk [C_s_l01Rows K,C_s_l01At K] 0 (D_s_l04Put K) [(0,X0_s_l04Put),(2,X2_s_l04Put)] rv_s_l04Put K Tryz.func162 (by kernel_rfl) ⟨⟨fun _ _ _ _=>by kernel_rfl,fun _ _ _=>rfl⟩,⟨⟨fun _ _ _ _=>by kernel_rfl,fun _ _ _=>rfl⟩,trivial⟩⟩ (fun _=>by kernel_rfl)
noncomputable def C_s_l04Put (K:Nat):CB Tryz.prog:=.f _ _ (ok_s_l04Put K)
noncomputable def s_l04Round_l9 {R:Type} (K:Nat) (r:(dq0 × (List Int) × (List Int) × (List Int) × Int × Int × Unit)->Option (Bool × ((List Int) × (List Int) × (List Int) × Unit))):Nat->(List Int)->(List Int)->(List Int)->Int->Int->dq0->Bool->Int->((List Int)->(List Int)->(List Int)->Bool->Option R)->Option R
  | 0,_,_,_,_,_,_,_,_,_=>none
  | k + 1,v1,v2,v3,v4,v5,v6,v14,v15,kx0 =>
    (if (decide (v15 < (v2.length:Int)))=true then
    (s_l01Own K (v3,())).bind fun y3 =>
    (if (bnds v15 (v2.length:Int))=true then
    let l4:=[(v2.getD v15.toNat (0:Int))]
    (if (decide (y3.length + l4.length<=lim))=true then
    let l5:=(y3 ++ l4)
    (r (v6,v1,v2,l5,v4,v5,())).bind fun y6 =>
    (if y6.1=true then
    s_l04Round_l9 K r k y6.2.1 y6.2.2.1 v3 v4 v5 v6 true (IntKind.i64.wrap (v15 + (1:Int))) kx0
    else
    s_l04Round_l9 K r k y6.2.1 y6.2.2.1 v3 v4 v5 v6 v14 (IntKind.i64.wrap (v15 + (1:Int))) kx0)
    else
    none)
    else
    none)
    else
    kx0 v1 v2 v3 v14)
noncomputable def s_l04Round_b (K:Nat) (r:(dq0 × (List Int) × (List Int) × (List Int) × Int × Int × Unit)->Option (Bool × ((List Int) × (List Int) × (List Int) × Unit))) (x:(dq0 × (List Int) × (List Int) × (List Int) × Int × Int × Unit)):Option (Bool × ((List Int) × (List Int) × (List Int) × Unit)) :=
    (if (decide ((x.2.2.2.1.length:Int)=x.1.1))=true then
    (s_l04Put K (x.1,x.2.2.2.1,x.2.2.2.2.1,())).bind fun y1 =>
    (if (bnds y1 (x.2.1.length:Int))=true then
    (if (decide ((x.2.1.getD y1.toNat (0:Int)) ≥ (0:Int)))=true then
    some (false,(x.2.1,x.2.2.1,x.2.2.2.1,()))
    else
    (if (bnds y1 (x.2.1.length:Int))=true then
    let l2:=(x.2.1.set y1.toNat x.2.2.2.2.2.1)
    some (true,(l2,x.2.2.1,x.2.2.2.1,()))
    else
    none))
    else
    none)
    else
    s_l04Round_l9 K r K x.2.1 x.2.2.1 x.2.2.2.1 x.2.2.2.2.1 x.2.2.2.2.2.1 x.1 false (0:Int) (fun z7 z8 z9 z10 =>
    some (z10,(z7,z8,z9,()))))
noncomputable def s_l04Round (K:Nat):Nat->(dq0 × (List Int) × (List Int) × (List Int) × Int × Int × Unit)->Option (Bool × ((List Int) × (List Int) × (List Int) × Unit))
  | 0=>fun _=>none
  | k + 1=>s_l04Round_b K (s_l04Round K k)
noncomputable def X0_s_l04Round:Lv:=[(1,(.r (.int .i64))),(2,(.r (.int .i64))),(3,(.r (.int .i64))),(14,(.v .bool))]
noncomputable def rv_s_l04Round:Lv:=[(1,(.r (.int .i64))),(2,(.r (.int .i64))),(3,(.r (.int .i64))),(12,(.v .bool))]
noncomputable def D_s_l04Round (K:Nat) (r:(dq0 × (List Int) × (List Int) × (List Int) × Int × Int × Unit)->Option (Bool × ((List Int) × (List Int) × (List Int) × Unit))):List (PD (den (.pair .bool (.pair (.sl (.int .i64)) (.pair (.sl (.int .i64)) (.pair (.sl (.int .i64)) .unit)))))):=[.L 9 [(1,(.r (.int .i64))),(2,(.r (.int .i64))),(3,(.r (.int .i64))),(4,(.v (.int .i64))),(5,(.v (.int .i64))),(6,(.bx (.v tq0))),(14,(.v .bool)),(15,(.v (.int .i64)))] [] (fun k x kx kr=>s_l04Round_l9 K r k x.1 x.2.1 x.2.2.1 x.2.2.2.1 x.2.2.2.2.1 x.2.2.2.2.2.1 x.2.2.2.2.2.2.1 x.2.2.2.2.2.2.2.1 (fun z0 z1 z2 z3=>kx 0 (mkSt X0_s_l04Round (z0,z1,z2,z3,()))))]
theorem okb_s_l04Round (K:Nat) (r:(dq0 × (List Int) × (List Int) × (List Int) × Int × Int × Unit)->Option (Bool × ((List Int) × (List Int) × (List Int) × Unit))) (hr:FnOk Tryz.prog 93 (sp_s_l04Round r)):FnOk Tryz.prog 93 (sp_s_l04Round (s_l04Round_b K r)) :=
  fn_okD tysOk [.f _ (sp_s_l04Round (r)) (hr),C_s_l01Own K,C_s_l04Put K] 4 (D_s_l04Round K r) [(0,X0_s_l04Round)] rv_s_l04Round K Tryz.func93 (by kernel_rfl) ⟨⟨fun _ _ _ _=>by kernel_rfl,fun _ _ _=>rfl⟩,trivial⟩ (fun _=>by kernel_rfl)
theorem ok_s_l04Round (K:Nat):∀ k,FnOk Tryz.prog 93 (sp_s_l04Round (s_l04Round K k))
  | 0=>fnOk_none
  | k + 1=>okb_s_l04Round K (s_l04Round K k) (ok_s_l04Round K k)
noncomputable def as_s_l04Depths:Ty:=(.pair (.sl tq0) (.pair (.int .i64) .unit))
noncomputable def sp_s_l04Depths (F:((List dq0) × Int × Unit)->Option (List Int)):FnSpec:=⟨as_s_l04Depths,[false,false],(.sl (.int .i64)),F⟩
noncomputable def s_l04Depths_l3 {R:Type} (K:Nat):Nat->(List dq0)->Int->(List Int)->Int->((List dq0)->Int->(List Int)->Option R)->Option R
  | 0,_,_,_,_,_=>none
  | k + 1,v0,v1,v5,v6,kx0 =>
    (s_l01All K (v1,())).bind fun y2 =>
    (if (decide (v6<=y2))=true then
    let l3:=[(-1:Int)]
    (if (decide (v5.length + l3.length<=lim))=true then
    let l4:=(v5 ++ l3)
    s_l04Depths_l3 K k v0 v1 l4 (IntKind.i64.wrap (v6 + (1:Int))) kx0
    else
    none)
    else
    kx0 v0 v1 v5)
noncomputable def s_l04Depths_l7 {R:Type} (K:Nat):Nat->(List dq0)->Int->(List Int)->Int->((List dq0)->Int->(List Int)->Option R)->Option R
  | 0,_,_,_,_,_=>none
  | k + 1,v0,v1,v5,v7,kx2 =>
    (if (decide (v7 < v1))=true then
    (s_l01Projection K (v1,v7,())).bind fun y8 =>
    (if (bnds y8.2.1 (v5.length:Int))=true then
    let l9:=(v5.set y8.2.1.toNat (0:Int))
    s_l04Depths_l7 K k v0 v1 l9 (IntKind.i64.wrap (v7 + (1:Int))) kx2
    else
    none)
    else
    kx2 v0 v1 v5)
noncomputable def s_l04Depths_l17 {R:Type} (K:Nat):Nat->(List dq0)->Int->(List Int)->Bool->Int->(List Int)->Int->((List dq0)->Int->(List Int)->Bool->Int->(List Int)->Option R)->Option R
  | 0,_,_,_,_,_,_,_,_=>none
  | k + 1,v0,v1,v5,v8,v9,v10,v11,kx6 =>
    (s_l01All K (v1,())).bind fun y14 =>
    (if (decide (v11<=y14))=true then
    (if (bnds v11 (v5.length:Int))=true then
    (if (decide ((v5.getD v11.toNat (0:Int)) ≥ (0:Int)))=true then
    (if (decide (v10.length + ([v11]).length<=lim))=true then
    let l15:=(v10 ++ [v11])
    s_l04Depths_l17 K k v0 v1 v5 v8 v9 l15 (IntKind.i64.wrap (v11 + (1:Int))) kx6
    else
    none)
    else
    s_l04Depths_l17 K k v0 v1 v5 v8 v9 v10 (IntKind.i64.wrap (v11 + (1:Int))) kx6)
    else
    none)
    else
    kx6 v0 v1 v5 v8 v9 v10)
noncomputable def s_l04Depths_l22 {R:Type} (K:Nat):Nat->(List dq0)->Int->(List Int)->Bool->Int->(List Int)->Int->((List dq0)->Int->(List Int)->Bool->Int->Option R)->Option R
  | 0,_,_,_,_,_,_,_,_=>none
  | k + 1,v0,v1,v5,v8,v9,v10,v12,kx8 =>
    (if (decide (v12 < (v0.length:Int)))=true then
    (if (bnds v12 (v0.length:Int))=true then
    let l22:=([]:List Int)
    (s_l04Round K K ((v0.getD v12.toNat ((0:Int),(0:Int),())),v5,v10,l22,v1,v9,())).bind fun y23 =>
    (if y23.1=true then
    s_l04Depths_l22 K k v0 v1 y23.2.1 true v9 y23.2.2.1 (IntKind.i64.wrap (v12 + (1:Int))) kx8
    else
    s_l04Depths_l22 K k v0 v1 y23.2.1 v8 v9 y23.2.2.1 (IntKind.i64.wrap (v12 + (1:Int))) kx8)
    else
    none)
    else
    kx8 v0 v1 v5 v8 v9)
noncomputable def s_l04Depths_l12 {R:Type} (K:Nat):Nat->(List dq0)->Int->(List Int)->Bool->Int->((List Int)->Option R)->Option R
  | 0,_,_,_,_,_,_=>none
  | k + 1,v0,v1,v5,v8,v9,kx4 =>
    (if v8=true then
    let l13:=([]:List Int)
    s_l04Depths_l17 K k v0 v1 v5 false v9 l13 (0:Int) (fun z16 z17 z18 z19 z20 z21 =>
    s_l04Depths_l22 K k z16 z17 z18 z19 z20 z21 (0:Int) (fun z24 z25 z26 z27 z28 =>
    s_l04Depths_l12 K k z24 z25 z26 z27 (IntKind.i64.wrap (z28 + (1:Int))) kx4))
    else
    kx4 v5)
noncomputable def s_l04Depths (K:Nat) (x:((List dq0) × Int × Unit)):Option (List Int) :=
    let l1:=([]:List Int)
    s_l04Depths_l3 K K x.1 x.2.1 l1 (0:Int) (fun z5 z6 z7 =>
    s_l04Depths_l7 K K z5 z6 z7 (0:Int) (fun z10 z11 z12 =>
    s_l04Depths_l12 K K z10 z11 z12 true (1:Int) (fun z29 =>
    some z29)))
noncomputable def X0_s_l04Depths:Lv:=[(0,(.v (.sl tq0))),(1,(.v (.int .i64))),(5,(.r (.int .i64)))]
noncomputable def X2_s_l04Depths:Lv:=[(0,(.v (.sl tq0))),(1,(.v (.int .i64))),(5,(.r (.int .i64)))]
noncomputable def X4_s_l04Depths:Lv:=[(5,(.r (.int .i64)))]
noncomputable def X6_s_l04Depths:Lv:=[(0,(.v (.sl tq0))),(1,(.v (.int .i64))),(5,(.r (.int .i64))),(8,(.v .bool)),(9,(.v (.int .i64))),(10,(.r (.int .i64)))]
noncomputable def X8_s_l04Depths:Lv:=[(0,(.v (.sl tq0))),(1,(.v (.int .i64))),(5,(.r (.int .i64))),(8,(.v .bool)),(9,(.v (.int .i64)))]
noncomputable def rv_s_l04Depths:Lv:=[(4,(.r (.int .i64)))]
noncomputable def D_s_l04Depths (K:Nat):List (PD (den (.sl (.int .i64)))):=[.L 3 [(0,(.v (.sl tq0))),(1,(.v (.int .i64))),(5,(.r (.int .i64))),(6,(.v (.int .i64)))] [] (fun k x kx kr=>s_l04Depths_l3 K k x.1 x.2.1 x.2.2.1 x.2.2.2.1 (fun z0 z1 z2=>kx 0 (mkSt X0_s_l04Depths (z0,z1,z2,())))),
  .L 7 [(0,(.v (.sl tq0))),(1,(.v (.int .i64))),(5,(.r (.int .i64))),(7,(.v (.int .i64)))] [] (fun k x kx kr=>s_l04Depths_l7 K k x.1 x.2.1 x.2.2.1 x.2.2.2.1 (fun z0 z1 z2=>kx 2 (mkSt X2_s_l04Depths (z0,z1,z2,())))),
  .L 12 [(0,(.v (.sl tq0))),(1,(.v (.int .i64))),(5,(.r (.int .i64))),(8,(.v .bool)),(9,(.v (.int .i64)))] [] (fun k x kx kr=>s_l04Depths_l12 K k x.1 x.2.1 x.2.2.1 x.2.2.2.1 x.2.2.2.2.1 (fun z0=>kx 4 (mkSt X4_s_l04Depths (z0,())))),
  .L 17 [(0,(.v (.sl tq0))),(1,(.v (.int .i64))),(5,(.r (.int .i64))),(8,(.v .bool)),(9,(.v (.int .i64))),(10,(.r (.int .i64))),(11,(.v (.int .i64)))] [] (fun k x kx kr=>s_l04Depths_l17 K k x.1 x.2.1 x.2.2.1 x.2.2.2.1 x.2.2.2.2.1 x.2.2.2.2.2.1 x.2.2.2.2.2.2.1 (fun z0 z1 z2 z3 z4 z5=>kx 6 (mkSt X6_s_l04Depths (z0,z1,z2,z3,z4,z5,())))),
  .L 22 [(0,(.v (.sl tq0))),(1,(.v (.int .i64))),(5,(.r (.int .i64))),(8,(.v .bool)),(9,(.v (.int .i64))),(10,(.r (.int .i64))),(12,(.v (.int .i64)))] [] (fun k x kx kr=>s_l04Depths_l22 K k x.1 x.2.1 x.2.2.1 x.2.2.2.1 x.2.2.2.2.1 x.2.2.2.2.2.1 x.2.2.2.2.2.2.1 (fun z0 z1 z2 z3 z4=>kx 8 (mkSt X8_s_l04Depths (z0,z1,z2,z3,z4,()))))]
theorem ok_s_l04Depths (K:Nat):FnOk Tryz.prog 39 (sp_s_l04Depths (s_l04Depths K)) :=
  fn_okD tysOk [C_s_l01All K,C_s_l01Projection K,.f _ (sp_s_l04Round (s_l04Round K K)) (ok_s_l04Round K K)] 0 (D_s_l04Depths K) [(0,X0_s_l04Depths),(2,X2_s_l04Depths),(4,X4_s_l04Depths),(6,X6_s_l04Depths),(8,X8_s_l04Depths)] rv_s_l04Depths K Tryz.func39 (by kernel_rfl) ⟨⟨fun _ _ _ _=>by kernel_rfl,fun _ _ _=>rfl⟩,⟨⟨fun _ _ _ _=>by kernel_rfl,fun _ _ _=>rfl⟩,⟨⟨fun _ _ _ _=>by kernel_rfl,fun _ _ _=>rfl⟩,⟨⟨fun _ _ _ _=>by kernel_rfl,fun _ _ _=>rfl⟩,⟨⟨fun _ _ _ _=>by kernel_rfl,fun _ _ _=>rfl⟩,trivial⟩⟩⟩⟩⟩ (fun _=>by kernel_rfl)
noncomputable def C_s_l04Depths (K:Nat):CB Tryz.prog:=.f _ _ (ok_s_l04Depths K)
noncomputable def as_s_l10Code:Ty:=(.pair (.int .i64) (.pair (.sl tq0) .unit))
noncomputable def sp_s_l10Code (F:(Int × (List dq0) × Unit)->Option Int):FnSpec:=⟨as_s_l10Code,[false,false],(.int .i64),F⟩
noncomputable def s_l10Code_l2 {R:Type} (K:Nat):Nat->Int->(List dq0)->Int->(Int->Option R)->(Int->Option R)->Option R
  | 0,_,_,_,_,_=>none
  | k + 1,v0,v1,v5,kx0,kr =>
    (if (decide (v5 < (v1.length:Int)))=true then
    (if (bnds v5 (v1.length:Int))=true then
    (s_l01Is K ((v1.getD v5.toNat ((0:Int),(0:Int),())),())).bind fun y1 =>
    (if (!y1)=true then
    kr (1:Int)
    else
    s_l10Code_l2 K k v0 v1 (IntKind.i64.wrap (v5 + (1:Int))) kx0 kr)
    else
    none)
    else
    kx0 v0)
noncomputable def s_l10Code (K:Nat) (x:(Int × (List dq0) × Unit)):Option Int :=
    s_l10Code_l2 K K x.1 x.2.1 (0:Int) (fun z2 =>
    (s_l01In K (z2,(0:Int),(3:Int),())).bind fun y3 =>
    (if (!y3)=true then
    some (2:Int)
    else
    some (0:Int))) (fun z4 =>
    some z4)
noncomputable def X0_s_l10Code:Lv:=[(0,(.v (.int .i64)))]
noncomputable def rv_s_l10Code:Lv:=[(4,(.v (.int .i64)))]
noncomputable def D_s_l10Code (K:Nat):List (PD (den (.int .i64))):=[.L 2 [(0,(.v (.int .i64))),(1,(.v (.sl tq0))),(5,(.v (.int .i64)))] [] (fun k x kx kr=>s_l10Code_l2 K k x.1 x.2.1 x.2.2.1 (fun z0=>kx 0 (mkSt X0_s_l10Code (z0,()))) (fun z0=>kr (mkSt rv_s_l10Code (z0,()))))]
theorem ok_s_l10Code (K:Nat):FnOk Tryz.prog 78 (sp_s_l10Code (s_l10Code K)) :=
  fn_okD tysOk [C_s_l01Is K,C_s_l01In K] 0 (D_s_l10Code K) [(0,X0_s_l10Code)] rv_s_l10Code K Tryz.func78 (by kernel_rfl) ⟨⟨fun _ _ _ _=>by kernel_rfl,fun _ _ _=>rfl⟩,trivial⟩ (fun _=>by kernel_rfl)
noncomputable def C_s_l10Code (K:Nat):CB Tryz.prog:=.f _ _ (ok_s_l10Code K)
noncomputable def as_s_l10Idem:Ty:=(.pair tq0 .unit)
noncomputable def sp_s_l10Idem (F:(dq0 × Unit)->Option Bool):FnSpec:=⟨as_s_l10Idem,[false],.bool,F⟩
noncomputable def s_l10Idem (K:Nat) (x:(dq0 × Unit)):Option Bool :=
    (if (decide (x.1.1 > (0:Int)))=true then
    (s_l01At K (x.1,(0:Int),())).bind fun y1 =>
    (if (decide (y1=(0:Int)))=true then
    (s_l01Rows K (x.1.1,())).bind fun y2 =>
    (s_l01At K (x.1,(IntKind.i64.wrap (y2 - (1:Int))),())).bind fun y3 =>
    some (decide (y3=(1:Int)))
    else
    some false)
    else
    some false)
noncomputable def rv_s_l10Idem:Lv:=[(2,(.v .bool))]
theorem ok_s_l10Idem (K:Nat):FnOk Tryz.prog 153 (sp_s_l10Idem (s_l10Idem K)) :=
  fn_okD tysOk [C_s_l01Rows K,C_s_l01At K] 0 [] [] rv_s_l10Idem K Tryz.func153 (by kernel_rfl) trivial (fun _=>by kernel_rfl)
noncomputable def C_s_l10Idem (K:Nat):CB Tryz.prog:=.f _ _ (ok_s_l10Idem K)
noncomputable def as_s_l10Symmetric:Ty:=(.pair tq0 .unit)
noncomputable def sp_s_l10Symmetric (F:(dq0 × Unit)->Option Bool):FnSpec:=⟨as_s_l10Symmetric,[false],.bool,F⟩
noncomputable def s_l10Symmetric_l5 {R:Type} (K:Nat):Nat->dq0->Int->Int->(dq0->Int->Option R)->(Bool->Option R)->Option R
  | 0,_,_,_,_,_=>none
  | k + 1,v1,v3,v4,kx2,kr =>
    (if (decide (v4 < v3))=true then
    (s_l10Weight K (v3,())).bind fun y2 =>
    (s_l10Weight K (v4,())).bind fun y3 =>
    (if (decide (y2=y3))=true then
    (s_l01At K (v1,v3,())).bind fun y4 =>
    (s_l01At K (v1,v4,())).bind fun y5 =>
    (if (!decide (y4=y5))=true then
    kr false
    else
    s_l10Symmetric_l5 K k v1 v3 (IntKind.i64.wrap (v4 + (1:Int))) kx2 kr)
    else
    s_l10Symmetric_l5 K k v1 v3 (IntKind.i64.wrap (v4 + (1:Int))) kx2 kr)
    else
    kx2 v1 v3)
noncomputable def s_l10Symmetric_l2 {R:Type} (K:Nat):Nat->dq0->Int->(Option R)->(Bool->Option R)->Option R
  | 0,_,_,_,_=>none
  | k + 1,v1,v3,kx0,kr =>
    (s_l01Rows K (v1.1,())).bind fun y1 =>
    (if (decide (v3 < y1))=true then
    s_l10Symmetric_l5 K k v1 v3 (0:Int) (fun z6 z7 =>
    s_l10Symmetric_l2 K k z6 (IntKind.i64.wrap (z7 + (1:Int))) kx0 kr) (fun z8 =>
    kr z8)
    else
    kx0)
noncomputable def s_l10Symmetric (K:Nat) (x:(dq0 × Unit)):Option Bool :=
    s_l10Symmetric_l2 K K x.1 (0:Int) (some true) (fun z9 =>
    some z9)
noncomputable def X0_s_l10Symmetric:Lv:=[]
noncomputable def X2_s_l10Symmetric:Lv:=[(1,(.bx (.v tq0))),(3,(.v (.int .i64)))]
noncomputable def rv_s_l10Symmetric:Lv:=[(2,(.v .bool))]
noncomputable def D_s_l10Symmetric (K:Nat):List (PD (den .bool)):=[.L 2 [(1,(.bx (.v tq0))),(3,(.v (.int .i64)))] [] (fun k x kx kr=>s_l10Symmetric_l2 K k x.1 x.2.1 (kx 0 (mkSt X0_s_l10Symmetric ())) (fun z0=>kr (mkSt rv_s_l10Symmetric (z0,())))),
  .L 5 [(1,(.bx (.v tq0))),(3,(.v (.int .i64))),(4,(.v (.int .i64)))] [] (fun k x kx kr=>s_l10Symmetric_l5 K k x.1 x.2.1 x.2.2.1 (fun z0 z1=>kx 2 (mkSt X2_s_l10Symmetric (z0,z1,()))) (fun z0=>kr (mkSt rv_s_l10Symmetric (z0,()))))]
theorem ok_s_l10Symmetric (K:Nat):FnOk Tryz.prog 154 (sp_s_l10Symmetric (s_l10Symmetric K)) :=
  fn_okD tysOk [C_s_l01Rows K,C_s_l10Weight K,C_s_l01At K] 0 (D_s_l10Symmetric K) [(0,X0_s_l10Symmetric),(2,X2_s_l10Symmetric)] rv_s_l10Symmetric K Tryz.func154 (by kernel_rfl) ⟨⟨fun _ _ _ _=>by kernel_rfl,fun _ _ _=>rfl⟩,⟨⟨fun _ _ _ _=>by kernel_rfl,fun _ _ _=>rfl⟩,trivial⟩⟩ (fun _=>by kernel_rfl)
noncomputable def C_s_l10Symmetric (K:Nat):CB Tryz.prog:=.f _ _ (ok_s_l10Symmetric K)
noncomputable def as_s_l10Kind:Ty:=(.pair tq0 (.pair (.int .i64) .unit))
noncomputable def sp_s_l10Kind (F:(dq0 × Int × Unit)->Option Bool):FnSpec:=⟨as_s_l10Kind,[false,false],.bool,F⟩
noncomputable def s_l10Kind_j16 {R:Type} (K:Nat) (k:Nat) (v1:Int) (v2:dq0) (v5:Int) (v6:Int) (v7:Int) (v9:Int) (kn:Int->dq0->Int->Int->Option R) (kr:(Bool->Option R)):Option R :=
    gN K ((if (decide (v1=(2:Int)))=true then
    (if (!decide (v9=v6))=true then
    kr false
    else
    (if (!decide (v7=v6))=true then
    kr false
    else
    kn v1 v2 v5 v6))
    else
    kn v1 v2 v5 v6))
noncomputable def s_l10Kind_j14 {R:Type} (K:Nat) (k:Nat) (v1:Int) (v2:dq0) (v5:Int) (v6:Int) (v7:Int) (v8:Int) (v9:Int) (kn:Int->dq0->Int->Int->Option R) (kr:(Bool->Option R)):Option R :=
    gN K ((if (decide (v1=(1:Int)))=true then
    (if (!decide (v7=v6))=true then
    kr false
    else
    (if (!decide (v8=v6))=true then
    kr false
    else
    (if (!decide (v9=v6))=true then
    kr false
    else
    s_l10Kind_j16 K k v1 v2 v5 v6 v7 v9 (fun z12 z13 z14 z15 =>
    kn z12 z13 z14 z15) (fun z16 =>
    kr z16))))
    else
    s_l10Kind_j16 K k v1 v2 v5 v6 v7 v9 (fun z17 z18 z19 z20 =>
    kn z17 z18 z19 z20) (fun z21 =>
    kr z21)))
noncomputable def s_l10Kind_j10 {R:Type} (K:Nat) (k:Nat) (v1:Int) (v2:dq0) (v5:Int) (v6:Int) (kn:Int->dq0->Int->Int->Option R) :Option R :=
    kn v1 v2 v5 (IntKind.i64.wrap (v6 + (1:Int)))
noncomputable def s_l10Kind_l9 {R:Type} (K:Nat):Nat->Int->dq0->Int->Int->(Int->dq0->Int->Option R)->(Bool->Option R)->Option R
  | 0,_,_,_,_,_,_=>none
  | k + 1,v1,v2,v5,v6,kx2,kr =>
    (if (decide (v6 < (2:Int)))=true then
    let x3:=(IntKind.i64.wrap (v5 + (IntKind.i64.wrap ((2:Int) * v5))))
    let x4:=(IntKind.i64.wrap (x3 + (IntKind.i64.wrap ((4:Int) * v6))))
    (s_l01At K (v2,x4,())).bind fun y5 =>
    let x6:=(IntKind.i64.wrap (v5 + (IntKind.i64.wrap ((2:Int) * v6))))
    let x7:=(IntKind.i64.wrap (x6 + (IntKind.i64.wrap ((4:Int) * v5))))
    (s_l01At K (v2,x7,())).bind fun y8 =>
    let x9:=(IntKind.i64.wrap (v6 + (IntKind.i64.wrap ((2:Int) * v5))))
    let x10:=(IntKind.i64.wrap (x9 + (IntKind.i64.wrap ((4:Int) * v5))))
    (s_l01At K (v2,x10,())).bind fun y11 =>
    (if (decide (v1=(0:Int)))=true then
    (if (!decide (y5=v5))=true then
    kr false
    else
    (if (!decide (y8=v5))=true then
    kr false
    else
    (if (!decide (y11=v5))=true then
    kr false
    else
    s_l10Kind_j14 K k v1 v2 v5 v6 y5 y8 y11 (fun z22 z23 z24 z25 =>
    s_l10Kind_j10 K k z22 z23 z24 z25 (fun z26 z27 z28 z29 =>
    s_l10Kind_l9 K k z26 z27 z28 z29 kx2 kr)) (fun z30 =>
    kr z30))))
    else
    s_l10Kind_j14 K k v1 v2 v5 v6 y5 y8 y11 (fun z31 z32 z33 z34 =>
    s_l10Kind_j10 K k z31 z32 z33 z34 (fun z35 z36 z37 z38 =>
    s_l10Kind_l9 K k z35 z36 z37 z38 kx2 kr)) (fun z39 =>
    kr z39))
    else
    kx2 v1 v2 v5)
noncomputable def s_l10Kind_l6 {R:Type} (K:Nat):Nat->Int->dq0->Int->(Option R)->(Bool->Option R)->Option R
  | 0,_,_,_,_,_=>none
  | k + 1,v1,v2,v5,kx0,kr =>
    (if (decide (v5 < (2:Int)))=true then
    s_l10Kind_l9 K k v1 v2 v5 (0:Int) (fun z40 z41 z42 =>
    s_l10Kind_l6 K k z40 z41 (IntKind.i64.wrap (z42 + (1:Int))) kx0 kr) (fun z43 =>
    kr z43)
    else
    kx0)
noncomputable def s_l10Kind (K:Nat) (x:(dq0 × Int × Unit)):Option Bool :=
    (if (!decide (x.1.1=(3:Int)))=true then
    some false
    else
    (if (decide (x.2.1=(3:Int)))=true then
    (s_l10Idem K (x.1,())).bind fun y1 =>
    (if y1=true then
    (s_l10Symmetric K (x.1,())).bind fun y2 =>
    some y2
    else
    some false)
    else
    s_l10Kind_l6 K K x.2.1 x.1 (0:Int) (some true) (fun z44 =>
    some z44)))
noncomputable def X0_s_l10Kind:Lv:=[]
noncomputable def X2_s_l10Kind:Lv:=[(1,(.v (.int .i64))),(2,(.bx (.v tq0))),(5,(.v (.int .i64)))]
noncomputable def rv_s_l10Kind:Lv:=[(4,(.v .bool))]
noncomputable def D_s_l10Kind (K:Nat):List (PD (den .bool)):=[.L 6 [(1,(.v (.int .i64))),(2,(.bx (.v tq0))),(5,(.v (.int .i64)))] [] (fun k x kx kr=>s_l10Kind_l6 K k x.1 x.2.1 x.2.2.1 (kx 0 (mkSt X0_s_l10Kind ())) (fun z0=>kr (mkSt rv_s_l10Kind (z0,())))),
  .L 9 [(1,(.v (.int .i64))),(2,(.bx (.v tq0))),(5,(.v (.int .i64))),(6,(.v (.int .i64)))] [] (fun k x kx kr=>s_l10Kind_l9 K k x.1 x.2.1 x.2.2.1 x.2.2.2.1 (fun z0 z1 z2=>kx 2 (mkSt X2_s_l10Kind (z0,z1,z2,()))) (fun z0=>kr (mkSt rv_s_l10Kind (z0,())))),
  .J 14 [(1,(.v (.int .i64))),(2,(.bx (.v tq0))),(5,(.v (.int .i64))),(6,(.v (.int .i64))),(7,(.v (.int .i64))),(8,(.v (.int .i64))),(9,(.v (.int .i64)))] [(1,(.v (.int .i64))),(2,(.bx (.v tq0))),(5,(.v (.int .i64))),(6,(.v (.int .i64)))] K (fun k x kn kx kr=>s_l10Kind_j14 K k x.1 x.2.1 x.2.2.1 x.2.2.2.1 x.2.2.2.2.1 x.2.2.2.2.2.1 x.2.2.2.2.2.2.1 (fun z0 z1 z2 z3=>kn (z0,z1,z2,z3,())) (fun z0=>kr (mkSt rv_s_l10Kind (z0,())))),
  .J 16 [(1,(.v (.int .i64))),(2,(.bx (.v tq0))),(5,(.v (.int .i64))),(6,(.v (.int .i64))),(7,(.v (.int .i64))),(9,(.v (.int .i64)))] [(1,(.v (.int .i64))),(2,(.bx (.v tq0))),(5,(.v (.int .i64))),(6,(.v (.int .i64)))] K (fun k x kn kx kr=>s_l10Kind_j16 K k x.1 x.2.1 x.2.2.1 x.2.2.2.1 x.2.2.2.2.1 x.2.2.2.2.2.1 (fun z0 z1 z2 z3=>kn (z0,z1,z2,z3,())) (fun z0=>kr (mkSt rv_s_l10Kind (z0,())))),
  .J 10 [(1,(.v (.int .i64))),(2,(.bx (.v tq0))),(5,(.v (.int .i64))),(6,(.v (.int .i64)))] [(1,(.v (.int .i64))),(2,(.bx (.v tq0))),(5,(.v (.int .i64))),(6,(.v (.int .i64)))] 0 (fun k x kn kx kr=>s_l10Kind_j10 K k x.1 x.2.1 x.2.2.1 x.2.2.2.1 (fun z0 z1 z2 z3=>kn (z0,z1,z2,z3,())))]
theorem ok_s_l10Kind (K:Nat):FnOk Tryz.prog 79 (sp_s_l10Kind (s_l10Kind K)) :=
  fn_okD tysOk [C_s_l01At K,C_s_l10Idem K,C_s_l10Symmetric K] 0 (D_s_l10Kind K) [(0,X0_s_l10Kind),(2,X2_s_l10Kind)] rv_s_l10Kind K Tryz.func79 (by kernel_rfl) ⟨⟨fun _ _ _ _=>by kernel_rfl,fun _ _ _=>rfl⟩,⟨⟨fun _ _ _ _=>by kernel_rfl,fun _ _ _=>rfl⟩,⟨fun _ _ _ _ _=>by kernel_rfl,⟨fun _ _ _ _ _=>by kernel_rfl,⟨fun _ _ _ _ _=>by kernel_rfl,trivial⟩⟩⟩⟩⟩ (fun _=>by kernel_rfl)
noncomputable def C_s_l10Kind (K:Nat):CB Tryz.prog:=.f _ _ (ok_s_l10Kind K)
noncomputable def as_s_FindOfKind:Ty:=(.pair (.sl tq0) (.pair (.int .i64) .unit))
noncomputable def sp_s_FindOfKind (F:((List dq0) × Int × Unit)->Option (dq0 × Int × Unit)):FnSpec:=⟨as_s_FindOfKind,[false,false],(.tup (.pair tq0 (.pair (.int .i64) .unit))),F⟩
noncomputable def s_FindOfKind_l10 {R:Type} (K:Nat):Nat->Int->dq0->(List Int)->Int->(dq0->Option R)->(dq0->Int->Option R)->Option R
  | 0,_,_,_,_,_,_=>none
  | k + 1,v1,v4,v7,v8,kx0,kr =>
    (if (decide (v8 < (v7.length:Int)))=true then
    (if (bnds v8 (v7.length:Int))=true then
    (if (decide ((v7.getD v8.toNat (0:Int)) ≥ (0:Int)))=true then
    (s_l10Kind K ((((3:Int),((0:Int),(0:Int),()).2.1,()).1,v8,()),v1,())).bind fun y5 =>
    (if y5=true then
    kr (((3:Int),((0:Int),(0:Int),()).2.1,()).1,v8,()) (0:Int)
    else
    s_FindOfKind_l10 K k v1 v4 v7 (IntKind.i64.wrap (v8 + (1:Int))) kx0 kr)
    else
    s_FindOfKind_l10 K k v1 v4 v7 (IntKind.i64.wrap (v8 + (1:Int))) kx0 kr)
    else
    none)
    else
    kx0 v4)
noncomputable def s_FindOfKind_j6 {R:Type} (K:Nat) (k:Nat) (v0:(List dq0)) (v1:Int) (v4:dq0) (v6:Int) (kn:Option R) (kr:(dq0->Int->Option R)):Option R :=
    (if (!decide (v6=(0:Int)))=true then
    kr ((0:Int),(0:Int),()) v6
    else
    (s_l04Depths K (v0,(3:Int),())).bind fun y4 =>
    s_FindOfKind_l10 K k v1 v4 y4 (0:Int) (fun z6 =>
    kr ((0:Int),(0:Int),()) (4:Int)) (fun z7 z8 =>
    kr z7 z8))
noncomputable def s_FindOfKind_j4 {R:Type} (K:Nat) (k:Nat) (v0:(List dq0)) (v1:Int) (v4:dq0) (v6:Int) (kn:Option R) (kr:(dq0->Int->Option R)):Option R :=
    (if (decide (v6=(0:Int)))=true then
    (s_l04Code K (v0,(3:Int),())).bind fun y3 =>
    s_FindOfKind_j6 K k v0 v1 v4 y3 none (fun z9 z10 =>
    kr z9 z10)
    else
    s_FindOfKind_j6 K k v0 v1 v4 v6 none (fun z11 z12 =>
    kr z11 z12))
noncomputable def s_FindOfKind (K:Nat) (x:((List dq0) × Int × Unit)):Option (dq0 × Int × Unit) :=
    (s_l02Code K (x.1,())).bind fun y1 =>
    (if (decide (y1=(0:Int)))=true then
    (s_l10Code K (x.2.1,([]:List dq0),())).bind fun y2 =>
    s_FindOfKind_j4 K K x.1 x.2.1 ((0:Int),(0:Int),()) y2 none (fun z13 z14 =>
    some (z13,z14,()))
    else
    s_FindOfKind_j4 K K x.1 x.2.1 ((0:Int),(0:Int),()) y1 none (fun z15 z16 =>
    some (z15,z16,())))
noncomputable def X0_s_FindOfKind:Lv:=[(4,(.bx (.v tq0)))]
noncomputable def rv_s_FindOfKind:Lv:=[(4,(.bx (.v tq0))),(5,(.v (.int .i64)))]
noncomputable def D_s_FindOfKind (K:Nat):List (PD (den (.tup (.pair tq0 (.pair (.int .i64) .unit))))):=[.J 4 [(0,(.v (.sl tq0))),(1,(.v (.int .i64))),(4,(.bx (.v tq0))),(6,(.v (.int .i64)))] [] 0 (fun k x kn kx kr=>s_FindOfKind_j4 K k x.1 x.2.1 x.2.2.1 x.2.2.2.1 (kn ()) (fun z0 z1=>kr (mkSt rv_s_FindOfKind (z0,z1,())))),
  .J 6 [(0,(.v (.sl tq0))),(1,(.v (.int .i64))),(4,(.bx (.v tq0))),(6,(.v (.int .i64)))] [] 0 (fun k x kn kx kr=>s_FindOfKind_j6 K k x.1 x.2.1 x.2.2.1 x.2.2.2.1 (kn ()) (fun z0 z1=>kr (mkSt rv_s_FindOfKind (z0,z1,())))),
  .L 10 [(1,(.v (.int .i64))),(4,(.bx (.v tq0))),(7,(.r (.int .i64))),(8,(.v (.int .i64)))] [] (fun k x kx kr=>s_FindOfKind_l10 K k x.1 x.2.1 x.2.2.1 x.2.2.2.1 (fun z0=>kx 0 (mkSt X0_s_FindOfKind (z0,()))) (fun z0 z1=>kr (mkSt rv_s_FindOfKind (z0,z1,()))))]
theorem ok_s_FindOfKind (K:Nat):FnOk Tryz.prog 31 (sp_s_FindOfKind (s_FindOfKind K)) :=
  fn_okD tysOk [C_s_l04Code K,C_s_l04Depths K,C_s_l02Code K,C_s_l10Code K,C_s_l10Kind K] 0 (D_s_FindOfKind K) [(0,X0_s_FindOfKind)] rv_s_FindOfKind K Tryz.func31 (by kernel_rfl) ⟨fun _ _ _ _ _=>by kernel_rfl,⟨fun _ _ _ _ _=>by kernel_rfl,⟨⟨fun _ _ _ _=>by kernel_rfl,fun _ _ _=>rfl⟩,trivial⟩⟩⟩ (fun _=>by kernel_rfl)
noncomputable def C_s_FindOfKind (K:Nat):CB Tryz.prog:=.f _ _ (ok_s_FindOfKind K)
noncomputable def as_s_IsAbelian:Ty:=(.pair (.sl tq0) .unit)
noncomputable def sp_s_IsAbelian (F:((List dq0) × Unit)->Option (Bool × Int × Unit)):FnSpec:=⟨as_s_IsAbelian,[false],(.tup (.pair .bool (.pair (.int .i64) .unit))),F⟩
noncomputable def s_IsAbelian_l8 {R:Type} (K:Nat):Nat->(List dq0)->Int->Int->((List dq0)->Int->Option R)->(Bool->Int->Option R)->Option R
  | 0,_,_,_,_,_=>none
  | k + 1,v0,v5,v6,kx2,kr =>
    (if (decide (v6<=v5))=true then
    (if (bnds v5 (v0.length:Int))=true then
    (if (bnds v6 (v0.length:Int))=true then
    (s_l10Commute K ((v0.getD v5.toNat ((0:Int),(0:Int),())),(v0.getD v6.toNat ((0:Int),(0:Int),())),())).bind fun y2 =>
    (if (!y2)=true then
    kr false (0:Int)
    else
    s_IsAbelian_l8 K k v0 v5 (IntKind.i64.wrap (v6 + (1:Int))) kx2 kr)
    else
    none)
    else
    none)
    else
    kx2 v0 v5)
noncomputable def s_IsAbelian_l5 {R:Type} (K:Nat):Nat->(List dq0)->Int->(Option R)->(Bool->Int->Option R)->Option R
  | 0,_,_,_,_=>none
  | k + 1,v0,v5,kx0,kr =>
    (if (decide (v5 < (v0.length:Int)))=true then
    s_IsAbelian_l8 K k v0 v5 (0:Int) (fun z3 z4 =>
    s_IsAbelian_l5 K k z3 (IntKind.i64.wrap (z4 + (1:Int))) kx0 kr) (fun z5 z6 =>
    kr z5 z6)
    else
    kx0)
noncomputable def s_IsAbelian (K:Nat) (x:((List dq0) × Unit)):Option (Bool × Int × Unit) :=
    (s_l02Code K (x.1,())).bind fun y1 =>
    (if (!decide (y1=(0:Int)))=true then
    some (false,y1,())
    else
    s_IsAbelian_l5 K K x.1 (0:Int) (some (true,(0:Int),())) (fun z7 z8 =>
    some (z7,z8,())))
noncomputable def X0_s_IsAbelian:Lv:=[]
noncomputable def X2_s_IsAbelian:Lv:=[(0,(.v (.sl tq0))),(5,(.v (.int .i64)))]
noncomputable def rv_s_IsAbelian:Lv:=[(2,(.v .bool)),(3,(.v (.int .i64)))]
noncomputable def D_s_IsAbelian (K:Nat):List (PD (den (.tup (.pair .bool (.pair (.int .i64) .unit))))):=[.L 5 [(0,(.v (.sl tq0))),(5,(.v (.int .i64)))] [] (fun k x kx kr=>s_IsAbelian_l5 K k x.1 x.2.1 (kx 0 (mkSt X0_s_IsAbelian ())) (fun z0 z1=>kr (mkSt rv_s_IsAbelian (z0,z1,())))),
  .L 8 [(0,(.v (.sl tq0))),(5,(.v (.int .i64))),(6,(.v (.int .i64)))] [] (fun k x kx kr=>s_IsAbelian_l8 K k x.1 x.2.1 x.2.2.1 (fun z0 z1=>kx 2 (mkSt X2_s_IsAbelian (z0,z1,()))) (fun z0 z1=>kr (mkSt rv_s_IsAbelian (z0,z1,()))))]
theorem ok_s_IsAbelian (K:Nat):FnOk Tryz.prog 28 (sp_s_IsAbelian (s_IsAbelian K)) :=
  fn_okD tysOk [C_s_l02Code K,C_s_l10Commute K] 0 (D_s_IsAbelian K) [(0,X0_s_IsAbelian),(2,X2_s_IsAbelian)] rv_s_IsAbelian K Tryz.func28 (by kernel_rfl) ⟨⟨fun _ _ _ _=>by kernel_rfl,fun _ _ _=>rfl⟩,⟨⟨fun _ _ _ _=>by kernel_rfl,fun _ _ _=>rfl⟩,trivial⟩⟩ (fun _=>by kernel_rfl)
noncomputable def C_s_IsAbelian (K:Nat):CB Tryz.prog:=.f _ _ (ok_s_IsAbelian K)
noncomputable def as_w_big:Ty:=(.pair (.sl (.int .u8)) .unit)
noncomputable def sp_w_big (F:((List Int) × Unit)->Option Bool):FnSpec:=⟨as_w_big,[false],.bool,F⟩
noncomputable def w_big (K:Nat) (x:((List Int) × Unit)):Option Bool :=
    some (decide ((x.1.length:Int) > (4096:Int)))
noncomputable def rv_w_big:Lv:=[(2,(.v .bool))]
theorem ok_w_big (K:Nat):FnOk Tryz.prog 6 (sp_w_big (w_big K)) :=
  fn_okD tysOk [] 0 [] [] rv_w_big K Tryz.func6 (by kernel_rfl) trivial (fun _=>by kernel_rfl)
noncomputable def C_w_big (K:Nat):CB Tryz.prog:=.f _ _ (ok_w_big K)
noncomputable def as_w_funcs9:Ty:=(.pair (.sl tq0) (.pair (.sl tq0) .unit))
noncomputable def sp_w_funcs9 (F:((List dq0) × (List dq0) × Unit)->Option Bool):FnSpec:=⟨as_w_funcs9,[false,false],.bool,F⟩
noncomputable def w_funcs9_l4 {R:Type} (K:Nat):Nat->(List dq0)->(List dq0)->Int->(Option R)->(Bool->Option R)->Option R
  | 0,_,_,_,_,_=>none
  | k + 1,v0,v1,v5,kx0,kr =>
    (if (decide (v5 < (v0.length:Int)))=true then
    (if (bnds v5 (v0.length:Int))=true then
    (if (bnds v5 (v1.length:Int))=true then
    let x1:=(!(eqD (.pair (.int .i64) (.pair (.int .i64) .unit)) (v0.getD v5.toNat ((0:Int),(0:Int),())) (v1.getD v5.toNat ((0:Int),(0:Int),()))))
    (if x1=true then
    kr false
    else
    w_funcs9_l4 K k v0 v1 (IntKind.i64.wrap (v5 + (1:Int))) kx0 kr)
    else
    none)
    else
    none)
    else
    kx0)
noncomputable def w_funcs9 (K:Nat) (x:((List dq0) × (List dq0) × Unit)):Option Bool :=
    (if (!decide ((x.1.length:Int)=(x.2.1.length:Int)))=true then
    some false
    else
    w_funcs9_l4 K K x.1 x.2.1 (0:Int) (some true) (fun z2 =>
    some z2))
noncomputable def X0_w_funcs9:Lv:=[]
noncomputable def rv_w_funcs9:Lv:=[(4,(.v .bool))]
noncomputable def D_w_funcs9 (K:Nat):List (PD (den .bool)):=[.L 4 [(0,(.v (.sl tq0))),(1,(.v (.sl tq0))),(5,(.v (.int .i64)))] [] (fun k x kx kr=>w_funcs9_l4 K k x.1 x.2.1 x.2.2.1 (kx 0 (mkSt X0_w_funcs9 ())) (fun z0=>kr (mkSt rv_w_funcs9 (z0,()))))]
theorem ok_w_funcs9 (K:Nat):FnOk Tryz.prog 13 (sp_w_funcs9 (w_funcs9 K)) :=
  fn_okD tysOk [] 0 (D_w_funcs9 K) [(0,X0_w_funcs9)] rv_w_funcs9 K Tryz.func13 (by kernel_rfl) ⟨⟨fun _ _ _ _=>by kernel_rfl,fun _ _ _=>rfl⟩,trivial⟩ (fun _=>by kernel_rfl)
noncomputable def C_w_funcs9 (K:Nat):CB Tryz.prog:=.f _ _ (ok_w_funcs9 K)
noncomputable def as_w_FnCommuting:Ty:=(.pair (.sl (.int .u8)) .unit)
noncomputable def sp_w_FnCommuting (F:((List Int) × Unit)->Option Bool):FnSpec:=⟨as_w_FnCommuting,[false],.bool,F⟩
noncomputable def w_FnCommuting_j28 {R:Type} (K:Nat) (k:Nat) (v3:dq0) (v4:dq0) (v5:Bool) (v6:Int) (v10:Int) (v11:(List dq0)) (v12:Int) (v21:Int) (v22:dq0) (v23:Int) (kn:dq0->dq0->Bool->Int->Int->(List dq0)->Int->Option R) (kr:(Bool->Option R)):Option R :=
    (i_IsOfKind K (v22,v21,())).bind fun y18 =>
    (if (decide (v23=(0:Int)))=true then
    (if (!decide (y18.2.1=(0:Int)))=true then
    kr false
    else
    (if (!y18.1)=true then
    kr false
    else
    kn v3 v4 v5 v6 v10 v11 v12))
    else
    kn v3 v4 v5 v6 v10 v11 v12)
noncomputable def w_FnCommuting_j24 {R:Type} (K:Nat) (k:Nat) (v3:dq0) (v4:dq0) (v5:Bool) (v6:Int) (v10:Int) (v11:(List dq0)) (v12:Int) (v20:(List dq0)) (v21:Int) (v22:dq0) (v23:Int) (kn:dq0->dq0->Bool->Int->Int->(List dq0)->Int->Option R) (kr:(Bool->Option R)):Option R :=
    gN K ((i_CloneName K (v20,())).bind fun y16 =>
    (i_IsBelow K ((⟨#[68,50]⟩:ByteArray),y16.1,())).bind fun y17 =>
    (if (!decide (y16.2.1=(0:Int)))=true then
    kr false
    else
    (if (!decide (y17.2.1=(0:Int)))=true then
    kr false
    else
    (if (decide (v21=(0:Int)))=true then
    (if (!(y17.1 == (decide (v23=(0:Int)))))=true then
    kr false
    else
    w_FnCommuting_j28 K k v3 v4 v5 v6 v10 v11 v12 v21 v22 v23 (fun z19 z20 z21 z22 z23 z24 z25 =>
    kn z19 z20 z21 z22 z23 z24 z25) (fun z26 =>
    kr z26))
    else
    w_FnCommuting_j28 K k v3 v4 v5 v6 v10 v11 v12 v21 v22 v23 (fun z27 z28 z29 z30 z31 z32 z33 =>
    kn z27 z28 z29 z30 z31 z32 z33) (fun z34 =>
    kr z34)))))
noncomputable def w_FnCommuting_l38 {R:Type} (K:Nat):Nat->dq0->dq0->Bool->Int->Int->(List dq0)->Int->dq0->Int->Bool->Int->(dq0->dq0->Bool->Int->Int->(List dq0)->Int->Int->Bool->Option R)->Option R
  | 0,_,_,_,_,_,_,_,_,_,_,_,_=>none
  | k + 1,v3,v4,v5,v6,v10,v11,v32,v33,v34,v35,v36,kx2 =>
    (if (decide (v36 < (v11.length:Int)))=true then
    (if v35=true then
    w_FnCommuting_l38 K k v3 v4 v5 v6 v10 v11 v32 v33 v34 true (IntKind.i64.wrap (v36 + (1:Int))) kx2
    else
    (if (bnds v36 (v11.length:Int))=true then
    let x43:=(eqD (.pair (.int .i64) (.pair (.int .i64) .unit)) (v11.getD v36.toNat ((0:Int),(0:Int),())) v33)
    w_FnCommuting_l38 K k v3 v4 v5 v6 v10 v11 v32 v33 v34 x43 (IntKind.i64.wrap (v36 + (1:Int))) kx2
    else
    none))
    else
    kx2 v3 v4 v5 v6 v10 v11 v32 v34 v35)
noncomputable def w_FnCommuting_l33 {R:Type} (K:Nat):Nat->dq0->dq0->Bool->Int->Int->(List dq0)->Int->(dq0->dq0->Bool->Int->Option R)->(Bool->Option R)->Option R
  | 0,_,_,_,_,_,_,_,_,_=>none
  | k + 1,v3,v4,v5,v6,v10,v11,v32,kx0,kr =>
    (if (decide (v32 < v10))=true then
    (i_ProjectionOf K (v10,v32,())).bind fun y42 =>
    w_FnCommuting_l38 K k v3 v4 v5 v6 v10 v11 v32 y42.1 y42.2.1 false (0:Int) (fun z44 z45 z46 z47 z48 z49 z50 z51 z52 =>
    (if (!decide (z51=(0:Int)))=true then
    kr false
    else
    (if (!z52)=true then
    kr false
    else
    w_FnCommuting_l33 K k z44 z45 z46 z47 z48 z49 (IntKind.i64.wrap (z50 + (1:Int))) kx0 kr)))
    else
    kx0 v3 v4 v5 v6)
noncomputable def w_FnCommuting_j43 {R:Type} (K:Nat) (k:Nat) (v3:dq0) (v4:dq0) (v5:Bool) (v6:Int) (kn:Option R) (kr:(Bool->Option R)):Option R :=
    (if (!decide (v6=(0:Int)))=true then
    kr (!v5)
    else
    (i_AreCommuting K (v4,v3,())).bind fun y57 =>
    (if (decide (y57.2.1=(0:Int)))=true then
    kr (y57.1 == v5)
    else
    kr false))
noncomputable def w_FnCommuting_j31 {R:Type} (K:Nat) (k:Nat) (v3:dq0) (v4:dq0) (v5:Bool) (v6:Int) (v10:Int) (v11:(List dq0)) (v12:Int) (kn:Option R) (kr:(Bool->Option R)):Option R :=
    (if (decide (v12=(0:Int)))=true then
    w_FnCommuting_l33 K k v3 v4 v5 v6 v10 v11 (0:Int) (fun z53 z54 z55 z56 =>
    w_FnCommuting_j43 K k z53 z54 z55 z56 none (fun z58 =>
    kr z58)) (fun z59 =>
    kr z59)
    else
    w_FnCommuting_j43 K k v3 v4 v5 v6 none (fun z60 =>
    kr z60))
noncomputable def w_FnCommuting_j23 {R:Type} (K:Nat) (k:Nat) (v3:dq0) (v4:dq0) (v5:Bool) (v6:Int) (v10:Int) (v11:(List dq0)) (v12:Int) (v20:(List dq0)) (v21:Int) (v22:dq0) (v23:Int) (kn:Option R) (kr:(Bool->Option R)):Option R :=
    (if (decide (v23=(0:Int)))=true then
    w_FnCommuting_j24 K k v3 v4 v5 v6 v10 v11 v12 v20 v21 v22 v23 (fun z35 z36 z37 z38 z39 z40 z41 =>
    w_FnCommuting_j31 K k z35 z36 z37 z38 z39 z40 z41 none (fun z61 =>
    kr z61)) (fun z62 =>
    kr z62)
    else
    (if (decide (v23=(4:Int)))=true then
    w_FnCommuting_j24 K k v3 v4 v5 v6 v10 v11 v12 v20 v21 v22 v23 (fun z63 z64 z65 z66 z67 z68 z69 =>
    w_FnCommuting_j31 K k z63 z64 z65 z66 z67 z68 z69 none (fun z70 =>
    kr z70)) (fun z71 =>
    kr z71)
    else
    w_FnCommuting_j31 K k v3 v4 v5 v6 v10 v11 v12 none (fun z72 =>
    kr z72)))
noncomputable def w_FnCommuting_j18 {R:Type} (K:Nat) (k:Nat) (v0:(List Int)) (v3:dq0) (v4:dq0) (v5:Bool) (v6:Int) (v10:Int) (v11:(List dq0)) (v12:Int) (kn:Option R) (kr:(Bool->Option R)):Option R :=
    (s_DrawFindOfKind K (v0,())).bind fun y12 =>
    (i_FindOfKind K (y12.1,y12.2.1,())).bind fun y13 =>
    (s_FindOfKind K (y12.1,y12.2.1,())).bind fun y14 =>
    (if (!decide (y13.2.1=y14.2.1))=true then
    kr false
    else
    let x15:=(!(eqD (.pair (.int .i64) (.pair (.int .i64) .unit)) y13.1 y14.1))
    (if x15=true then
    kr false
    else
    w_FnCommuting_j23 K k v3 v4 v5 v6 v10 v11 v12 y12.1 y12.2.1 y13.1 y13.2.1 none (fun z73 =>
    kr z73)))
noncomputable def w_FnCommuting_j13 {R:Type} (K:Nat) (k:Nat) (v0:(List Int)) (v3:dq0) (v4:dq0) (v5:Bool) (v6:Int) (v10:Int) (v11:(List dq0)) (v12:Int) (kn:Option R) (kr:(Bool->Option R)):Option R :=
    (s_DrawIsAbelian K (v0,())).bind fun y9 =>
    (i_IsAbelian K (y9,())).bind fun y10 =>
    (s_IsAbelian K (y9,())).bind fun y11 =>
    (if (!decide (y10.2.1=y11.2.1))=true then
    kr false
    else
    (if (!(y10.1 == y11.1))=true then
    kr false
    else
    w_FnCommuting_j18 K k v0 v3 v4 v5 v6 v10 v11 v12 none (fun z74 =>
    kr z74)))
noncomputable def w_FnCommuting_j8 {R:Type} (K:Nat) (k:Nat) (v0:(List Int)) (v3:dq0) (v4:dq0) (v5:Bool) (v6:Int) (kn:Option R) (kr:(Bool->Option R)):Option R :=
    (s_DrawCentraliserOf K (v0,())).bind fun y5 =>
    (i_CentraliserOf K (y5.1,y5.2.1,())).bind fun y6 =>
    (s_CentraliserOf K (y5.1,y5.2.1,())).bind fun y7 =>
    (if (!decide (y6.2.1=y7.2.1))=true then
    kr false
    else
    (w_funcs9 K (y6.1,y7.1,())).bind fun y8 =>
    (if (!y8)=true then
    kr false
    else
    w_FnCommuting_j13 K k v0 v3 v4 v5 v6 y5.2.1 y6.1 y6.2.1 none (fun z75 =>
    kr z75)))
noncomputable def w_FnCommuting (K:Nat) (x:((List Int) × Unit)):Option Bool :=
    (w_big K (x.1,())).bind fun y1 =>
    (if y1=true then
    some true
    else
    (s_DrawAreCommuting K (x.1,())).bind fun y2 =>
    (i_AreCommuting K (y2.1,y2.2.1,())).bind fun y3 =>
    (s_AreCommuting K (y2.1,y2.2.1,())).bind fun y4 =>
    (if (!decide (y3.2.1=y4.2.1))=true then
    some false
    else
    (if (!(y3.1 == y4.1))=true then
    some false
    else
    w_FnCommuting_j8 K K x.1 y2.1 y2.2.1 y3.1 y3.2.1 none (fun z76 =>
    some z76))))
noncomputable def X0_w_FnCommuting:Lv:=[(3,(.bx (.v tq0))),(4,(.bx (.v tq0))),(5,(.v .bool)),(6,(.v (.int .i64)))]
noncomputable def X2_w_FnCommuting:Lv:=[(3,(.bx (.v tq0))),(4,(.bx (.v tq0))),(5,(.v .bool)),(6,(.v (.int .i64))),(10,(.v (.int .i64))),(11,(.r tq0)),(32,(.v (.int .i64))),(34,(.v (.int .i64))),(35,(.v .bool))]
noncomputable def rv_w_FnCommuting:Lv:=[(2,(.v .bool))]
noncomputable def D_w_FnCommuting (K:Nat):List (PD (den .bool)):=[.J 8 [(0,(.v (.sl (.int .u8)))),(3,(.bx (.v tq0))),(4,(.bx (.v tq0))),(5,(.v .bool)),(6,(.v (.int .i64)))] [] 0 (fun k x kn kx kr=>w_FnCommuting_j8 K k x.1 x.2.1 x.2.2.1 x.2.2.2.1 x.2.2.2.2.1 (kn ()) (fun z0=>kr (mkSt rv_w_FnCommuting (z0,())))),
  .J 13 [(0,(.v (.sl (.int .u8)))),(3,(.bx (.v tq0))),(4,(.bx (.v tq0))),(5,(.v .bool)),(6,(.v (.int .i64))),(10,(.v (.int .i64))),(11,(.r tq0)),(12,(.v (.int .i64)))] [] 0 (fun k x kn kx kr=>w_FnCommuting_j13 K k x.1 x.2.1 x.2.2.1 x.2.2.2.1 x.2.2.2.2.1 x.2.2.2.2.2.1 x.2.2.2.2.2.2.1 x.2.2.2.2.2.2.2.1 (kn ()) (fun z0=>kr (mkSt rv_w_FnCommuting (z0,())))),
  .J 18 [(0,(.v (.sl (.int .u8)))),(3,(.bx (.v tq0))),(4,(.bx (.v tq0))),(5,(.v .bool)),(6,(.v (.int .i64))),(10,(.v (.int .i64))),(11,(.r tq0)),(12,(.v (.int .i64)))] [] 0 (fun k x kn kx kr=>w_FnCommuting_j18 K k x.1 x.2.1 x.2.2.1 x.2.2.2.1 x.2.2.2.2.1 x.2.2.2.2.2.1 x.2.2.2.2.2.2.1 x.2.2.2.2.2.2.2.1 (kn ()) (fun z0=>kr (mkSt rv_w_FnCommuting (z0,())))),
  .J 23 [(3,(.bx (.v tq0))),(4,(.bx (.v tq0))),(5,(.v .bool)),(6,(.v (.int .i64))),(10,(.v (.int .i64))),(11,(.r tq0)),(12,(.v (.int .i64))),(20,(.r tq0)),(21,(.v (.int .i64))),(22,(.bx (.v tq0))),(23,(.v (.int .i64)))] [] 0 (fun k x kn kx kr=>w_FnCommuting_j23 K k x.1 x.2.1 x.2.2.1 x.2.2.2.1 x.2.2.2.2.1 x.2.2.2.2.2.1 x.2.2.2.2.2.2.1 x.2.2.2.2.2.2.2.1 x.2.2.2.2.2.2.2.2.1 x.2.2.2.2.2.2.2.2.2.1 x.2.2.2.2.2.2.2.2.2.2.1 (kn ()) (fun z0=>kr (mkSt rv_w_FnCommuting (z0,())))),
  .J 24 [(3,(.bx (.v tq0))),(4,(.bx (.v tq0))),(5,(.v .bool)),(6,(.v (.int .i64))),(10,(.v (.int .i64))),(11,(.r tq0)),(12,(.v (.int .i64))),(20,(.r tq0)),(21,(.v (.int .i64))),(22,(.bx (.v tq0))),(23,(.v (.int .i64)))] [(3,(.bx (.v tq0))),(4,(.bx (.v tq0))),(5,(.v .bool)),(6,(.v (.int .i64))),(10,(.v (.int .i64))),(11,(.r tq0)),(12,(.v (.int .i64)))] K (fun k x kn kx kr=>w_FnCommuting_j24 K k x.1 x.2.1 x.2.2.1 x.2.2.2.1 x.2.2.2.2.1 x.2.2.2.2.2.1 x.2.2.2.2.2.2.1 x.2.2.2.2.2.2.2.1 x.2.2.2.2.2.2.2.2.1 x.2.2.2.2.2.2.2.2.2.1 x.2.2.2.2.2.2.2.2.2.2.1 (fun z0 z1 z2 z3 z4 z5 z6=>kn (z0,z1,z2,z3,z4,z5,z6,())) (fun z0=>kr (mkSt rv_w_FnCommuting (z0,())))),
  .J 28 [(3,(.bx (.v tq0))),(4,(.bx (.v tq0))),(5,(.v .bool)),(6,(.v (.int .i64))),(10,(.v (.int .i64))),(11,(.r tq0)),(12,(.v (.int .i64))),(21,(.v (.int .i64))),(22,(.bx (.v tq0))),(23,(.v (.int .i64)))] [(3,(.bx (.v tq0))),(4,(.bx (.v tq0))),(5,(.v .bool)),(6,(.v (.int .i64))),(10,(.v (.int .i64))),(11,(.r tq0)),(12,(.v (.int .i64)))] 0 (fun k x kn kx kr=>w_FnCommuting_j28 K k x.1 x.2.1 x.2.2.1 x.2.2.2.1 x.2.2.2.2.1 x.2.2.2.2.2.1 x.2.2.2.2.2.2.1 x.2.2.2.2.2.2.2.1 x.2.2.2.2.2.2.2.2.1 x.2.2.2.2.2.2.2.2.2.1 (fun z0 z1 z2 z3 z4 z5 z6=>kn (z0,z1,z2,z3,z4,z5,z6,())) (fun z0=>kr (mkSt rv_w_FnCommuting (z0,())))),
  .J 31 [(3,(.bx (.v tq0))),(4,(.bx (.v tq0))),(5,(.v .bool)),(6,(.v (.int .i64))),(10,(.v (.int .i64))),(11,(.r tq0)),(12,(.v (.int .i64)))] [] 0 (fun k x kn kx kr=>w_FnCommuting_j31 K k x.1 x.2.1 x.2.2.1 x.2.2.2.1 x.2.2.2.2.1 x.2.2.2.2.2.1 x.2.2.2.2.2.2.1 (kn ()) (fun z0=>kr (mkSt rv_w_FnCommuting (z0,())))),
  .L 33 [(3,(.bx (.v tq0))),(4,(.bx (.v tq0))),(5,(.v .bool)),(6,(.v (.int .i64))),(10,(.v (.int .i64))),(11,(.r tq0)),(32,(.v (.int .i64)))] [] (fun k x kx kr=>w_FnCommuting_l33 K k x.1 x.2.1 x.2.2.1 x.2.2.2.1 x.2.2.2.2.1 x.2.2.2.2.2.1 x.2.2.2.2.2.2.1 (fun z0 z1 z2 z3=>kx 0 (mkSt X0_w_FnCommuting (z0,z1,z2,z3,()))) (fun z0=>kr (mkSt rv_w_FnCommuting (z0,())))),
  .L 38 [(3,(.bx (.v tq0))),(4,(.bx (.v tq0))),(5,(.v .bool)),(6,(.v (.int .i64))),(10,(.v (.int .i64))),(11,(.r tq0)),(32,(.v (.int .i64))),(33,(.bx (.v tq0))),(34,(.v (.int .i64))),(35,(.v .bool)),(36,(.v (.int .i64)))] [] (fun k x kx kr=>w_FnCommuting_l38 K k x.1 x.2.1 x.2.2.1 x.2.2.2.1 x.2.2.2.2.1 x.2.2.2.2.2.1 x.2.2.2.2.2.2.1 x.2.2.2.2.2.2.2.1 x.2.2.2.2.2.2.2.2.1 x.2.2.2.2.2.2.2.2.2.1 x.2.2.2.2.2.2.2.2.2.2.1 (fun z0 z1 z2 z3 z4 z5 z6 z7 z8=>kx 2 (mkSt X2_w_FnCommuting (z0,z1,z2,z3,z4,z5,z6,z7,z8,())))),
  .J 43 [(3,(.bx (.v tq0))),(4,(.bx (.v tq0))),(5,(.v .bool)),(6,(.v (.int .i64)))] [] 0 (fun k x kn kx kr=>w_FnCommuting_j43 K k x.1 x.2.1 x.2.2.1 x.2.2.2.1 (kn ()) (fun z0=>kr (mkSt rv_w_FnCommuting (z0,()))))]
theorem ok_w_FnCommuting (K:Nat):FnOk Tryz.prog 5 (sp_w_FnCommuting (w_FnCommuting K)) :=
  fn_okD tysOk [C_w_big K,C_i_CloneName K,C_w_funcs9 K,C_s_DrawAreCommuting K,C_i_AreCommuting K,C_s_AreCommuting K,C_s_DrawCentraliserOf K,C_i_CentraliserOf K,C_s_CentraliserOf K,C_s_DrawIsAbelian K,C_i_IsAbelian K,C_s_IsAbelian K,C_s_DrawFindOfKind K,C_i_FindOfKind K,C_s_FindOfKind K,C_i_IsBelow K,C_i_IsOfKind K,C_i_ProjectionOf K] 0 (D_w_FnCommuting K) [(0,X0_w_FnCommuting),(2,X2_w_FnCommuting)] rv_w_FnCommuting K Tryz.func5 (by kernel_rfl) ⟨fun _ _ _ _ _=>by kernel_rfl,⟨fun _ _ _ _ _=>by kernel_rfl,⟨fun _ _ _ _ _=>by kernel_rfl,⟨fun _ _ _ _ _=>by kernel_rfl,⟨fun _ _ _ _ _=>by kernel_rfl,⟨fun _ _ _ _ _=>by kernel_rfl,⟨fun _ _ _ _ _=>by kernel_rfl,⟨⟨fun _ _ _ _=>by kernel_rfl,fun _ _ _=>rfl⟩,⟨⟨fun _ _ _ _=>by kernel_rfl,fun _ _ _=>rfl⟩,⟨fun _ _ _ _ _=>by kernel_rfl,trivial⟩⟩⟩⟩⟩⟩⟩⟩⟩⟩ (fun _=>by kernel_rfl)
end Go.Proofs.YtmlgfaojfmkdnaaGreatDoor.E
