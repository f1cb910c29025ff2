/-
  What the Go functions that FnPromiseOfAll reaches hand back, each as a plain function with a proof that the call does so, and plain lemmas on them. Conditions: those of each theorem.
-/
import Derived.Test.YtmlgfaojfmkdnaaGreatDoorCFnPromiseOfAll7
namespace Go.Proofs.YtmlgfaojfmkdnaaGreatDoor.E
open Go Go.Proofs Go.Proofs.YtmlgfaojfmkdnaaGreatDoor
set_option maxRecDepth 100000
set_option linter.unusedVariables false
noncomputable def as_s_l04Depths:Ty:=(.pair (.sl tq0) (.pair (.int .i64) .unit))
noncomputable def sp_s_l04Depths (F:((List dq0) × Int × Unit)->Option (List Int)):FnSpec:=⟨as_s_l04Depths,[false,false],(.sl (.int .i64)),F⟩
noncomputable def s_l04Depths_l3 {R:Type} (K:Nat):Nat->(List dq0)->Int->(List Int)->Int->((List dq0)->Int->(List Int)->Option R)->Option R
  | 0,_,_,_,_,_=>none
  | k + 1,v0,v1,v5,v6,kx0 =>
    (s_l01All K (v1,())).bind fun y2 =>
    (if (decide (v6<=y2))=true then
    let l3:=[(-1:Int)]
    (if (decide (v5.length + l3.length<=lim))=true then
    let l4:=(v5 ++ l3)
    s_l04Depths_l3 K k v0 v1 l4 (IntKind.i64.wrap (v6 + (1:Int))) kx0
    else
    none)
    else
    kx0 v0 v1 v5)
noncomputable def s_l04Depths_l7 {R:Type} (K:Nat):Nat->(List dq0)->Int->(List Int)->Int->((List dq0)->Int->(List Int)->Option R)->Option R
  | 0,_,_,_,_,_=>none
  | k + 1,v0,v1,v5,v7,kx2 =>
    (if (decide (v7 < v1))=true then
    (s_l01Projection K (v1,v7,())).bind fun y8 =>
    (if (bnds y8.2.1 (v5.length:Int))=true then
    let l9:=(v5.set y8.2.1.toNat (0:Int))
    s_l04Depths_l7 K k v0 v1 l9 (IntKind.i64.wrap (v7 + (1:Int))) kx2
    else
    none)
    else
    kx2 v0 v1 v5)
noncomputable def s_l04Depths_l17 {R:Type} (K:Nat):Nat->(List dq0)->Int->(List Int)->Bool->Int->(List Int)->Int->((List dq0)->Int->(List Int)->Bool->Int->(List Int)->Option R)->Option R
  | 0,_,_,_,_,_,_,_,_=>none
  | k + 1,v0,v1,v5,v8,v9,v10,v11,kx6 =>
    (s_l01All K (v1,())).bind fun y14 =>
    (if (decide (v11<=y14))=true then
    (if (bnds v11 (v5.length:Int))=true then
    (if (decide ((v5.getD v11.toNat (0:Int)) ≥ (0:Int)))=true then
    (if (decide (v10.length + ([v11]).length<=lim))=true then
    let l15:=(v10 ++ [v11])
    s_l04Depths_l17 K k v0 v1 v5 v8 v9 l15 (IntKind.i64.wrap (v11 + (1:Int))) kx6
    else
    none)
    else
    s_l04Depths_l17 K k v0 v1 v5 v8 v9 v10 (IntKind.i64.wrap (v11 + (1:Int))) kx6)
    else
    none)
    else
    kx6 v0 v1 v5 v8 v9 v10)
noncomputable def s_l04Depths_l22 {R:Type} (K:Nat):Nat->(List dq0)->Int->(List Int)->Bool->Int->(List Int)->Int->((List dq0)->Int->(List Int)->Bool->Int->Option R)->Option R
  | 0,_,_,_,_,_,_,_,_=>none
  | k + 1,v0,v1,v5,v8,v9,v10,v12,kx8 =>
    (if (decide (v12 < (v0.length:Int)))=true then
    (if (bnds v12 (v0.length:Int))=true then
    let l22:=([]:List Int)
    (s_l04Round K K ((v0.getD v12.toNat ((0:Int),(0:Int),())),v5,v10,l22,v1,v9,())).bind fun y23 =>
    (if y23.1=true then
    s_l04Depths_l22 K k v0 v1 y23.2.1 true v9 y23.2.2.1 (IntKind.i64.wrap (v12 + (1:Int))) kx8
    else
    s_l04Depths_l22 K k v0 v1 y23.2.1 v8 v9 y23.2.2.1 (IntKind.i64.wrap (v12 + (1:Int))) kx8)
    else
    none)
    else
    kx8 v0 v1 v5 v8 v9)
noncomputable def s_l04Depths_l12 {R:Type} (K:Nat):Nat->(List dq0)->Int->(List Int)->Bool->Int->((List Int)->Option R)->Option R
  | 0,_,_,_,_,_,_=>none
  | k + 1,v0,v1,v5,v8,v9,kx4 =>
    (if v8=true then
    let l13:=([]:List Int)
    s_l04Depths_l17 K k v0 v1 v5 false v9 l13 (0:Int) (fun z16 z17 z18 z19 z20 z21 =>
    s_l04Depths_l22 K k z16 z17 z18 z19 z20 z21 (0:Int) (fun z24 z25 z26 z27 z28 =>
    s_l04Depths_l12 K k z24 z25 z26 z27 (IntKind.i64.wrap (z28 + (1:Int))) kx4))
    else
    kx4 v5)
noncomputable def s_l04Depths (K:Nat) (x:((List dq0) × Int × Unit)):Option (List Int) :=
    let l1:=([]:List Int)
    s_l04Depths_l3 K K x.1 x.2.1 l1 (0:Int) (fun z5 z6 z7 =>
    s_l04Depths_l7 K K z5 z6 z7 (0:Int) (fun z10 z11 z12 =>
    s_l04Depths_l12 K K z10 z11 z12 true (1:Int) (fun z29 =>
    some z29)))
noncomputable def X0_s_l04Depths:Lv:=[(0,(.v (.sl tq0))),(1,(.v (.int .i64))),(5,(.r (.int .i64)))]
noncomputable def X2_s_l04Depths:Lv:=[(0,(.v (.sl tq0))),(1,(.v (.int .i64))),(5,(.r (.int .i64)))]
noncomputable def X4_s_l04Depths:Lv:=[(5,(.r (.int .i64)))]
noncomputable def X6_s_l04Depths:Lv:=[(0,(.v (.sl tq0))),(1,(.v (.int .i64))),(5,(.r (.int .i64))),(8,(.v .bool)),(9,(.v (.int .i64))),(10,(.r (.int .i64)))]
noncomputable def X8_s_l04Depths:Lv:=[(0,(.v (.sl tq0))),(1,(.v (.int .i64))),(5,(.r (.int .i64))),(8,(.v .bool)),(9,(.v (.int .i64)))]
noncomputable def rv_s_l04Depths:Lv:=[(4,(.r (.int .i64)))]
noncomputable def D_s_l04Depths (K:Nat):List (PD (den (.sl (.int .i64)))):=[.L 3 [(0,(.v (.sl tq0))),(1,(.v (.int .i64))),(5,(.r (.int .i64))),(6,(.v (.int .i64)))] [] (fun k x kx kr=>s_l04Depths_l3 K k x.1 x.2.1 x.2.2.1 x.2.2.2.1 (fun z0 z1 z2=>kx 0 (mkSt X0_s_l04Depths (z0,z1,z2,())))),
  .L 7 [(0,(.v (.sl tq0))),(1,(.v (.int .i64))),(5,(.r (.int .i64))),(7,(.v (.int .i64)))] [] (fun k x kx kr=>s_l04Depths_l7 K k x.1 x.2.1 x.2.2.1 x.2.2.2.1 (fun z0 z1 z2=>kx 2 (mkSt X2_s_l04Depths (z0,z1,z2,())))),
  .L 12 [(0,(.v (.sl tq0))),(1,(.v (.int .i64))),(5,(.r (.int .i64))),(8,(.v .bool)),(9,(.v (.int .i64)))] [] (fun k x kx kr=>s_l04Depths_l12 K k x.1 x.2.1 x.2.2.1 x.2.2.2.1 x.2.2.2.2.1 (fun z0=>kx 4 (mkSt X4_s_l04Depths (z0,())))),
  .L 17 [(0,(.v (.sl tq0))),(1,(.v (.int .i64))),(5,(.r (.int .i64))),(8,(.v .bool)),(9,(.v (.int .i64))),(10,(.r (.int .i64))),(11,(.v (.int .i64)))] [] (fun k x kx kr=>s_l04Depths_l17 K k x.1 x.2.1 x.2.2.1 x.2.2.2.1 x.2.2.2.2.1 x.2.2.2.2.2.1 x.2.2.2.2.2.2.1 (fun z0 z1 z2 z3 z4 z5=>kx 6 (mkSt X6_s_l04Depths (z0,z1,z2,z3,z4,z5,())))),
  .L 22 [(0,(.v (.sl tq0))),(1,(.v (.int .i64))),(5,(.r (.int .i64))),(8,(.v .bool)),(9,(.v (.int .i64))),(10,(.r (.int .i64))),(12,(.v (.int .i64)))] [] (fun k x kx kr=>s_l04Depths_l22 K k x.1 x.2.1 x.2.2.1 x.2.2.2.1 x.2.2.2.2.1 x.2.2.2.2.2.1 x.2.2.2.2.2.2.1 (fun z0 z1 z2 z3 z4=>kx 8 (mkSt X8_s_l04Depths (z0,z1,z2,z3,z4,()))))]
theorem ok_s_l04Depths (K:Nat):FnOk Tryz.prog 39 (sp_s_l04Depths (s_l04Depths K)) :=
  fn_okD tysOk [C_s_l01All K,C_s_l01Projection K,.f _ (sp_s_l04Round (s_l04Round K K)) (ok_s_l04Round K K)] 0 (D_s_l04Depths K) [(0,X0_s_l04Depths),(2,X2_s_l04Depths),(4,X4_s_l04Depths),(6,X6_s_l04Depths),(8,X8_s_l04Depths)] rv_s_l04Depths K Tryz.func39 (by kernel_rfl) ⟨⟨fun _ _ _ _=>by kernel_rfl,fun _ _ _=>rfl⟩,⟨⟨fun _ _ _ _=>by kernel_rfl,fun _ _ _=>rfl⟩,⟨⟨fun _ _ _ _=>by kernel_rfl,fun _ _ _=>rfl⟩,⟨⟨fun _ _ _ _=>by kernel_rfl,fun _ _ _=>rfl⟩,⟨⟨fun _ _ _ _=>by kernel_rfl,fun _ _ _=>rfl⟩,trivial⟩⟩⟩⟩⟩ (fun _=>by kernel_rfl)
noncomputable def C_s_l04Depths (K:Nat):CB Tryz.prog:=.f _ _ (ok_s_l04Depths K)
noncomputable def as_s_GeneratedBy:Ty:=(.pair (.sl tq0) (.pair (.int .i64) .unit))
noncomputable def sp_s_GeneratedBy (F:((List dq0) × Int × Unit)->Option ((List dq0) × Int × Unit)):FnSpec:=⟨as_s_GeneratedBy,[false,false],(.tup (.pair (.sl tq0) (.pair (.int .i64) .unit))),F⟩
noncomputable def s_GeneratedBy_l6 {R:Type} (K:Nat):Nat->Int->(List Int)->(List dq0)->Int->((List dq0)->Option R)->Option R
  | 0,_,_,_,_,_=>none
  | k + 1,v1,v7,v8,v9,kx0 =>
    (if (decide (v9 < (v7.length:Int)))=true then
    (if (bnds v9 (v7.length:Int))=true then
    (if (decide ((v7.getD v9.toNat (0:Int)) ≥ (0:Int)))=true then
    let l4:=[((v1,((0:Int),(0:Int),()).2.1,()).1,v9,())]
    (if (decide (v8.length + l4.length<=lim))=true then
    let l5:=(v8 ++ l4)
    s_GeneratedBy_l6 K k v1 v7 l5 (IntKind.i64.wrap (v9 + (1:Int))) kx0
    else
    none)
    else
    s_GeneratedBy_l6 K k v1 v7 v8 (IntKind.i64.wrap (v9 + (1:Int))) kx0)
    else
    none)
    else
    kx0 v8)
noncomputable def s_GeneratedBy (K:Nat) (x:((List dq0) × Int × Unit)):Option ((List dq0) × Int × Unit) :=
    (s_l04Code K (x.1,x.2.1,())).bind fun y1 =>
    (if (!decide (y1=(0:Int)))=true then
    some (([]:List dq0),y1,())
    else
    (s_l04Depths K (x.1,x.2.1,())).bind fun y2 =>
    let l3:=([]:List dq0)
    s_GeneratedBy_l6 K K x.2.1 y2 l3 (0:Int) (fun z6 =>
    some (z6,(0:Int),())))
noncomputable def X0_s_GeneratedBy:Lv:=[(8,(.r tq0))]
noncomputable def rv_s_GeneratedBy:Lv:=[(4,(.r tq0)),(5,(.v (.int .i64)))]
noncomputable def D_s_GeneratedBy (K:Nat):List (PD (den (.tup (.pair (.sl tq0) (.pair (.int .i64) .unit))))):=[.L 6 [(1,(.v (.int .i64))),(7,(.r (.int .i64))),(8,(.r tq0)),(9,(.v (.int .i64)))] [] (fun k x kx kr=>s_GeneratedBy_l6 K k x.1 x.2.1 x.2.2.1 x.2.2.2.1 (fun z0=>kx 0 (mkSt X0_s_GeneratedBy (z0,()))))]
theorem ok_s_GeneratedBy (K:Nat):FnOk Tryz.prog 10 (sp_s_GeneratedBy (s_GeneratedBy K)) :=
  fn_okD tysOk [C_s_l04Code K,C_s_l04Depths K] 0 (D_s_GeneratedBy K) [(0,X0_s_GeneratedBy)] rv_s_GeneratedBy K Tryz.func10 (by kernel_rfl) ⟨⟨fun _ _ _ _=>by kernel_rfl,fun _ _ _=>rfl⟩,trivial⟩ (fun _=>by kernel_rfl)
noncomputable def C_s_GeneratedBy (K:Nat):CB Tryz.prog:=.f _ _ (ok_s_GeneratedBy K)
noncomputable def as_w_funcs9:Ty:=(.pair (.sl tq0) (.pair (.sl tq0) .unit))
noncomputable def sp_w_funcs9 (F:((List dq0) × (List dq0) × Unit)->Option Bool):FnSpec:=⟨as_w_funcs9,[false,false],.bool,F⟩
noncomputable def w_funcs9_l4 {R:Type} (K:Nat):Nat->(List dq0)->(List dq0)->Int->(Option R)->(Bool->Option R)->Option R
  | 0,_,_,_,_,_=>none
  | k + 1,v0,v1,v5,kx0,kr =>
    (if (decide (v5 < (v0.length:Int)))=true then
    (if (bnds v5 (v0.length:Int))=true then
    (if (bnds v5 (v1.length:Int))=true then
    let x1:=(!(eqD (.pair (.int .i64) (.pair (.int .i64) .unit)) (v0.getD v5.toNat ((0:Int),(0:Int),())) (v1.getD v5.toNat ((0:Int),(0:Int),()))))
    (if x1=true then
    kr false
    else
    w_funcs9_l4 K k v0 v1 (IntKind.i64.wrap (v5 + (1:Int))) kx0 kr)
    else
    none)
    else
    none)
    else
    kx0)
noncomputable def w_funcs9 (K:Nat) (x:((List dq0) × (List dq0) × Unit)):Option Bool :=
    (if (!decide ((x.1.length:Int)=(x.2.1.length:Int)))=true then
    some false
    else
    w_funcs9_l4 K K x.1 x.2.1 (0:Int) (some true) (fun z2 =>
    some z2))
noncomputable def X0_w_funcs9:Lv:=[]
noncomputable def rv_w_funcs9:Lv:=[(4,(.v .bool))]
noncomputable def D_w_funcs9 (K:Nat):List (PD (den .bool)):=[.L 4 [(0,(.v (.sl tq0))),(1,(.v (.sl tq0))),(5,(.v (.int .i64)))] [] (fun k x kx kr=>w_funcs9_l4 K k x.1 x.2.1 x.2.2.1 (kx 0 (mkSt X0_w_funcs9 ())) (fun z0=>kr (mkSt rv_w_funcs9 (z0,()))))]
theorem ok_w_funcs9 (K:Nat):FnOk Tryz.prog 13 (sp_w_funcs9 (w_funcs9 K)) :=
  fn_okD tysOk [] 0 (D_w_funcs9 K) [(0,X0_w_funcs9)] rv_w_funcs9 K Tryz.func13 (by kernel_rfl) ⟨⟨fun _ _ _ _=>by kernel_rfl,fun _ _ _=>rfl⟩,trivial⟩ (fun _=>by kernel_rfl)
noncomputable def C_w_funcs9 (K:Nat):CB Tryz.prog:=.f _ _ (ok_w_funcs9 K)
noncomputable def as_w_FnPromiseOfAll:Ty:=(.pair (.sl tq0) (.pair (.int .i64) (.pair tq0 .unit)))
noncomputable def sp_w_FnPromiseOfAll (F:((List dq0) × Int × dq0 × Unit)->Option Bool):FnSpec:=⟨as_w_FnPromiseOfAll,[false,false,false],.bool,F⟩
noncomputable def w_FnPromiseOfAll_l24 {R:Type} (K:Nat):Nat->(List dq0)->ByteArray->dq0->Int->(List Int)->Int->(List Int)->Int->((List dq0)->ByteArray->dq0->Int->(List Int)->Int->Option R)->(Bool->Option R)->Option R
  | 0,_,_,_,_,_,_,_,_,_,_=>none
  | k + 1,v7,v11,v15,v16,v19,v21,v24,v26,kx2,kr =>
    (if (decide (v26 < (v19.length:Int)))=true then
    (if (bnds v26 (v19.length:Int))=true then
    (if (bnds (v19.getD v26.toNat (0:Int)) (v24.length:Int))=true then
    let x12:=(!decide ((v24.getD (v19.getD v26.toNat (0:Int)).toNat (0:Int))=(1:Int)))
    (if x12=true then
    kr false
    else
    w_FnPromiseOfAll_l24 K k v7 v11 v15 v16 v19 v21 v24 (IntKind.i64.wrap (v26 + (1:Int))) kx2 kr)
    else
    none)
    else
    none)
    else
    kx2 v7 v11 v15 v16 v19 v21)
noncomputable def w_FnPromiseOfAll_j23 {R:Type} (K:Nat) (k:Nat) (v7:(List dq0)) (v11:ByteArray) (v15:dq0) (v16:Int) (v19:(List Int)) (v21:Int) (v24:(List Int)) (kn:(List dq0)->ByteArray->dq0->Int->(List Int)->Int->Option R) (kr:(Bool->Option R)):Option R :=
    w_FnPromiseOfAll_l24 K k v7 v11 v15 v16 v19 v21 v24 (0:Int) (fun z13 z14 z15 z16 z17 z18 =>
    (if (bnds z18 (z13.length:Int))=true then
    (i_KeepsRelation K ((z13.getD z18.toNat ((0:Int),(0:Int),())),z15,())).bind fun y19 =>
    (if (decide (z16=(0:Int)))=true then
    (if (!decide (y19.2.1=(0:Int)))=true then
    kr false
    else
    (if (!y19.1)=true then
    kr false
    else
    kn z13 z14 z15 z16 z17 z18))
    else
    kn z13 z14 z15 z16 z17 z18)
    else
    none)) (fun z20 =>
    kr z20)
noncomputable def w_FnPromiseOfAll_j18 {R:Type} (K:Nat) (k:Nat) (v7:(List dq0)) (v11:ByteArray) (v15:dq0) (v16:Int) (v19:(List Int)) (v21:Int) (kn:(List dq0)->ByteArray->dq0->Int->(List Int)->Int->Option R) :Option R :=
    kn v7 v11 v15 v16 v19 (IntKind.i64.wrap (v21 + (1:Int)))
noncomputable def w_FnPromiseOfAll_l17 {R:Type} (K:Nat):Nat->(List dq0)->ByteArray->dq0->Int->(List Int)->Int->(Option R)->(Bool->Option R)->Option R
  | 0,_,_,_,_,_,_,_,_=>none
  | k + 1,v7,v11,v15,v16,v19,v21,kx0,kr =>
    (if (decide (v21 < (v7.length:Int)))=true then
    (if (bnds v21 (v7.length:Int))=true then
    (i_IsInNamed K ((v7.getD v21.toNat ((0:Int),(0:Int),())),v11,())).bind fun y10 =>
    (if (bnds v21 (v7.length:Int))=true then
    (i_ClassRow K ((v7.getD v21.toNat ((0:Int),(0:Int),())),())).bind fun y11 =>
    (if (!decide (y10.2.1=(0:Int)))=true then
    kr false
    else
    (if (!y10.1)=true then
    kr false
    else
    (if (!decide (y11.2.1=(0:Int)))=true then
    kr false
    else
    w_FnPromiseOfAll_j23 K k v7 v11 v15 v16 v19 v21 y11.1 (fun z21 z22 z23 z24 z25 z26 =>
    w_FnPromiseOfAll_j18 K k z21 z22 z23 z24 z25 z26 (fun z27 z28 z29 z30 z31 z32 =>
    w_FnPromiseOfAll_l17 K k z27 z28 z29 z30 z31 z32 kx0 kr)) (fun z33 =>
    kr z33))))
    else
    none)
    else
    none)
    else
    kx0)
noncomputable def w_FnPromiseOfAll_j13 {R:Type} (K:Nat) (k:Nat) (v0:(List dq0)) (v7:(List dq0)) (v11:ByteArray) (v15:dq0) (v16:Int) (kn:Option R) (kr:(Bool->Option R)):Option R :=
    (i_ClassesOf K (v0,())).bind fun y9 =>
    (if (!decide (y9.2.1=(0:Int)))=true then
    kr false
    else
    w_FnPromiseOfAll_l17 K k v7 v11 v15 v16 y9.1 (0:Int) (kr true) (fun z34 =>
    kr z34))
noncomputable def w_FnPromiseOfAll_j11 {R:Type} (K:Nat) (k:Nat) (v0:(List dq0)) (v7:(List dq0)) (v8:Int) (v11:ByteArray) (v12:Int) (v15:dq0) (v16:Int) (kn:Option R) (kr:(Bool->Option R)):Option R :=
    (if (!decide (v8=(0:Int)))=true then
    kr true
    else
    (if (!decide (v12=(0:Int)))=true then
    kr true
    else
    w_FnPromiseOfAll_j13 K k v0 v7 v11 v15 v16 none (fun z35 =>
    kr z35)))
noncomputable def w_FnPromiseOfAll (K:Nat) (x:((List dq0) × Int × dq0 × Unit)):Option Bool :=
    (if (decide ((x.1.length:Int) > (1000:Int)))=true then
    some true
    else
    (i_GeneratedBy K (x.1,x.2.1,())).bind fun y1 =>
    (s_GeneratedBy K (x.1,x.2.1,())).bind fun y2 =>
    (i_CloneName K (x.1,())).bind fun y3 =>
    (s_CloneName K (x.1,())).bind fun y4 =>
    (i_ClosureOf K (x.1,x.2.2.1,())).bind fun y5 =>
    (s_ClosureOf K (x.1,x.2.2.1,())).bind fun y6 =>
    (if (!decide (y1.2.1=y2.2.1))=true then
    some false
    else
    (w_funcs9 K (y1.1,y2.1,())).bind fun y7 =>
    (if (!y7)=true then
    some false
    else
    (if (!decide (y3.2.1=y4.2.1))=true then
    some false
    else
    (if (cmpS .neq y3.1 y4.1)=true then
    some false
    else
    (if (!decide (y5.2.1=y6.2.1))=true then
    some false
    else
    let x8:=(!(eqD (.pair (.int .i64) (.pair (.int .i64) .unit)) y5.1 y6.1))
    (if x8=true then
    some false
    else
    w_FnPromiseOfAll_j11 K K x.1 y1.1 y1.2.1 y3.1 y3.2.1 y5.1 y5.2.1 none (fun z36 =>
    some z36))))))))
noncomputable def X0_w_FnPromiseOfAll:Lv:=[]
noncomputable def X2_w_FnPromiseOfAll:Lv:=[(7,(.r tq0)),(11,(.v .str)),(15,(.bx (.v tq0))),(16,(.v (.int .i64))),(19,(.r (.int .i64))),(21,(.v (.int .i64)))]
noncomputable def rv_w_FnPromiseOfAll:Lv:=[(6,(.v .bool))]
noncomputable def D_w_FnPromiseOfAll (K:Nat):List (PD (den .bool)):=[.J 11 [(0,(.v (.sl tq0))),(7,(.r tq0)),(8,(.v (.int .i64))),(11,(.v .str)),(12,(.v (.int .i64))),(15,(.bx (.v tq0))),(16,(.v (.int .i64)))] [] 0 (fun k x kn kx kr=>w_FnPromiseOfAll_j11 K k x.1 x.2.1 x.2.2.1 x.2.2.2.1 x.2.2.2.2.1 x.2.2.2.2.2.1 x.2.2.2.2.2.2.1 (kn ()) (fun z0=>kr (mkSt rv_w_FnPromiseOfAll (z0,())))),
  .J 13 [(0,(.v (.sl tq0))),(7,(.r tq0)),(11,(.v .str)),(15,(.bx (.v tq0))),(16,(.v (.int .i64)))] [] 0 (fun k x kn kx kr=>w_FnPromiseOfAll_j13 K k x.1 x.2.1 x.2.2.1 x.2.2.2.1 x.2.2.2.2.1 (kn ()) (fun z0=>kr (mkSt rv_w_FnPromiseOfAll (z0,())))),
  .L 17 [(7,(.r tq0)),(11,(.v .str)),(15,(.bx (.v tq0))),(16,(.v (.int .i64))),(19,(.r (.int .i64))),(21,(.v (.int .i64)))] [] (fun k x kx kr=>w_FnPromiseOfAll_l17 K k x.1 x.2.1 x.2.2.1 x.2.2.2.1 x.2.2.2.2.1 x.2.2.2.2.2.1 (kx 0 (mkSt X0_w_FnPromiseOfAll ())) (fun z0=>kr (mkSt rv_w_FnPromiseOfAll (z0,())))),
  .J 23 [(7,(.r tq0)),(11,(.v .str)),(15,(.bx (.v tq0))),(16,(.v (.int .i64))),(19,(.r (.int .i64))),(21,(.v (.int .i64))),(24,(.r (.int .i64)))] [(7,(.r tq0)),(11,(.v .str)),(15,(.bx (.v tq0))),(16,(.v (.int .i64))),(19,(.r (.int .i64))),(21,(.v (.int .i64)))] 0 (fun k x kn kx kr=>w_FnPromiseOfAll_j23 K k x.1 x.2.1 x.2.2.1 x.2.2.2.1 x.2.2.2.2.1 x.2.2.2.2.2.1 x.2.2.2.2.2.2.1 (fun z0 z1 z2 z3 z4 z5=>kn (z0,z1,z2,z3,z4,z5,())) (fun z0=>kr (mkSt rv_w_FnPromiseOfAll (z0,())))),
  .L 24 [(7,(.r tq0)),(11,(.v .str)),(15,(.bx (.v tq0))),(16,(.v (.int .i64))),(19,(.r (.int .i64))),(21,(.v (.int .i64))),(24,(.r (.int .i64))),(26,(.v (.int .i64)))] [] (fun k x kx kr=>w_FnPromiseOfAll_l24 K k x.1 x.2.1 x.2.2.1 x.2.2.2.1 x.2.2.2.2.1 x.2.2.2.2.2.1 x.2.2.2.2.2.2.1 x.2.2.2.2.2.2.2.1 (fun z0 z1 z2 z3 z4 z5=>kx 2 (mkSt X2_w_FnPromiseOfAll (z0,z1,z2,z3,z4,z5,()))) (fun z0=>kr (mkSt rv_w_FnPromiseOfAll (z0,())))),
  .J 18 [(7,(.r tq0)),(11,(.v .str)),(15,(.bx (.v tq0))),(16,(.v (.int .i64))),(19,(.r (.int .i64))),(21,(.v (.int .i64)))] [(7,(.r tq0)),(11,(.v .str)),(15,(.bx (.v tq0))),(16,(.v (.int .i64))),(19,(.r (.int .i64))),(21,(.v (.int .i64)))] 0 (fun k x kn kx kr=>w_FnPromiseOfAll_j18 K k x.1 x.2.1 x.2.2.1 x.2.2.2.1 x.2.2.2.2.1 x.2.2.2.2.2.1 (fun z0 z1 z2 z3 z4 z5=>kn (z0,z1,z2,z3,z4,z5,())))]
theorem ok_w_FnPromiseOfAll (K:Nat):FnOk Tryz.prog 4 (sp_w_FnPromiseOfAll (w_FnPromiseOfAll K)) :=
  fn_okD tysOk [C_i_GeneratedBy K,C_s_GeneratedBy K,C_i_CloneName K,C_s_CloneName K,C_w_funcs9 K,C_i_ClassesOf K,C_i_ClosureOf K,C_i_IsInNamed K,C_i_KeepsRelation K,C_i_ClassRow K,C_s_ClosureOf K] 0 (D_w_FnPromiseOfAll K) [(0,X0_w_FnPromiseOfAll),(2,X2_w_FnPromiseOfAll)] rv_w_FnPromiseOfAll K Tryz.func4 (by kernel_rfl) ⟨fun _ _ _ _ _=>by kernel_rfl,⟨fun _ _ _ _ _=>by kernel_rfl,⟨⟨fun _ _ _ _=>by kernel_rfl,fun _ _ _=>rfl⟩,⟨fun _ _ _ _ _=>by kernel_rfl,⟨⟨fun _ _ _ _=>by kernel_rfl,fun _ _ _=>rfl⟩,⟨fun _ _ _ _ _=>by kernel_rfl,trivial⟩⟩⟩⟩⟩⟩ (fun _=>by kernel_rfl)
end Go.Proofs.YtmlgfaojfmkdnaaGreatDoor.E
