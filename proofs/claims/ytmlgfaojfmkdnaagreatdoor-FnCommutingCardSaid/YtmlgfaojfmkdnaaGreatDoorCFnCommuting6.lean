/-
  What the Go functions that FnCommuting reaches hand back, each as a plain function with a proof that the call does so, and plain lemmas on them. Conditions: those of each theorem.
-/
import Derived.Test.YtmlgfaojfmkdnaaGreatDoorCFnCommuting5
namespace Go.Proofs.YtmlgfaojfmkdnaaGreatDoor.E
open Go Go.Proofs Go.Proofs.YtmlgfaojfmkdnaaGreatDoor
set_option maxRecDepth 100000
set_option linter.unusedVariables false
noncomputable def as_i_cloneName:Ty:=(.pair (.sl tq0) .unit)
noncomputable def sp_i_cloneName (F:((List dq0) × Unit)->Option ByteArray):FnSpec:=⟨as_i_cloneName,[false],.str,F⟩
noncomputable def i_cloneName_l3 {R:Type} (K:Nat):Nat->(List dq0)->(List Bool)->Int->((List dq0)->(List Bool)->Option R)->Option R
  | 0,_,_,_,_=>none
  | k + 1,v0,v3,v10,kx0 =>
    (if (decide (v10 < (5:Int)))=true then
    (i_allIn K (v0,v10,())).bind fun y1 =>
    (if (bnds v10 (5:Int))=true then
    let a2:=(v3.set v10.toNat y1)
    i_cloneName_l3 K k v0 a2 (IntKind.i64.wrap (v10 + (1:Int))) kx0
    else
    none)
    else
    kx0 v0 v3)
noncomputable def i_cloneName_j20 {R:Type} (K:Nat) (k:Nat) (v0:(List dq0)) (v5:Bool) (v6:Bool) (v7:Bool) (v8:Bool) (v9:Bool) (kn:Bool->Bool->Option R) (kr:(ByteArray->Option R)):Option R :=
    gN K ((if v9=true then
    (i_byConstants K ((⟨#[76]⟩:ByteArray),v5,v6,())).bind fun y17 =>
    kr y17
    else
    (if v7=true then
    (i_choose K (v5,(⟨#[68,49]⟩:ByteArray),(⟨#[68]⟩:ByteArray),())).bind fun y18 =>
    (i_choose K (v8,(⟨#[68,50]⟩:ByteArray),y18,())).bind fun y19 =>
    kr y19
    else
    (i_least K (v0,(0:Int),())).bind fun y20 =>
    (if (decide (y20 ≥ (2:Int)))=true then
    (i_least K (v0,(0:Int),())).bind fun y21 =>
    (i_separatedName K ((⟨#[83,48]⟩:ByteArray),v5,v8,y21,())).bind fun y22 =>
    kr y22
    else
    (i_least K (v0,(1:Int),())).bind fun y23 =>
    (if (decide (y23 ≥ (2:Int)))=true then
    (i_least K (v0,(1:Int),())).bind fun y24 =>
    (i_separatedName K ((⟨#[83,49]⟩:ByteArray),v6,v8,y24,())).bind fun y25 =>
    kr y25
    else
    (if v8=true then
    (i_byConstants K ((⟨#[77]⟩:ByteArray),v5,v6,())).bind fun y26 =>
    kr y26
    else
    kn v5 v6))))))
noncomputable def i_cloneName_j18 {R:Type} (K:Nat) (k:Nat) (v0:(List dq0)) (v5:Bool) (v6:Bool) (v7:Bool) (v8:Bool) (v9:Bool) (kn:Bool->Bool->Option R) (kr:(ByteArray->Option R)):Option R :=
    gN K ((if v9=true then
    (if v7=true then
    kr (⟨#[76,51]⟩:ByteArray)
    else
    i_cloneName_j20 K k v0 v5 v6 v7 v8 v9 (fun z27 z28 =>
    kn z27 z28) (fun z29 =>
    kr z29))
    else
    i_cloneName_j20 K k v0 v5 v6 v7 v8 v9 (fun z30 z31 =>
    kn z30 z31) (fun z32 =>
    kr z32)))
noncomputable def i_cloneName_j10 {R:Type} (K:Nat) (k:Nat) (v0:(List dq0)) (v5:Bool) (v6:Bool) (v7:Bool) (v8:Bool) (v9:Bool) (kn:Bool->Bool->Option R) (kr:(ByteArray->Option R)):Option R :=
    gN K ((i_allAre K (v0,(fun y9=>i_Func_isUnary K (y9.1,())),())).bind fun y8 =>
    (if y8=true then
    (i_choose K (v7,(⟨#[78,50]⟩:ByteArray),(⟨#[78]⟩:ByteArray),())).bind fun y10 =>
    kr y10
    else
    (i_allAre K (v0,(fun y12=>i_Func_isDisjunction K (y12.1,())),())).bind fun y11 =>
    (if y11=true then
    (i_byConstants K ((⟨#[86]⟩:ByteArray),v5,v6,())).bind fun y13 =>
    kr y13
    else
    (i_allAre K (v0,(fun y15=>i_Func_isConjunction K (y15.1,())),())).bind fun y14 =>
    (if y14=true then
    (i_byConstants K ((⟨#[69]⟩:ByteArray),v5,v6,())).bind fun y16 =>
    kr y16
    else
    (if v9=true then
    (if v5=true then
    (if v6=true then
    kr (⟨#[76,50]⟩:ByteArray)
    else
    i_cloneName_j18 K k v0 v5 v6 v7 v8 v9 (fun z33 z34 =>
    kn z33 z34) (fun z35 =>
    kr z35))
    else
    i_cloneName_j18 K k v0 v5 v6 v7 v8 v9 (fun z36 z37 =>
    kn z36 z37) (fun z38 =>
    kr z38))
    else
    i_cloneName_j18 K k v0 v5 v6 v7 v8 v9 (fun z39 z40 =>
    kn z39 z40) (fun z41 =>
    kr z41))))))
noncomputable def i_cloneName_j30 {R:Type} (K:Nat) (k:Nat) (v5:Bool) (v6:Bool) (kn:Option R) (kr:(ByteArray->Option R)):Option R :=
    (if v5=true then
    (i_byConstants K ((⟨#[82]⟩:ByteArray),v5,v6,())).bind fun y44 =>
    (i_choose K (true,y44,(⟨#[66,70]⟩:ByteArray),())).bind fun y45 =>
    kr y45
    else
    (i_byConstants K ((⟨#[82]⟩:ByteArray),v5,v6,())).bind fun y46 =>
    (i_choose K (v6,y46,(⟨#[66,70]⟩:ByteArray),())).bind fun y47 =>
    kr y47)
noncomputable def i_cloneName (K:Nat) (x:((List dq0) × Unit)):Option ByteArray :=
    i_cloneName_l3 K K x.1 (List.replicate 5 false) (0:Int) (fun z3 z4 =>
    (if (bnds (0:Int) (5:Int))=true then
    (if (bnds (1:Int) (5:Int))=true then
    (if (bnds (2:Int) (5:Int))=true then
    (if (bnds (3:Int) (5:Int))=true then
    (if (bnds (4:Int) (5:Int))=true then
    (i_allAre K (z3,(fun y6=>i_Func_isUnary K (y6.1,())),())).bind fun y5 =>
    (if y5=true then
    (if (z4.getD (3:Int).toNat false)=true then
    (i_byConstants K ((⟨#[73]⟩:ByteArray),(z4.getD (0:Int).toNat false),(z4.getD (1:Int).toNat false),())).bind fun y7 =>
    some y7
    else
    i_cloneName_j10 K K z3 (z4.getD (0:Int).toNat false) (z4.getD (1:Int).toNat false) (z4.getD (2:Int).toNat false) (z4.getD (3:Int).toNat false) (z4.getD (4:Int).toNat false) (fun z42 z43 =>
    i_cloneName_j30 K K z42 z43 none (fun z48 =>
    some z48)) (fun z49 =>
    some z49))
    else
    i_cloneName_j10 K K z3 (z4.getD (0:Int).toNat false) (z4.getD (1:Int).toNat false) (z4.getD (2:Int).toNat false) (z4.getD (3:Int).toNat false) (z4.getD (4:Int).toNat false) (fun z50 z51 =>
    i_cloneName_j30 K K z50 z51 none (fun z52 =>
    some z52)) (fun z53 =>
    some z53))
    else
    none)
    else
    none)
    else
    none)
    else
    none)
    else
    none))
noncomputable def X0_i_cloneName:Lv:=[(0,(.v (.sl tq0))),(3,(.bx (.v (.arr 5 .bool))))]
noncomputable def rv_i_cloneName:Lv:=[(2,(.v .str))]
noncomputable def D_i_cloneName (K:Nat):List (PD (den .str)):=[.L 3 [(0,(.v (.sl tq0))),(3,(.bx (.v (.arr 5 .bool)))),(10,(.v (.int .i64)))] [] (fun k x kx kr=>i_cloneName_l3 K k x.1 x.2.1 x.2.2.1 (fun z0 z1=>kx 0 (mkSt X0_i_cloneName (z0,z1,())))),
  .J 10 [(0,(.v (.sl tq0))),(5,(.v .bool)),(6,(.v .bool)),(7,(.v .bool)),(8,(.v .bool)),(9,(.v .bool))] [(5,(.v .bool)),(6,(.v .bool))] K (fun k x kn kx kr=>i_cloneName_j10 K k x.1 x.2.1 x.2.2.1 x.2.2.2.1 x.2.2.2.2.1 x.2.2.2.2.2.1 (fun z0 z1=>kn (z0,z1,())) (fun z0=>kr (mkSt rv_i_cloneName (z0,())))),
  .J 18 [(0,(.v (.sl tq0))),(5,(.v .bool)),(6,(.v .bool)),(7,(.v .bool)),(8,(.v .bool)),(9,(.v .bool))] [(5,(.v .bool)),(6,(.v .bool))] K (fun k x kn kx kr=>i_cloneName_j18 K k x.1 x.2.1 x.2.2.1 x.2.2.2.1 x.2.2.2.2.1 x.2.2.2.2.2.1 (fun z0 z1=>kn (z0,z1,())) (fun z0=>kr (mkSt rv_i_cloneName (z0,())))),
  .J 20 [(0,(.v (.sl tq0))),(5,(.v .bool)),(6,(.v .bool)),(7,(.v .bool)),(8,(.v .bool)),(9,(.v .bool))] [(5,(.v .bool)),(6,(.v .bool))] K (fun k x kn kx kr=>i_cloneName_j20 K k x.1 x.2.1 x.2.2.1 x.2.2.2.1 x.2.2.2.2.1 x.2.2.2.2.2.1 (fun z0 z1=>kn (z0,z1,())) (fun z0=>kr (mkSt rv_i_cloneName (z0,())))),
  .J 30 [(5,(.v .bool)),(6,(.v .bool))] [] 0 (fun k x kn kx kr=>i_cloneName_j30 K k x.1 x.2.1 (kn ()) (fun z0=>kr (mkSt rv_i_cloneName (z0,()))))]
theorem ok_i_cloneName (K:Nat):FnOk Tryz.prog 41 (sp_i_cloneName (i_cloneName K)) :=
  fn_okD tysOk [C_i_allAre K,C_i_allIn K,C_i_Func_isUnary K,C_i_byConstants K,C_i_choose K,C_i_Func_isDisjunction K,C_i_Func_isConjunction K,C_i_least K,C_i_separatedName K] 0 (D_i_cloneName K) [(0,X0_i_cloneName)] rv_i_cloneName K Tryz.func41 (by kernel_rfl) ⟨⟨fun _ _ _ _=>by kernel_rfl,fun _ _ _=>rfl⟩,⟨fun _ _ _ _ _=>by kernel_rfl,⟨fun _ _ _ _ _=>by kernel_rfl,⟨fun _ _ _ _ _=>by kernel_rfl,⟨fun _ _ _ _ _=>by kernel_rfl,trivial⟩⟩⟩⟩⟩ (fun _=>by kernel_rfl)
noncomputable def C_i_cloneName (K:Nat):CB Tryz.prog:=.f _ _ (ok_i_cloneName K)
noncomputable def as_i_CloneName:Ty:=(.pair (.sl tq0) .unit)
noncomputable def sp_i_CloneName (F:((List dq0) × Unit)->Option (ByteArray × Int × Unit)):FnSpec:=⟨as_i_CloneName,[false],(.tup (.pair .str (.pair (.int .i64) .unit))),F⟩
noncomputable def i_CloneName (K:Nat) (x:((List dq0) × Unit)):Option (ByteArray × Int × Unit) :=
    (i_listCode K (x.1,())).bind fun y1 =>
    (if (!decide (y1=(0:Int)))=true then
    some ((⟨#[]⟩:ByteArray),y1,())
    else
    (i_cloneName K (x.1,())).bind fun y2 =>
    some (y2,(0:Int),()))
noncomputable def rv_i_CloneName:Lv:=[(2,(.v .str)),(3,(.v (.int .i64)))]
theorem ok_i_CloneName (K:Nat):FnOk Tryz.prog 11 (sp_i_CloneName (i_CloneName K)) :=
  fn_okD tysOk [C_i_listCode K,C_i_cloneName K] 0 [] [] rv_i_CloneName K Tryz.func11 (by kernel_rfl) trivial (fun _=>by kernel_rfl)
noncomputable def C_i_CloneName (K:Nat):CB Tryz.prog:=.f _ _ (ok_i_CloneName K)
noncomputable def as_i_separated:Ty:=.unit
noncomputable def sp_i_separated (F:Unit->Option (List ByteArray)):FnSpec:=⟨as_i_separated,[],(.sl .str),F⟩
noncomputable def i_separated (K:Nat) (x:Unit):Option (List ByteArray) :=
    let l1:=[(⟨#[83,48]⟩:ByteArray),(⟨#[83,48,48]⟩:ByteArray),(⟨#[83,48,49]⟩:ByteArray),(⟨#[83,48,50]⟩:ByteArray),(⟨#[83,49]⟩:ByteArray),(⟨#[83,49,48]⟩:ByteArray),(⟨#[83,49,49]⟩:ByteArray),(⟨#[83,49,50]⟩:ByteArray)]
    some l1
noncomputable def rv_i_separated:Lv:=[(0,(.r .str))]
theorem ok_i_separated (K:Nat):FnOk Tryz.prog 176 (sp_i_separated (i_separated K)) :=
  fn_okD tysOk [] 0 [] [] rv_i_separated K Tryz.func176 (by kernel_rfl) trivial (fun _=>by kernel_rfl)
end Go.Proofs.YtmlgfaojfmkdnaaGreatDoor.E
namespace Go.Proofs.YtmlgfaojfmkdnaaGreatDoor.E
open Go Go.Proofs Go.Proofs.YtmlgfaojfmkdnaaGreatDoor Go.RowKit Go.Maps
set_option maxRecDepth 100000
set_option maxHeartbeats 4000000
set_option linter.unusedVariables false
/-! the table of names: a map that is filled once -/
/-- A map that is filled, behind a world. -/
def MapSt (P:Program) (k e:TypeId) (w0:World) (b n:Nat) (D:DataW Nat) (w:World):Prop:=w.ownsMap P k (plainElem P e) b n D/\w0.heap.size<=b/\Below w0.heap.size w0 w
theorem wpList_insert {P:Program} (w0:World) {w:World} {ops:Array Oper} {rest:List Oper} {o:Oper} {a:Act} {Q:Exit->Act->World->Prop} (k e t:TypeId) (K:Keyed P k) (ht:P.underlying t=some (.map k e)) (hk:P.underlying k=some .string) (he:P.underlying e=some .string)
    (b n:Nat) (D:DataW Nat) (hw:MapSt P k e w0 b n D w) {m:Operand} (x v:ByteArray) (hg:o.guard=none) (hop:o.op=Op.insert t m (.const (.string x)) (.const (.string v))) (hm:a.eval m=.map (some b)) (hx:x.size<=maxLen) (hv:v.size<=maxLen) (hn:n < maxLen)
    (hK:∀ w',MapSt P k e w0 b (n + 1) (D.put (.string x.data.toList) (.lit (.string v.data.toList))) w'->wpList P ops Q rest (a.put o.dst undef) w'):wpList P ops Q (o :: rest) a w:=by
  refine wpList_plain hg fun K' hK'=>?_
  have hkey:keyOf P k (.string x)=some (.string x.data.toList):=by
    simp [keyOf,mapKey,hk]
    exact hx
  obtain ⟨w',hrun,r1,r2⟩:=hw.1.update K ht hn hkey (plainElem_string he hv)
  unfold Oper.wp
  simp only [execOp,hop]
  rw [hm,show a.eval (.const (.string x))=.string x from rfl,show a.eval (.const (.string v))=.string v from rfl]
  simp [hrun,Result.andThen]
  exact hK' _ _ (hK w' ⟨r1,hw.2.1,hw.2.2.grown r2 hw.2.2.size (fun j hj=>by cases hj;exact hw.2.1)⟩)
theorem lawS:Keyed Tryz.prog 9:=string_keyed Tryz.underlying9
def tabE:List (List UInt8 × List UInt8):=[([66,70],[50,58,48,48,48,49,32,49,58,49,48]),([82,48],[50,58,48,48,48,49,32,50,58,48,49,49,48]),([82,49],[50,58,48,49,49,49,32,50,58,49,48,48,49]),([82,50],[50,58,48,49,49,49,32,51,58,48,49,48,48,48,48,48,49]),([77,50],[50,58,48,49,49,49,32,50,58,48,48,48,49]),([77,48],[50,58,48,49,49,49,32,50,58,48,48,48,49,32,48,58,48]),([77,49],[50,58,48,49,49,49,32,50,58,48,48,48,49,32,48,58,49]),([77],[50,58,48,49,49,49,32,50,58,48,48,48,49,32,48,58,48,32,48,58,49]),([86,50],[50,58,48,49,49,49]),([86,48],[50,58,48,49,49,49,32,48,58,48]),([86,49],[50,58,48,49,49,49,32,48,58,49]),([86],[50,58,48,49,49,49,32,48,58,48,32,48,58,49]),([69,50],[50,58,48,48,48,49]),([69,48],[50,58,48,48,48,49,32,48,58,48]),([69,49],[50,58,48,48,48,49,32,48,58,49]),([69],[50,58,48,48,48,49,32,48,58,48,32,48,58,49]),([73,50],[49,58,48,49]),([73,48],[49,58,48,49,32,48,58,48]),([73,49],[49,58,48,49,32,48,58,49]),([73],[49,58,48,49,32,48,58,48,32,48,58,49]),([78],[49,58,49,48,32,48,58,49]),([78,50],[49,58,49,48]),([68],[51,58,49,49,48,49,48,49,48,48]),([68,49],[51,58,48,49,49,49,48,48,48,49]),([68,50],[51,58,48,48,48,49,48,49,49,49]),([76],[50,58,48,49,49,48,32,48,58,49]),([76,48],[50,58,48,49,49,48]),([76,49],[50,58,49,48,48,49]),([76,50],[51,58,48,49,49,48,49,48,48,49]),([76,51],[51,58,49,48,48,49,48,49,49,48]),([83,48],[50,58,49,48,49,49]),([83,48,48],[51,58,48,49,48,49,48,49,49,49]),([83,48,49],[51,58,48,49,48,49,48,49,49,49,32,48,58,49]),([83,48,50],[51,58,48,49,49,49,48,49,48,49]),([83,49],[50,58,48,49,48,48]),([83,49,48],[51,58,48,48,48,49,48,49,48,49]),([83,49,49],[51,58,48,48,48,49,48,49,48,49,32,48,58,48]),([83,49,50],[51,58,48,49,48,49,48,48,48,49])]
def tabF (l:List (List UInt8 × List UInt8)):DataW Nat:=l.foldl (fun D p=>D.put (.string p.1) (.lit (.string p.2))) (.map [])
/-- What such a map answers. -/
def tabL (l:List (List UInt8 × List UInt8)) (k:List UInt8):List UInt8:=l.foldl (fun v p=>if k=p.1 then p.2 else v) []
noncomputable def tableG (s:ByteArray):ByteArray:=⟨(tabL tabE s.data.toList).toArray⟩
theorem isKey_str (x:List UInt8):WideAt.IsKeyLit (.string x):=trivial
theorem tab_at:∀ (l:List (List UInt8 × List UInt8)) (D:DataW Nat) (k v:List UInt8),IsMap D->D.atKey (.string k) (.lit (.string []))=.lit (.string v) →
    (l.foldl (fun D p=>D.put (.string p.1) (.lit (.string p.2))) D).atKey (.string k) (.lit (.string []))=.lit (.string (l.foldl (fun v p=>if k=p.1 then p.2 else v) v))
  | [],_,_,_,_,h=>h
  | p :: l,D,k,v,hm,h=>by
    rw [List.foldl_cons,List.foldl_cons]
    refine tab_at l _ k _ (hm.put _ _) ?_
    by_cases e:k=p.1
    · subst e;rw [if_pos rfl,atKey_put_same hm (isKey_str _)]
    · rw [if_neg e,atKey_put_other (fun h=>e (by injection h)),h]
theorem table_calls (w:World):Calls Tryz.prog 119 #[] w fun e w'=>e=.returned (.map (some w.heap.size))/\MapSt Tryz.prog 9 9 w w.heap.size 38 (tabF tabE) w':=by
  have hmm:∀ (t:TypeId) (w:World),(Instr.makeMap t none).run Tryz.prog w=_:=@run_makeMap Tryz.prog
  have h0:MapSt Tryz.prog 9 9 w w.heap.size 0 (.map []) (w.alloc (.map #[] 0)):=⟨World.ownsMap_made _ _ _ _,Nat.le_refl _,(Below.refl _ _).alloc (Nat.le_refl _) _⟩
  go_enter Tryz.func119,Tryz.ntmps119
  go_wp2_with (first
    | (refine wpList_insert w 9 9 127 lawS Tryz.underlying127 Tryz.underlying9 Tryz.underlying9 _ _ _ (by assumption) _ _ rfl rfl rfl (by decide) (by decide) (by decide) ?_;intro w1 h1;go_frame)
    | go_in)
  go_ret
  exact ⟨rfl,h1⟩
theorem zeroS (w:World):(zeroValue 9).run Tryz.prog w=.ok (.string ⟨#[]⟩) w:=Tryz.zeroValue9 w
theorem table_ok:MpOk Tryz.prog 119 127 tableG:=fun w=>by
  refine cf_of_calls Tryz.func119 (c:=bodyOf Tryz.f119) (by kernel_rfl) (by kernel_rfl) ((table_calls w).mono ?_)
  rintro e w' ⟨rfl,h1,h2,h3⟩
  refine ⟨_,rfl,h3,_,rfl,Nat.le_refl _,h1.lt,fun w2 hw2 s hs=>?_⟩
  have h4:w2.ownsMap Tryz.prog 9 (plainElem Tryz.prog 9) w.heap.size 38 (tabF tabE):=by
    obtain ⟨es,clock,h5,h6⟩:=h1
    exact ⟨es,clock,hw2.trans h5,h6⟩
  have hkey:keyOf Tryz.prog 9 (.string s)=some (.string s.data.toList):=by
    simp [keyOf,mapKey,Tryz.underlying9]
    exact hs
  obtain ⟨v,ps,hrun,hv⟩:=h4.lookup lawS Tryz.underlying127 (zeroS w2) (plainElem_string Tryz.underlying9 (by decide)) hkey
  obtain ⟨t,rfl,ht,_⟩:=plainElem_string_inv Tryz.underlying9 hv
  rw [hrun]
  have h7:=tab_at tabE (.map []) s.data.toList [] isMap_empty (by simp [DataW.atKey])
  have h8:(tabF tabE).atKey (.string s.data.toList) (.lit (.string []))=.lit (.string (tabL tabE s.data.toList)):=h7
  have ht:=(Prod.mk.inj ht).1
  have h9:(Lit.string (tabL tabE s.data.toList))=.string t.data.toList:=by
    have:(DataW.lit (Lit.string (tabL tabE s.data.toList)):DataW Nat)=.lit (.string t.data.toList):=h8.symm.trans ht
    injection this
  injection h9 with h9
  have:t=tableG s:=by
    cases t with
    | mk d=>unfold tableG;rw [h9]
  rw [this]
end Go.Proofs.YtmlgfaojfmkdnaaGreatDoor.E
namespace Go.Proofs.YtmlgfaojfmkdnaaGreatDoor.E
open Go Go.Proofs Go.Proofs.YtmlgfaojfmkdnaaGreatDoor Go.RowKit Go.Maps Go.Sort
set_option maxRecDepth 100000
set_option maxHeartbeats 1000000
set_option linter.unusedVariables false
/-! the library's sort in this program -/
def sortRen:Go.Shelf.Ren:=⟨fun | 125=>194 | 128=>212 | 129=>213 | 190=>177 | 258=>193 | 302=>203 | 303=>204 | 304=>205 | 305=>206 | 306=>207 | 307=>208 | 308=>209 | 309=>210 | 310=>211 | 329=>226 | 330=>227 | 333=>225 | 334=>228 | 335=>229 | 336=>230 | 344=>236 | n=>n,fun | 0=>0 | 3=>3 | 4=>4 | 5=>5 | 9=>9 | 31=>122 | 46=>61 | 51=>164 | 53=>26 | 131=>186 | 182=>180 | 183=>181 | 218=>198 | 222=>202 | 228=>206 | 229=>207 | n=>n,fun | n=>n⟩
theorem sortLays:Go.Proofs.Lays.n190 Tryz.prog sortRen:={
  mixed:=by kernel_rfl
  f125:=Tryz.func194.trans (congrArg some (by kernel_rfl))
  f128:=Tryz.func212.trans (congrArg some (by kernel_rfl))
  f129:=Tryz.func213.trans (congrArg some (by kernel_rfl))
  f190:=Tryz.func177.trans (congrArg some (by kernel_rfl))
  f258:=Tryz.func193.trans (congrArg some (by kernel_rfl))
  f302:=Tryz.func203.trans (congrArg some (by kernel_rfl))
  f303:=Tryz.func204.trans (congrArg some (by kernel_rfl))
  f304:=Tryz.func205.trans (congrArg some (by kernel_rfl))
  f305:=Tryz.func206.trans (congrArg some (by kernel_rfl))
  f306:=Tryz.func207.trans (congrArg some (by kernel_rfl))
  f307:=Tryz.func208.trans (congrArg some (by kernel_rfl))
  f308:=Tryz.func209.trans (congrArg some (by kernel_rfl))
  f309:=Tryz.func210.trans (congrArg some (by kernel_rfl))
  f310:=Tryz.func211.trans (congrArg some (by kernel_rfl))
  f329:=Tryz.func226.trans (congrArg some (by kernel_rfl))
  f330:=Tryz.func227.trans (congrArg some (by kernel_rfl))
  f333:=Tryz.func225.trans (congrArg some (by kernel_rfl))
  f334:=Tryz.func228.trans (congrArg some (by kernel_rfl))
  f335:=Tryz.func229.trans (congrArg some (by kernel_rfl))
  f336:=Tryz.func230.trans (congrArg some (by kernel_rfl))
  f344:=Tryz.func236.trans (congrArg some (by kernel_rfl))
  t0:=Tryz.underlying0
  a0:=Tryz.isAgg0
  z0:=Tryz.sizeOf0
  v0:=Tryz.zeroValue0
  t3:=Tryz.underlying3
  a3:=Tryz.isAgg3
  z3:=Tryz.sizeOf3
  v3:=Tryz.zeroValue3
  t4:=Tryz.underlying4
  a4:=Tryz.isAgg4
  z4:=Tryz.sizeOf4
  v4:=Tryz.zeroValue4
  t5:=Tryz.underlying5
  a5:=Tryz.isAgg5
  z5:=Tryz.sizeOf5
  v5:=Tryz.zeroValue5
  t9:=Tryz.underlying9
  a9:=Tryz.isAgg9
  z9:=Tryz.sizeOf9
  v9:=Tryz.zeroValue9
  t31:=Tryz.underlying122
  a31:=Tryz.isAgg122
  z31:=Tryz.sizeOf122
  v31:=Tryz.zeroValue122
  t46:=Tryz.underlying61
  a46:=Tryz.isAgg61
  z46:=Tryz.sizeOf61
  v46:=Tryz.zeroValue61
  t51:=Tryz.underlying164
  a51:=Tryz.isAgg164
  z51:=Tryz.sizeOf164
  v51:=Tryz.zeroValue164
  t53:=Tryz.underlying26
  a53:=Tryz.isAgg26
  z53:=Tryz.sizeOf26
  v53:=Tryz.zeroValue26
  t131:=Tryz.underlying186
  a131:=Tryz.isAgg186
  z131:=Tryz.sizeOf186
  v131:=Tryz.zeroValue186
  t182:=Tryz.underlying180
  a182:=Tryz.isAgg180
  z182:=Tryz.sizeOf180
  v182:=Tryz.zeroValue180
  t183:=Tryz.underlying181
  a183:=Tryz.isAgg181
  z183:=Tryz.sizeOf181
  v183:=Tryz.zeroValue181
  t218:=Tryz.underlying198
  a218:=Tryz.isAgg198
  z218:=Tryz.sizeOf198
  v218:=Tryz.zeroValue198
  t222:=Tryz.underlying202
  a222:=Tryz.isAgg202
  z222:=Tryz.sizeOf202
  v222:=Tryz.zeroValue202
  t228:=Tryz.underlying206
  a228:=Tryz.isAgg206
  z228:=Tryz.sizeOf206
  v228:=Tryz.zeroValue206
  t229:=Tryz.underlying207
  a229:=Tryz.isAgg207
  z229:=Tryz.sizeOf207
  v229:=Tryz.zeroValue207 }
def keysT:List (List UInt8):=[[66,70],[68],[68,49],[68,50],[69],[69,48],[69,49],[69,50],[73],[73,48],[73,49],[73,50],[76],[76,48],[76,49],[76,50],[76,51],[77],[77,48],[77,49],[77,50],[78],[78,50],[82,48],[82,49],[82,50],[83,48],[83,48,48],[83,48,49],[83,48,50],[83,49],[83,49,48],[83,49,49],[83,49,50],[86],[86,48],[86,49],[86,50]]
theorem tab_keys:strKeys (tabF tabE)=keysT/\Maps.size (tabF tabE)=38:=by decide +kernel
theorem table_calls2 (w:World):Calls Tryz.prog 119 #[] w fun e w'=>e=.returned (.map (some w.heap.size))/\∃ D:DataW Nat,w'.ownsMap Tryz.prog 9 (plainElem Tryz.prog 9) w.heap.size 38 D/\Below w.heap.size w w'/\strKeys D=keysT/\Maps.size D=38 :=
  (table_calls w).mono fun e w' ⟨h1,h2,h3,h4⟩=>⟨h1,_,h2,h4,tab_keys.1,tab_keys.2⟩
/-! the separating names -/
def sepsT:List (List UInt8):=[[83,48],[83,48,48],[83,48,49],[83,48,50],[83,49],[83,49,48],[83,49,49],[83,49,50]]
def SepW (w:World) (v:Value) (w':World):Prop:=∃ b o c arr t,v=.slice (some ⟨b,o,none⟩) 8 c/\w'.heap[b]?=some (.cells arr t (0,0))/\(∀ j,j < 8->arr[o + j]?=some (encStr (sepsT.getD j [])))/\w.heap.size<=b/\Below w.heap.size w w'
theorem sep_calls (w:World):Calls Tryz.prog 176 #[] w fun e w'=>∃ v,e=.returned v/\SepW w v w':=by
  have h:=((ok_i_separated 0).plain (by rfl) w [] () _ rfl rfl).calls (c:=bodyOf Tryz.f176) Tryz.func176 (by kernel_rfl) (by kernel_rfl)
  refine h.mono ?_
  rintro e w' ⟨v,rfl,bs,hv,hn,hb,hbel⟩
  refine ⟨v,rfl,?_⟩
  obtain ⟨cs,hv,hT⟩:=hv
  rcases hT with ⟨_,h0,_⟩ | ⟨b,o,n,c,arr,ty,bss,h1,h2,h3,h4,h5,h6,h7,h8⟩
  · cases h0
  have h3:n=8:=h3
  subst h3
  have hs:v=.slice (some ⟨b,o,none⟩) 8 c:=by rw [h1] at hv;exact (List.cons.inj hv).1
  refine ⟨b,o,c,arr,ty,hs,h4,fun j hj=>?_,(hb b (by rw [h2];simp)).1,hbel⟩
  have hl:=h7
  have hy:∃ y,(([(⟨#[83,48]⟩:ByteArray),(⟨#[83,48,48]⟩:ByteArray),(⟨#[83,48,49]⟩:ByteArray),(⟨#[83,48,50]⟩:ByteArray),(⟨#[83,49]⟩:ByteArray),(⟨#[83,49,48]⟩:ByteArray),(⟨#[83,49,49]⟩:ByteArray),(⟨#[83,49,50]⟩:ByteArray)]:List ByteArray))[j]?=some y/\encStr (sepsT.getD j [])=.string y:=by
    have:j=0\/j=1\/j=2\/j=3\/j=4\/j=5\/j=6\/j=7:=by omega
    rcases this with rfl | rfl | rfl | rfl | rfl | rfl | rfl | rfl <;> exact ⟨_,rfl,rfl⟩
  obtain ⟨y,hy,he⟩:=hy
  have hbi:bss[j]?=some bss[j]:=List.getElem?_eq_getElem (by omega)
  obtain ⟨hc,_⟩:=h8 j y _ hy hbi
  have hj2:o + j * 1 < arr.size:=by
    have:(j + 1) * 1<=c * 1:=Nat.mul_le_mul_right _ (by omega)
    have hsz:(Ty.str).sz=1:=rfl
    rw [hsz] at h6;omega
  have hsz:(Ty.str).sz=1:=rfl
  rw [hsz,Nat.mul_one] at hc
  have hseg:seg arr.toList (o + j) 1=[arr[o + j]'(by omega)]:=seg_one (by rw [Array.getElem?_toList];exact Array.getElem?_eq_getElem _)
  rw [hseg] at hc
  have hc:arr[o + j]'(by omega)=.string y:=by simpa using hc
  rw [Array.getElem?_eq_getElem (by omega),hc,he]
end Go.Proofs.YtmlgfaojfmkdnaaGreatDoor.E
namespace Go.Proofs.YtmlgfaojfmkdnaaGreatDoor.E
open Go Go.Proofs Go.Proofs.YtmlgfaojfmkdnaaGreatDoor Go.RowKit Go.Maps Go.Sort
set_option maxRecDepth 100000
set_option maxHeartbeats 8000000
set_option linter.unusedVariables false
theorem info9s:(Tryz.prog.info? 9).map (fun i=>(i.zero,i.size,i.bytes))=some (some (.string ⟨#[]⟩),1,16):=by kernel_rfl
def moreT:List (List UInt8):=[[83,48,94,50],[83,48,94,51],[83,48,48,94,50],[83,48,48,94,51],[83,48,49,94,50],[83,48,49,94,51],[83,48,50,94,50],[83,48,50,94,51],[83,49,94,50],[83,49,94,51],[83,49,48,94,50],[83,49,48,94,51],[83,49,49,94,50],[83,49,49,94,51],[83,49,50,94,50],[83,49,50,94,51]]
theorem sep_len (k:Nat):(⟨(sepsT.getD k []).toArray⟩:ByteArray).size<=3:=by
  by_cases h:k < 8
  · have:k=0\/k=1\/k=2\/k=3\/k=4\/k=5\/k=6\/k=7:=by omega
    rcases this with rfl | rfl | rfl | rfl | rfl | rfl | rfl | rfl <;> decide
  · have:sepsT.getD k []=[]:=by rw [List.getD_eq_getElem?_getD,List.getElem?_eq_none (by simp [sepsT];omega)];rfl
    rw [this];decide
theorem cells_new (w:World) (l:List Value) (t:TypeId):∀ j u,l[j]?=some u->(w.alloc (.cells l.toArray t)).cell? ((⟨w.heap.size,0,none⟩:Addr).add j)=some u:=fun j u h=>by
  rw [show (⟨w.heap.size,0,none⟩:Addr).add j=⟨w.heap.size,0 + j,none⟩ from Addr.add_lit ..,cellAt (arr:=l.toArray) (t:=t) (fz:=(0,0)) (by rw [alloc_get,if_pos rfl]),Nat.zero_add]
  simpa using h
theorem two_one (x y:ByteArray):∀ u ∈ [Value.string x,Value.string y],u.oneCell'=true:=fun u hu=>by
  simp only [List.mem_cons,List.not_mem_nil,or_false] at hu
  rcases hu with rfl | rfl <;> rfl
theorem more_step:∀ k,k < 8->(moreT.take (2 * k)).map encStr ++ [.string ((⟨(sepsT.getD k []).toArray⟩:ByteArray) ++ ⟨#[94,50]⟩),.string ((⟨(sepsT.getD k []).toArray⟩:ByteArray) ++ ⟨#[94,51]⟩)]=(moreT.take (2 * (k + 1))).map encStr
  | 0,_=>by kernel_rfl
  | 1,_=>by kernel_rfl
  | 2,_=>by kernel_rfl
  | 3,_=>by kernel_rfl
  | 4,_=>by kernel_rfl
  | 5,_=>by kernel_rfl
  | 6,_=>by kernel_rfl
  | 7,_=>by kernel_rfl
  | n + 8,h=>absurd h (by omega)
def NamesW (w:World) (v:Value) (w':World):Prop:=∃ g cap n,v=.slice (some ⟨g,0,none⟩) n cap/\w'.ownsRow w.heap.size 9 1 v n (((keysT ++ moreT).mergeSort leB).map encStr)/\Below w.heap.size w w'
theorem cn_test (w:World):Calls Tryz.prog 116 #[] w fun e w'=>∃ v,e=.returned v/\NamesW w v w':=by
  obtain ⟨i0,hi,hz0,hz1,hz2⟩:=info_parts info9s
  go_enter Tryz.func116,Tryz.ntmps116
  go_wp2_with (first
    | (go_at_call 119;refine (table_calls2 _).mono ?_;rintro e w1 ⟨rfl,D,hown,hb1,hD,hsz⟩)
    | (at_range;refine wpList_range_own _ rfl _ 127 rfl 9 9 lawS Tryz.underlying127 _ _ 38 _ rfl (by assumption) ?_;intro w0 hrg0 hg0 hs0)
    | go_in)
  go_frame
  have hmb:w.heap.size < w1.heap.size:=hown.lt
  go_loopw [1] (fun v wr=>∃ (left:Lit->Bool) (cnt:Nat) (ss:List (List UInt8)),wr.ranges Tryz.prog 9 (plainElem Tryz.prog 9) w.heap.size w1.heap.size 38 D left cnt/\ss.length + cnt<=38 ∧
      wr.ownsRow w1.heap.size 9 1 v ss.length (ss.map encStr)/\Collected D left ss/\Below w.heap.size w wr/\w1.heap.size + 1<=wr.heap.size)
    (fun _ wr=>wr.rangeLeft w.heap.size w1.heap.size)
  case atStart =>
    exact ⟨_,_,[],hrg0,by simp [hsz],World.ownsRow_nil _ _ _ _,Collected.start D,hb1.grown hg0 hb1.size (fun j hj=>by cases hj),by omega⟩
  case round =>
    obtain ⟨left,cnt,ss,hrg,hcs,hrow,hC,hnx,hws⟩:=hrel
    go_wp2_with (first
      | (at_next;refine wpList_next_ranges _ rfl _ rfl 9 lawS (plainElem Tryz.prog 9) encStr encStr (fun key kl hk=>by obtain ⟨x,hx,_⟩:=Maps.keyOf_str Tryz.underlying9 hk;exact ⟨x,hx⟩) (fun v y hv=>by obtain ⟨c,rfl,_⟩:=plainElem_string_inv Tryz.underlying9 hv;exact ⟨c.data.toList,rfl⟩) w.heap.size w1.heap.size 38 _ _ _ rfl hrg ?_ ?_)
      | go_in)
    · intro hc0 hl0
      have hp:ss.Perm keysT:=hD ▸ hC.perm hown lawS Tryz.underlying9 hl0
      have hl:ss.length=38:=hp.length_eq
      go_wp2_with (first
        | (go_at_call 176;refine (sep_calls _).mono ?_;rintro e w2 ⟨_,rfl,b,o,c,arr,t,rfl,hb,hel,hge,hb2⟩)
        | go_in)
      have hwb:wr.heap.size<=w2.heap.size:=hb2.size
      have hblt:b < w2.heap.size:=(Array.getElem?_eq_some_iff.1 hb).1
      go_loopw [1,17] (fun v t17 wr2=>∃ k:Nat,k<=8/\t17=.int .i64 k/\wr2.ownsRow w1.heap.size 9 1 v (38 + 2 * k) ((ss ++ moreT.take (2 * k)).map encStr)/\wr2.heap[b]?=some (.cells arr t (0,0))/\v.ownBlock ≠ some b/\Below w.heap.size w wr2/\w2.heap.size<=wr2.heap.size)
        (fun _ t17 _=>8 - (intOf t17).toNat)
      case atStart =>
        have hgb:World.grownBy _ w2 none:=⟨hb2.os,hb2.tape,hb2.output,hb2.size,fun k hk _=>hb2.block k hk⟩
        refine ⟨0,by omega,rfl,?_,hb,?_,?_,Nat.le_refl _⟩
        · have h:=hrow.kept hgb (by cases hv:(Value.ownBlock _) <;> simp)
          rw [hl] at h
          simpa using h
        · intro e
          have:=(hrow.lt b e).2
          omega
        · exact hnx.grown hgb (by have:=hnx.size;omega) (fun j hj=>by cases hj)
      case round =>
        obtain ⟨k,hk,rfl,hrow2,hbb,hvb,hnx2,hsz2⟩:=hrel
        obtain ⟨S,hS,hS3,hSd⟩:∃ S:ByteArray,encStr (sepsT.getD k [])=.string S/\S.size<=3/\S=⟨(sepsT.getD k []).toArray⟩:=⟨⟨(sepsT.getD k []).toArray⟩,rfl,sep_len k,rfl⟩
        have hcx:(k:Int) < 8->wr.cell? ⟨b,o + k,none⟩=some (.string S):=fun hk8=>by
          rw [cellAt hbb,<-hS];exact hel k (by omega)
        have A1:Aside (wr.heap[b]?=some (.cells arr t (0,0))):=hbb
        have A2:Aside (∀ j,j < 8->arr[o + j]?=some (encStr (sepsT.getD j []))):=hel
        clear hbb hb hel hS
        by_cases h8:k=8
        · subst h8
          clear hSd
          obtain ⟨T,hT⟩:∃ T,T=ss ++ moreT:=⟨_,rfl⟩
          have hmt:moreT.take (2 * 8)=moreT:=rfl
          have hlen:T.length=54:=by rw [hT,List.length_append,hl];rfl
          have hperm:T.Perm (keysT ++ moreT):=hT ▸ hp.append_right moreT
          rw [hmt,<-hT,show 38 + 2 * 8=T.length from hlen.symm] at hrow2
          clear hmt hT hcx hS3 A1 A2
          rcases hrow2.2 with ⟨_,hn0⟩ | ⟨g,cap,cur,rfl,hbase,hbk,h1,h2,h3,h4⟩
          · omega
          have hH:Holds encStr wr g 0 T.toArray:=holds_of_block hbk (by simpa using h4)
          have hgl:g < wr.heap.size:=(Array.getElem?_eq_some_iff.1 hbk).1
          have hc:=Any.slices_Sort_string sortLays g 0 cap T wr hH hgl (by rw [hlen];decide)
          have A3:Aside (wr.heap[g]?=some (.cells cur 9 (0,0))):=hbk
          clear hbk
          rw [hlen] at hc
          have hc:Calls Tryz.prog 177 #[.slice (some ⟨g,0,none⟩) 54 cap] wr _:=hc
          go_wp2_with (go_at_call 177;refine hc.mono ?_;rintro e w' ⟨rfl,nn,os,rfl⟩)
          go_ret
          refine ⟨_,rfl,g,cap,54,rfl,?_,hnx2.grown (grownBy_sorted _) hnx2.size (fun j hj=>by cases hj;omega)⟩
          have e1:T.mergeSort leB=(keysT ++ moreT).mergeSort leB:=mergeSort_of_perm hperm
          have h9:=ownsRow_sorted (n:=nn) (os:=os) (ss:=T) (ts:=T.mergeSort leB) (base:=w.heap.size) (by simp) (by omega) A3 h1 h2 h3
          rw [hlen] at h9
          show World.ownsRow _ _ _ _ _ _ (((keysT ++ moreT).mergeSort leB).map encStr)
          rw [<-e1]
          exact h9
        · have hk8:k < 8:=by omega
          have hcx:=hcx (by omega)
          obtain ⟨T,hT⟩:∃ T,T=ss ++ moreT.take (2 * k):=⟨_,rfl⟩
          obtain ⟨N,hN⟩:∃ N,N=38 + 2 * k:=⟨_,rfl⟩
          have hN2:N<=52:=by omega
          rw [<-hT,<-hN] at hrow2
          have A6:Aside (List.map encStr T ++ [.string (S ++ ⟨#[94,50]⟩),.string (S ++ ⟨#[94,51]⟩)]=List.map encStr (ss ++ moreT.take (2 * (k + 1)))):=by
            have hm:=more_step k hk8
            rw [<-hSd] at hm
            show List.map encStr T ++ _=_
            rw [List.map_append,<-hm,<-List.append_assoc,<-List.map_append,<-hT]
          have A5:Aside (38 + 2 * (k + 1)=N + 2):=(by omega:38 + 2 * (k + 1)=N + 2)
          clear hT hN hSd
          have hlow:w1.heap.size<=wr.heap.size:=by omega
          go_wp2_with (first
            | (at_builtin;(refine wpList_append_own_at _ rfl _ _ 122 rfl w1.heap.size 9 i0 (.string ⟨#[]⟩) 1 16 Tryz.underlying122 hi hz0 hz1 hz2 rfl (by decide) _ _ _ rfl (hrow2.alloc _) ⟨wr.heap.size,0,none⟩ 2 2 [.string (S ++ ⟨#[94,50]⟩),.string (S ++ ⟨#[94,51]⟩)] rfl rfl (cells_new _ _ _) (two_one _ _) (by unfold maxLen;omega) (by omega) (by simp;omega) ?_;intro v' w3 hown' hg3 hnil3 hob3;go_frame))
            | go_in)
          have hlt2:b < (wr.alloc (.cells [Value.string (S ++ ⟨#[94,50]⟩),.string (S ++ ⟨#[94,51]⟩)].toArray 9)).heap.size:=by simp;omega
          have hg3s:wr.heap.size + 1<=w3.heap.size:=by have:=hg3.size;simpa using this
          refine ⟨⟨k + 1,by omega,by simp,?_,?_,?_,?_,by omega⟩,?_⟩
          · rw [show 38 + 2 * (k + 1)=N + 2 from A5,<-(show _=List.map encStr (ss ++ moreT.take (2 * (k + 1))) from A6)]
            exact hown'
          · rw [hg3.block b hlt2 (fun e=>hvb e.symm)]
            rw [alloc_get,if_neg (by omega)]
            exact A1
          · rcases hob3 with h | h
            · rw [h];exact hvb
            · rw [h];intro e;injection e with e;simp at e;omega
          · exact (hnx2.alloc (by have:=hnx2.size;omega) _).grown hg3 (by have:=hnx2.size;simp;omega) (fun j hj=>Nat.le_trans (Nat.le_of_lt hmb) (hrow2.lt j hj).1)
          · simp [intOf];omega
    · intro x c kl yd yp w2 cnt2 hkey hlk hv hat hrg2 hlt hg2 hs2 hen
      obtain ⟨x',ex,rfl,_⟩:=Maps.keyOf_str Tryz.underlying9 hkey
      obtain rfl:x=x':=encStr_inj ex
      have hrow2:=hrow.kept hg2 (Or.inr (row_ne_iter hrow hrg).symm)
      clear hs2
      go_wp2_with (first
        | (at_builtin;(refine wpList_append_own _ rfl _ _ 122 rfl w1.heap.size 9 i0 (.string ⟨#[]⟩) 1 16 Tryz.underlying122 hi hz0 hz1 hz2 rfl (by decide) _ _ _ rfl (hrow2.alloc _) ⟨w2.heap.size,0,none⟩ 1 1 [encStr x] rfl rfl (cell_one_new _ _ _) (by simp [Value.oneCell',encStr]) (by unfold maxLen at *;omega) (by omega) (by have:=hg2.size;simp;omega) ?_;intro v' w3 hown' hg3 hnil3;go_frame))
        | go_in)
      have hrg3:=(hrg2.alloc _).kept hg3 (row_ne_low hrow2 hmb) (row_ne_iter hrow2 hrg2)
      go_roundw
      case rel =>
        refine ⟨_,cnt2,ss ++ [x],hrg3,by simp;omega,by simpa using hown',hC.step hlk hat,?_,by have:=hg2.size;have:=hg3.size;simp at this;omega⟩
        exact ((hnx.grown hg2 hnx.size (fun j hj=>by cases hj;exact Nat.le_of_lt hmb)).alloc (by have:=hnx.size;have:=hg2.size;omega) _).grown hg3 (by have:=hnx.size;have:=hg2.size;simp;omega) (fun j hj=>Nat.le_trans (Nat.le_of_lt hmb) (hrow2.lt j hj).1)
      case measure=>rw [hrg3.left_eq,hrg.left_eq];exact hlt
end Go.Proofs.YtmlgfaojfmkdnaaGreatDoor.E
namespace Go.Proofs.YtmlgfaojfmkdnaaGreatDoor.E
open Go Go.Proofs Go.Proofs.YtmlgfaojfmkdnaaGreatDoor Go.RowKit Go.Maps Go.Sort
set_option maxRecDepth 100000
set_option linter.unusedVariables false
def allT:List (List UInt8):=[[66,70],[68],[68,49],[68,50],[69],[69,48],[69,49],[69,50],[73],[73,48],[73,49],[73,50],[76],[76,48],[76,49],[76,50],[76,51],[77],[77,48],[77,49],[77,50],[78],[78,50],[82,48],[82,49],[82,50],[83,48],[83,48,48],[83,48,48,94,50],[83,48,48,94,51],[83,48,49],[83,48,49,94,50],[83,48,49,94,51],[83,48,50],[83,48,50,94,50],[83,48,50,94,51],[83,48,94,50],[83,48,94,51],[83,49],[83,49,48],[83,49,48,94,50],[83,49,48,94,51],[83,49,49],[83,49,49,94,50],[83,49,49,94,51],[83,49,50],[83,49,50,94,50],[83,49,50,94,51],[83,49,94,50],[83,49,94,51],[86],[86,48],[86,49],[86,50]]
theorem allT_eq:(keysT ++ moreT).mergeSort leB=allT :=
  (mergeSort_of_perm (by decide +kernel:(keysT ++ moreT).Perm allT)).trans (List.mergeSort_of_pairwise (by decide +kernel))
def allNames:List ByteArray:=[(⟨#[66,70]⟩:ByteArray),(⟨#[68]⟩:ByteArray),(⟨#[68,49]⟩:ByteArray),(⟨#[68,50]⟩:ByteArray),(⟨#[69]⟩:ByteArray),(⟨#[69,48]⟩:ByteArray),(⟨#[69,49]⟩:ByteArray),(⟨#[69,50]⟩:ByteArray),(⟨#[73]⟩:ByteArray),(⟨#[73,48]⟩:ByteArray),(⟨#[73,49]⟩:ByteArray),(⟨#[73,50]⟩:ByteArray),(⟨#[76]⟩:ByteArray),(⟨#[76,48]⟩:ByteArray),(⟨#[76,49]⟩:ByteArray),(⟨#[76,50]⟩:ByteArray),(⟨#[76,51]⟩:ByteArray),(⟨#[77]⟩:ByteArray),(⟨#[77,48]⟩:ByteArray),(⟨#[77,49]⟩:ByteArray),(⟨#[77,50]⟩:ByteArray),(⟨#[78]⟩:ByteArray),(⟨#[78,50]⟩:ByteArray),(⟨#[82,48]⟩:ByteArray),(⟨#[82,49]⟩:ByteArray),(⟨#[82,50]⟩:ByteArray),(⟨#[83,48]⟩:ByteArray),(⟨#[83,48,48]⟩:ByteArray),(⟨#[83,48,48,94,50]⟩:ByteArray),(⟨#[83,48,48,94,51]⟩:ByteArray),(⟨#[83,48,49]⟩:ByteArray),(⟨#[83,48,49,94,50]⟩:ByteArray),(⟨#[83,48,49,94,51]⟩:ByteArray),(⟨#[83,48,50]⟩:ByteArray),(⟨#[83,48,50,94,50]⟩:ByteArray),(⟨#[83,48,50,94,51]⟩:ByteArray),(⟨#[83,48,94,50]⟩:ByteArray),(⟨#[83,48,94,51]⟩:ByteArray),(⟨#[83,49]⟩:ByteArray),(⟨#[83,49,48]⟩:ByteArray),(⟨#[83,49,48,94,50]⟩:ByteArray),(⟨#[83,49,48,94,51]⟩:ByteArray),(⟨#[83,49,49]⟩:ByteArray),(⟨#[83,49,49,94,50]⟩:ByteArray),(⟨#[83,49,49,94,51]⟩:ByteArray),(⟨#[83,49,50]⟩:ByteArray),(⟨#[83,49,50,94,50]⟩:ByteArray),(⟨#[83,49,50,94,51]⟩:ByteArray),(⟨#[83,49,94,50]⟩:ByteArray),(⟨#[83,49,94,51]⟩:ByteArray),(⟨#[86]⟩:ByteArray),(⟨#[86,48]⟩:ByteArray),(⟨#[86,49]⟩:ByteArray),(⟨#[86,50]⟩:ByteArray)]
theorem allNames_eq:allNames.map Value.string=allT.map encStr:=by kernel_rfl
theorem names_ok:FnOk Tryz.prog 116 ⟨.unit,[],.sl .str,fun _=>some allNames⟩:=by
  refine ⟨fun _=>?_,fun h=>by cases h⟩
  intro w vs x y hx hy
  have hv:vs=[]:=hx
  subst hv
  have hy:some allNames=some y:=hy
  cases hy
  refine cf_of_calls Tryz.func116 (c:=bodyOf Tryz.f116) (by kernel_rfl) (by kernel_rfl) ?_
  refine (cn_test w).mono ?_
  rintro e w' ⟨v,rfl,g,cap,n,rfl,hown,hbel⟩
  rw [allT_eq,<-allNames_eq] at hown
  refine ⟨_,rfl,?_⟩
  obtain ⟨ho1,ho2⟩:=hown
  have hn:n=54:=by
    have h:(allNames.map Value.string).length=n * 1:=ho1
    have h2:(allNames.map Value.string).length=54:=by kernel_rfl
    omega
  subst hn
  rcases ho2 with ⟨h,_⟩ | ⟨g',cap',cur,h,hg,hcur,hle,hmx,hcs,htk⟩
  · cases h
  cases h
  refine ⟨[g],⟨_,rfl,.inr ⟨g,0,54,cap,cur,_,List.replicate 54 [],rfl,?_,rfl,hcur,hle,?_,by simp,fun j y bi hy hbi=>?_⟩⟩,by simp,fun b hb=>?_,hbel⟩
  · congr 1
  · show 0 + cap * 1<=cur.size
    omega
  · have hbi':bi=[]:=List.eq_of_mem_replicate (List.mem_of_getElem? hbi)
    subst hbi'
    have hl:(allNames:List ByteArray).length=54:=by kernel_rfl
    have hj:j < 54:=by
      have:=(List.getElem?_eq_some_iff.1 hy).1
      omega
    have e1:cur.toList[j]?=some (.string y):=by
      have h:=congrArg (·[j]?) htk
      simp only [List.getElem?_take,List.getElem?_map] at h
      rw [if_pos (by omega)] at h
      rw [h]
      have hy:allNames[j]?=some y:=hy
      rw [hy];rfl
    have hs:(Ty.str).sz=1:=rfl
    rw [hs,Nat.mul_one,Nat.zero_add,seg_one e1]
    exact ⟨rfl,rfl⟩
  · simp only [List.mem_singleton] at hb;subst hb
    exact ⟨hg,(Array.getElem?_eq_some_iff.1 hcur).1⟩
end Go.Proofs.YtmlgfaojfmkdnaaGreatDoor.E
namespace Go.Proofs.YtmlgfaojfmkdnaaGreatDoor.E
open Go Go.Proofs Go.Proofs.YtmlgfaojfmkdnaaGreatDoor
set_option maxRecDepth 100000
set_option linter.unusedVariables false
noncomputable def as_i_CloneNames:Ty:=.unit
noncomputable def sp_i_CloneNames (F:Unit->Option (List ByteArray)):FnSpec:=⟨as_i_CloneNames,[],(.sl .str),F⟩
noncomputable def i_CloneNames (K:Nat) (x:Unit):Option (List ByteArray):=some allNames
theorem ok_i_CloneNames (K:Nat):FnOk Tryz.prog 116 (sp_i_CloneNames (i_CloneNames K)):=names_ok
noncomputable def C_i_CloneNames (K:Nat):CB Tryz.prog:=.f _ _ (ok_i_CloneNames K)
noncomputable def as_slices_IndexFunc_L_impl_Func:Ty:=(.pair (.sl (.sl tq0)) (.pair (.fn (.pair (.sl tq0) .unit) .bool) .unit))
noncomputable def sp_slices_IndexFunc_L_impl_Func (F:((List (List dq0)) × (((List dq0) × Unit)->Option Bool) × Unit)->Option Int):FnSpec:=⟨as_slices_IndexFunc_L_impl_Func,[false,false],(.int .i64),F⟩
noncomputable def slices_IndexFunc_L_impl_Func_l2 {R:Type} (K:Nat):Nat->(List (List dq0))->(((List dq0) × Unit)->Option Bool)->Int->Int->(Option R)->(Int->Option R)->Option R
  | 0,_,_,_,_,_,_=>none
  | k + 1,v0,v1,v7,v8,kx0,kr =>
    (if (decide (v8 < v7))=true then
    (if (bnds v8 (v0.length:Int))=true then
    (v1 ((v0.getD v8.toNat ([]:List dq0)),())).bind fun y1 =>
    (if y1=true then
    kr v8
    else
    slices_IndexFunc_L_impl_Func_l2 K k v0 v1 v7 (IntKind.i64.wrap (v8 + (1:Int))) kx0 kr)
    else
    none)
    else
    kx0)
noncomputable def slices_IndexFunc_L_impl_Func (K:Nat) (x:((List (List dq0)) × (((List dq0) × Unit)->Option Bool) × Unit)):Option Int :=
    slices_IndexFunc_L_impl_Func_l2 K K x.1 x.2.1 (x.1.length:Int) (0:Int) (some (-1:Int)) (fun z2 =>
    some z2)
noncomputable def X0_slices_IndexFunc_L_impl_Func:Lv:=[]
noncomputable def rv_slices_IndexFunc_L_impl_Func:Lv:=[(4,(.v (.int .i64)))]
noncomputable def D_slices_IndexFunc_L_impl_Func (K:Nat):List (PD (den (.int .i64))):=[.L 2 [(0,(.v (.sl (.sl tq0)))),(1,(.v (.fn (.pair (.sl tq0) .unit) .bool))),(7,(.v (.int .i64))),(8,(.v (.int .i64)))] [] (fun k x kx kr=>slices_IndexFunc_L_impl_Func_l2 K k x.1 x.2.1 x.2.2.1 x.2.2.2.1 (kx 0 (mkSt X0_slices_IndexFunc_L_impl_Func ())) (fun z0=>kr (mkSt rv_slices_IndexFunc_L_impl_Func (z0,()))))]
theorem ok_slices_IndexFunc_L_impl_Func (K:Nat):FnOk Tryz.prog 156 (sp_slices_IndexFunc_L_impl_Func (slices_IndexFunc_L_impl_Func K)) :=
  fn_okD tysOk [] 0 (D_slices_IndexFunc_L_impl_Func K) [(0,X0_slices_IndexFunc_L_impl_Func)] rv_slices_IndexFunc_L_impl_Func K Tryz.func156 (by kernel_rfl) ⟨⟨fun _ _ _ _=>by kernel_rfl,fun _ _ _=>rfl⟩,trivial⟩ (fun _=>by kernel_rfl)
noncomputable def C_slices_IndexFunc_L_impl_Func (K:Nat):CB Tryz.prog:=.f _ _ (ok_slices_IndexFunc_L_impl_Func K)
noncomputable def as_slices_ContainsFunc_L_impl_Func:Ty:=(.pair (.sl (.sl tq0)) (.pair (.fn (.pair (.sl tq0) .unit) .bool) .unit))
noncomputable def sp_slices_ContainsFunc_L_impl_Func (F:((List (List dq0)) × (((List dq0) × Unit)->Option Bool) × Unit)->Option Bool):FnSpec:=⟨as_slices_ContainsFunc_L_impl_Func,[false,false],.bool,F⟩
noncomputable def slices_ContainsFunc_L_impl_Func (K:Nat) (x:((List (List dq0)) × (((List dq0) × Unit)->Option Bool) × Unit)):Option Bool :=
    (slices_IndexFunc_L_impl_Func K (x.1,x.2.1,())).bind fun y1 =>
    some (decide (y1 ≥ (0:Int)))
noncomputable def rv_slices_ContainsFunc_L_impl_Func:Lv:=[(4,(.v .bool))]
theorem ok_slices_ContainsFunc_L_impl_Func (K:Nat):FnOk Tryz.prog 82 (sp_slices_ContainsFunc_L_impl_Func (slices_ContainsFunc_L_impl_Func K)) :=
  fn_okD tysOk [C_slices_IndexFunc_L_impl_Func K] 0 [] [] rv_slices_ContainsFunc_L_impl_Func K Tryz.func82 (by kernel_rfl) trivial (fun _=>by kernel_rfl)
noncomputable def C_slices_ContainsFunc_L_impl_Func (K:Nat):CB Tryz.prog:=.f _ _ (ok_slices_ContainsFunc_L_impl_Func K)
noncomputable def as_i_generationCode_c1:Ty:=(.pair (.sl tq0) .unit)
noncomputable def sp_i_generationCode_c1 (F:((List dq0) × Unit)->Option Bool):FnSpec:=⟨as_i_generationCode_c1,[false],.bool,F⟩
noncomputable def i_generationCode_c1 (K:Nat) (x:((List dq0) × Unit)):Option Bool :=
    (i_areFuncs K (x.1,())).bind fun y1 =>
    some (!y1)
noncomputable def rv_i_generationCode_c1:Lv:=[(2,(.v .bool))]
theorem ok_i_generationCode_c1 (K:Nat):FnOk Tryz.prog 83 (sp_i_generationCode_c1 (i_generationCode_c1 K)) :=
  fn_okD tysOk [C_i_areFuncs K] 0 [] [] rv_i_generationCode_c1 K Tryz.func83 (by kernel_rfl) trivial (fun _=>by kernel_rfl)
noncomputable def C_i_generationCode_c1 (K:Nat):CB Tryz.prog:=.f _ _ (ok_i_generationCode_c1 K)
noncomputable def as_i_generationCode_c2:Ty:=(.pair tq0 .unit)
noncomputable def sp_i_generationCode_c2 (F:(dq0 × Unit)->Option Bool):FnSpec:=⟨as_i_generationCode_c2,[false],.bool,F⟩
noncomputable def i_generationCode_c2 (K:Nat) (x:(dq0 × Unit)):Option Bool :=
    some (decide (x.1.1 > (2:Int)))
noncomputable def rv_i_generationCode_c2:Lv:=[(2,(.v .bool))]
theorem ok_i_generationCode_c2 (K:Nat):FnOk Tryz.prog 85 (sp_i_generationCode_c2 (i_generationCode_c2 K)) :=
  fn_okD tysOk [] 0 [] [] rv_i_generationCode_c2 K Tryz.func85 (by kernel_rfl) trivial (fun _=>by kernel_rfl)
noncomputable def C_i_generationCode_c2 (K:Nat):CB Tryz.prog:=.f _ _ (ok_i_generationCode_c2 K)
noncomputable def as_i_generationCode:Ty:=(.pair (.int .i64) (.pair (.sl (.sl tq0)) .unit))
noncomputable def sp_i_generationCode (F:(Int × (List (List dq0)) × Unit)->Option Int):FnSpec:=⟨as_i_generationCode,[false,false],(.int .i64),F⟩
noncomputable def i_generationCode_l6 {R:Type} (K:Nat):Nat->Int->(List (List dq0))->Int->Int->(Option R)->(Int->Option R)->Option R
  | 0,_,_,_,_,_,_=>none
  | k + 1,v0,v12,v13,v14,kx0,kr =>
    (if (decide (v14 < v13))=true then
    (if (bnds v14 (v12.length:Int))=true then
    let x4:=(decide (((v12.getD v14.toNat ([]:List dq0)).length:Int) > (8:Int)))
    (if x4=true then
    kr (2:Int)
    else
    (if (decide (v0=(3:Int)))=true then
    (slices_ContainsFunc_impl_Func K ((v12.getD v14.toNat ([]:List dq0)),(fun y6=>i_generationCode_c2 K (y6.1,())),())).bind fun y5 =>
    (if y5=true then
    kr (2:Int)
    else
    i_generationCode_l6 K k v0 v12 v13 (IntKind.i64.wrap (v14 + (1:Int))) kx0 kr)
    else
    i_generationCode_l6 K k v0 v12 v13 (IntKind.i64.wrap (v14 + (1:Int))) kx0 kr))
    else
    none)
    else
    kx0)
noncomputable def i_generationCode (K:Nat) (x:(Int × (List (List dq0)) × Unit)):Option Int :=
    (slices_ContainsFunc_L_impl_Func K (x.2.1,(fun y2=>i_generationCode_c1 K (y2.1,())),())).bind fun y1 =>
    (if y1=true then
    some (1:Int)
    else
    (i_within K (x.1,(2:Int),(3:Int),())).bind fun y3 =>
    (if (!y3)=true then
    some (2:Int)
    else
    i_generationCode_l6 K K x.1 x.2.1 (x.2.1.length:Int) (0:Int) (some (0:Int)) (fun z7 =>
    some z7)))
noncomputable def X0_i_generationCode:Lv:=[]
noncomputable def rv_i_generationCode:Lv:=[(4,(.v (.int .i64)))]
noncomputable def D_i_generationCode (K:Nat):List (PD (den (.int .i64))):=[.L 6 [(0,(.v (.int .i64))),(12,(.v (.sl (.sl tq0)))),(13,(.v (.int .i64))),(14,(.v (.int .i64)))] [] (fun k x kx kr=>i_generationCode_l6 K k x.1 x.2.1 x.2.2.1 x.2.2.2.1 (kx 0 (mkSt X0_i_generationCode ())) (fun z0=>kr (mkSt rv_i_generationCode (z0,()))))]
theorem ok_i_generationCode (K:Nat):FnOk Tryz.prog 35 (sp_i_generationCode (i_generationCode K)) :=
  fn_okD tysOk [C_i_within K,C_slices_ContainsFunc_L_impl_Func K,C_i_generationCode_c1 K,C_slices_ContainsFunc_impl_Func K,C_i_generationCode_c2 K] 0 (D_i_generationCode K) [(0,X0_i_generationCode)] rv_i_generationCode K Tryz.func35 (by kernel_rfl) ⟨⟨fun _ _ _ _=>by kernel_rfl,fun _ _ _=>rfl⟩,trivial⟩ (fun _=>by kernel_rfl)
noncomputable def as_i_generated_all_c1:Ty:=(.pair tq0 (.pair (.ptr (.ptr tq2)) .unit))
noncomputable def sp_i_generated_all_c1 (F:(dq0 × dq2 × Unit)->Option Bool):FnSpec:=⟨as_i_generated_all_c1,[false,false],.bool,F⟩
noncomputable def i_generated_all_c1 (K:Nat) (x:(dq0 × dq2 × Unit)):Option Bool :=
    (if (bnds x.1.2.1 (x.2.1.2.2.1.length:Int))=true then
    let x1:=(decide ((x.2.1.2.2.1.getD x.1.2.1.toNat (0:Int)) ≥ (0:Int)))
    some x1
    else
    none)
noncomputable def rv_i_generated_all_c1:Lv:=[(3,(.v .bool))]
theorem ok_i_generated_all_c1 (K:Nat):FnOk Tryz.prog 91 (sp_i_generated_all_c1 (i_generated_all_c1 K)) :=
  fn_okD tysOk [] 0 [] [] rv_i_generated_all_c1 K Tryz.func91 (by kernel_rfl) trivial (fun _=>by kernel_rfl)
noncomputable def C_i_generated_all_c1 (K:Nat):CB Tryz.prog:=.f _ _ (ok_i_generated_all_c1 K)
noncomputable def as_i_generated_all:Ty:=(.pair (.ptr tq2) .unit)
noncomputable def sp_i_generated_all (F:(dq2 × Unit)->Option (List dq0)):FnSpec:=⟨as_i_generated_all,[false],(.sl tq0),F⟩
noncomputable def i_generated_all (K:Nat) (x:(dq2 × Unit)):Option (List dq0) :=
    (i_funcsThat K (x.1.2.1,(fun y2=>i_generated_all_c1 K (y2.1,x.1,())),())).bind fun y1 =>
    some y1
noncomputable def rv_i_generated_all:Lv:=[(2,(.r tq0))]
theorem ok_i_generated_all (K:Nat):FnOk Tryz.prog 37 (sp_i_generated_all (i_generated_all K)) :=
  fn_okD tysOk [C_i_funcsThat K,C_i_generated_all_c1 K] 0 [] [] rv_i_generated_all K Tryz.func37 (by kernel_rfl) trivial (fun _=>by kernel_rfl)
noncomputable def as_i_projection_c1:Ty:=(.pair (.int .i64) (.pair (.ptr (.int .i64)) .unit))
noncomputable def sp_i_projection_c1 (F:(Int × Int × Unit)->Option Int):FnSpec:=⟨as_i_projection_c1,[false,false],(.int .i64),F⟩
noncomputable def i_projection_c1 (K:Nat) (x:(Int × Int × Unit)):Option Int :=
    (i_bit K (x.1,x.2.1,())).bind fun y1 =>
    some y1
noncomputable def rv_i_projection_c1:Lv:=[(3,(.v (.int .i64)))]
theorem ok_i_projection_c1 (K:Nat):FnOk Tryz.prog 155 (sp_i_projection_c1 (i_projection_c1 K)) :=
  fn_okD tysOk [C_i_bit K] 0 [] [] rv_i_projection_c1 K Tryz.func155 (by kernel_rfl) trivial (fun _=>by kernel_rfl)
noncomputable def C_i_projection_c1 (K:Nat):CB Tryz.prog:=.f _ _ (ok_i_projection_c1 K)
noncomputable def as_i_projection:Ty:=(.pair (.int .i64) (.pair (.int .i64) .unit))
noncomputable def sp_i_projection (F:(Int × Int × Unit)->Option dq0):FnSpec:=⟨as_i_projection,[false,false],tq0,F⟩
noncomputable def i_projection (K:Nat) (x:(Int × Int × Unit)):Option dq0 :=
    (i_funcBy K (x.1,(fun y2=>i_projection_c1 K (y2.1,x.2.1,())),())).bind fun y1 =>
    some y1
noncomputable def rv_i_projection:Lv:=[(4,(.bx (.v tq0)))]
theorem ok_i_projection (K:Nat):FnOk Tryz.prog 81 (sp_i_projection (i_projection K)) :=
  fn_okD tysOk [C_i_funcBy K,C_i_projection_c1 K] 0 [] [] rv_i_projection K Tryz.func81 (by kernel_rfl) trivial (fun _=>by kernel_rfl)
noncomputable def C_i_projection (K:Nat):CB Tryz.prog:=.f _ _ (ok_i_projection K)
noncomputable def as_math_bits_Mul64:Ty:=(.pair (.int .u64) (.pair (.int .u64) .unit))
noncomputable def sp_math_bits_Mul64 (F:(Int × Int × Unit)->Option (Int × Int × Unit)):FnSpec:=⟨as_math_bits_Mul64,[false,false],(.tup (.pair (.int .u64) (.pair (.int .u64) .unit))),F⟩
noncomputable def math_bits_Mul64 (K:Nat) (x:(Int × Int × Unit)):Option (Int × Int × Unit) :=
    let x1:=(IntKind.u64.wrap ((bitI .and .u64 x.1 (4294967295:Int)) * (bitI .and .u64 x.2.1 (4294967295:Int))))
    let x2:=(IntKind.u64.wrap ((shrI .u64 x.1 (32:Int)) * (bitI .and .u64 x.2.1 (4294967295:Int))))
    let x3:=(bitI .and .u64 (IntKind.u64.wrap (x2 + (shrI .u64 x1 (32:Int)))) (4294967295:Int))
    let x4:=(shrI .u64 (IntKind.u64.wrap (x2 + (shrI .u64 x1 (32:Int)))) (32:Int))
    let x5:=(IntKind.u64.wrap ((bitI .and .u64 x.1 (4294967295:Int)) * (shrI .u64 x.2.1 (32:Int))))
    let x6:=(IntKind.u64.wrap ((shrI .u64 x.1 (32:Int)) * (shrI .u64 x.2.1 (32:Int))))
    let x7:=(IntKind.u64.wrap ((IntKind.u64.wrap (x6 + x4)) + (shrI .u64 (IntKind.u64.wrap (x3 + x5)) (32:Int))))
    some (x7,(IntKind.u64.wrap (x.1 * x.2.1)),())
noncomputable def rv_math_bits_Mul64:Lv:=[(4,(.v (.int .u64))),(5,(.v (.int .u64)))]
theorem ok_math_bits_Mul64 (K:Nat):FnOk Tryz.prog 189 (sp_math_bits_Mul64 (math_bits_Mul64 K)) :=
  fn_okD tysOk [] 0 [] [] rv_math_bits_Mul64 K Tryz.func189 (by kernel_rfl) trivial (fun _=>by kernel_rfl)
noncomputable def C_math_bits_Mul64 (K:Nat):CB Tryz.prog:=.f _ _ (ok_math_bits_Mul64 K)
noncomputable def as_math_bits_Mul:Ty:=(.pair (.int .u64) (.pair (.int .u64) .unit))
noncomputable def sp_math_bits_Mul (F:(Int × Int × Unit)->Option (Int × Int × Unit)):FnSpec:=⟨as_math_bits_Mul,[false,false],(.tup (.pair (.int .u64) (.pair (.int .u64) .unit))),F⟩
noncomputable def math_bits_Mul (K:Nat) (x:(Int × Int × Unit)):Option (Int × Int × Unit) :=
    (math_bits_Mul64 K (x.1,x.2.1,())).bind fun y1 =>
    some (y1.1,y1.2.1,())
noncomputable def rv_math_bits_Mul:Lv:=[(4,(.v (.int .u64))),(5,(.v (.int .u64)))]
theorem ok_math_bits_Mul (K:Nat):FnOk Tryz.prog 157 (sp_math_bits_Mul (math_bits_Mul K)) :=
  fn_okD tysOk [C_math_bits_Mul64 K] 0 [] [] rv_math_bits_Mul K Tryz.func157 (by kernel_rfl) trivial (fun _=>by kernel_rfl)
noncomputable def C_math_bits_Mul (K:Nat):CB Tryz.prog:=.f _ _ (ok_math_bits_Mul K)
noncomputable def as_slices_Repeat_int64:Ty:=(.pair (.sl (.int .i64)) (.pair (.int .i64) .unit))
noncomputable def sp_slices_Repeat_int64 (F:((List Int) × Int × Unit)->Option (List Int)):FnSpec:=⟨as_slices_Repeat_int64,[false,false],(.sl (.int .i64)),F⟩
noncomputable def slices_Repeat_int64_l8 {R:Type} (K:Nat):Nat->(List Int)->Int->((List Int)->Option R)->Option R
  | 0,_,_,_=>none
  | k + 1,v7,v8,kx0 =>
    (if (decide (v8 < (v7.length:Int)))=true then
    (if (decide (0<=v8) && decide (v8<=(v7.length:Int)) && decide ((v7.length:Int)<=(v7.length:Int)))=true then
    (if (decide (0<=(0:Int)) && decide ((0:Int)<=v8) && decide (v8<=(v7.length:Int)))=true then
    let l4:=(sliceL v7 (0:Int) ((0:Int) + (v8 - (0:Int))))
    let l5:=(copyL v7 l4 v8.toNat ((v7.length:Int) - v8).toNat)
    let x6:=(IntKind.i64.wrap (v8 + ((min l4.length ((v7.length:Int) - v8).toNat:Nat):Int)))
    slices_Repeat_int64_l8 K k l5 x6 kx0
    else
    none)
    else
    none)
    else
    kx0 v7)
noncomputable def slices_Repeat_int64_j6 {R:Type} (K:Nat) (k:Nat) (v0:(List Int)) (v6:Int) (kn:Option R) (kr:((List Int)->Option R)):Option R :=
    (if (decide (0<=(IntKind.i64.wrap v6)) && decide ((IntKind.i64.wrap v6)<=(lim:Int)) && decide ((IntKind.i64.wrap v6)=(IntKind.i64.wrap v6)))=true then
    let l2:=(List.replicate (IntKind.i64.wrap v6).toNat (0:Int))
    let l3:=(copyL l2 v0 0 l2.length)
    slices_Repeat_int64_l8 K k l3 ((min v0.length l2.length:Nat):Int) (fun z7 =>
    kr z7)
    else
    none)
noncomputable def slices_Repeat_int64_j3 {R:Type} (K:Nat) (k:Nat) (v0:(List Int)) (v1:Int) (kn:Option R) (kr:((List Int)->Option R)):Option R :=
    (math_bits_Mul K ((IntKind.u64.wrap (v0.length:Int)),(IntKind.u64.wrap v1),())).bind fun y1 =>
    (if (decide (y1.1 > (0:Int)))=true then
    none
    else
    (if (decide (y1.2.1 > (9223372036854775807:Int)))=true then
    none
    else
    slices_Repeat_int64_j6 K k v0 y1.2.1 none (fun z8 =>
    kr z8)))
noncomputable def slices_Repeat_int64 (K:Nat) (x:((List Int) × Int × Unit)):Option (List Int) :=
    (if (decide (x.2.1 < (0:Int)))=true then
    none
    else
    slices_Repeat_int64_j3 K K x.1 x.2.1 none (fun z9 =>
    some z9))
noncomputable def X0_slices_Repeat_int64:Lv:=[(7,(.r (.int .i64)))]
noncomputable def rv_slices_Repeat_int64:Lv:=[(4,(.r (.int .i64)))]
noncomputable def D_slices_Repeat_int64 (K:Nat):List (PD (den (.sl (.int .i64)))):=[.J 3 [(0,(.v (.sl (.int .i64)))),(1,(.v (.int .i64)))] [] 0 (fun k x kn kx kr=>slices_Repeat_int64_j3 K k x.1 x.2.1 (kn ()) (fun z0=>kr (mkSt rv_slices_Repeat_int64 (z0,())))),
  .J 6 [(0,(.v (.sl (.int .i64)))),(6,(.v (.int .u64)))] [] 0 (fun k x kn kx kr=>slices_Repeat_int64_j6 K k x.1 x.2.1 (kn ()) (fun z0=>kr (mkSt rv_slices_Repeat_int64 (z0,())))),
  .L 8 [(7,(.r (.int .i64))),(8,(.v (.int .i64)))] [] (fun k x kx kr=>slices_Repeat_int64_l8 K k x.1 x.2.1 (fun z0=>kx 0 (mkSt X0_slices_Repeat_int64 (z0,()))))]
theorem ok_slices_Repeat_int64 (K:Nat):FnOk Tryz.prog 86 (sp_slices_Repeat_int64 (slices_Repeat_int64 K)) :=
  fn_okD tysOk [C_math_bits_Mul K] 0 (D_slices_Repeat_int64 K) [(0,X0_slices_Repeat_int64)] rv_slices_Repeat_int64 K Tryz.func86 (by kernel_rfl) ⟨fun _ _ _ _ _=>by kernel_rfl,⟨fun _ _ _ _ _=>by kernel_rfl,⟨⟨fun _ _ _ _=>by kernel_rfl,fun _ _ _=>rfl⟩,trivial⟩⟩⟩ (fun _=>by kernel_rfl)
noncomputable def C_slices_Repeat_int64 (K:Nat):CB Tryz.prog:=.f _ _ (ok_slices_Repeat_int64 K)
noncomputable def as_i_generated_known_c1:Ty:=(.pair tq0 (.pair (.ptr (.ptr tq2)) (.pair (.ptr (.int .i64)) .unit)))
noncomputable def sp_i_generated_known_c1 (F:(dq0 × dq2 × Int × Unit)->Option Bool):FnSpec:=⟨as_i_generated_known_c1,[false,false,false],.bool,F⟩
noncomputable def i_generated_known_c1 (K:Nat) (x:(dq0 × dq2 × Int × Unit)):Option Bool :=
    (if (bnds x.1.2.1 (x.2.1.2.2.1.length:Int))=true then
    (i_within K ((x.2.1.2.2.1.getD x.1.2.1.toNat (0:Int)),(0:Int),(IntKind.i64.wrap (x.2.2.1 - (1:Int))),())).bind fun y1 =>
    some y1
    else
    none)
noncomputable def rv_i_generated_known_c1:Lv:=[(4,(.v .bool))]
theorem ok_i_generated_known_c1 (K:Nat):FnOk Tryz.prog 159 (sp_i_generated_known_c1 (i_generated_known_c1 K)) :=
  fn_okD tysOk [C_i_within K] 0 [] [] rv_i_generated_known_c1 K Tryz.func159 (by kernel_rfl) trivial (fun _=>by kernel_rfl)
noncomputable def C_i_generated_known_c1 (K:Nat):CB Tryz.prog:=.f _ _ (ok_i_generated_known_c1 K)
noncomputable def as_i_generated_known:Ty:=(.pair (.ptr tq2) (.pair (.int .i64) .unit))
noncomputable def sp_i_generated_known (F:(dq2 × Int × Unit)->Option (List dq0)):FnSpec:=⟨as_i_generated_known,[false,false],(.sl tq0),F⟩
noncomputable def i_generated_known (K:Nat) (x:(dq2 × Int × Unit)):Option (List dq0) :=
    (i_funcsThat K (x.1.2.1,(fun y2=>i_generated_known_c1 K (y2.1,x.1,x.2.1,())),())).bind fun y1 =>
    some y1
noncomputable def rv_i_generated_known:Lv:=[(4,(.r tq0))]
theorem ok_i_generated_known (K:Nat):FnOk Tryz.prog 88 (sp_i_generated_known (i_generated_known K)) :=
  fn_okD tysOk [C_i_funcsThat K,C_i_generated_known_c1 K] 0 [] [] rv_i_generated_known K Tryz.func88 (by kernel_rfl) trivial (fun _=>by kernel_rfl)
noncomputable def as_i_generated_steps_c1:Ty:=(.pair tq0 (.pair (.ptr (.ptr tq2)) (.pair (.ptr (.int .i64)) .unit)))
noncomputable def sp_i_generated_steps_c1 (F:(dq0 × dq2 × Int × Unit)->Option Bool):FnSpec:=⟨as_i_generated_steps_c1,[false,false,false],.bool,F⟩
noncomputable def i_generated_steps_c1 (K:Nat) (x:(dq0 × dq2 × Int × Unit)):Option Bool :=
    (if (bnds x.1.2.1 (x.2.1.2.2.1.length:Int))=true then
    let x1:=(decide ((x.2.1.2.2.1.getD x.1.2.1.toNat (0:Int))=(IntKind.i64.wrap (x.2.2.1 - (1:Int)))))
    some x1
    else
    none)
noncomputable def rv_i_generated_steps_c1:Lv:=[(4,(.v .bool))]
theorem ok_i_generated_steps_c1 (K:Nat):FnOk Tryz.prog 160 (sp_i_generated_steps_c1 (i_generated_steps_c1 K)) :=
  fn_okD tysOk [] 0 [] [] rv_i_generated_steps_c1 K Tryz.func160 (by kernel_rfl) trivial (fun _=>by kernel_rfl)
noncomputable def as_i_Func_put_c1:Ty:=(.pair (.int .i64) (.pair (.ptr (.sl tq0)) (.pair (.ptr tq0) .unit)))
noncomputable def sp_i_Func_put_c1 (F:(Int × (List dq0) × dq0 × Unit)->Option Int):FnSpec:=⟨as_i_Func_put_c1,[false,false,false],(.int .i64),F⟩
noncomputable def i_Func_put_c1_l3 {R:Type} (K:Nat):Nat->Int->dq0->Int->(List dq0)->Int->Int->(dq0->Int->Option R)->Option R
  | 0,_,_,_,_,_,_,_=>none
  | k + 1,v0,v2,v5,v8,v9,v10,kx0 =>
    (if (decide (v10 < v9))=true then
    (if (bnds v10 (v8.length:Int))=true then
    (i_Func_at K ((v8.getD v10.toNat ((0:Int),(0:Int),())),v0,())).bind fun y1 =>
    (if (decide ((0:Int)<=v10))=true then
    i_Func_put_c1_l3 K k v0 v2 (bitI .or .i64 v5 (shlI .i64 y1 v10)) v8 v9 (IntKind.i64.wrap (v10 + (1:Int))) kx0
    else
    none)
    else
    none)
    else
    kx0 v2 v5)
noncomputable def i_Func_put_c1 (K:Nat) (x:(Int × (List dq0) × dq0 × Unit)):Option Int :=
    i_Func_put_c1_l3 K K x.1 x.2.2.1 (0:Int) x.2.1 (x.2.1.length:Int) (0:Int) (fun z2 z3 =>
    (i_Func_at K (z2,z3,())).bind fun y4 =>
    some y4)
noncomputable def X0_i_Func_put_c1:Lv:=[(2,(.v (.ptr tq0))),(5,(.v (.int .i64)))]
noncomputable def rv_i_Func_put_c1:Lv:=[(4,(.v (.int .i64)))]
noncomputable def D_i_Func_put_c1 (K:Nat):List (PD (den (.int .i64))):=[.L 3 [(0,(.v (.int .i64))),(2,(.v (.ptr tq0))),(5,(.v (.int .i64))),(8,(.v (.sl tq0))),(9,(.v (.int .i64))),(10,(.v (.int .i64)))] [] (fun k x kx kr=>i_Func_put_c1_l3 K k x.1 x.2.1 x.2.2.1 x.2.2.2.1 x.2.2.2.2.1 x.2.2.2.2.2.1 (fun z0 z1=>kx 0 (mkSt X0_i_Func_put_c1 (z0,z1,()))))]
theorem ok_i_Func_put_c1 (K:Nat):FnOk Tryz.prog 190 (sp_i_Func_put_c1 (i_Func_put_c1 K)) :=
  fn_okD tysOk [C_i_Func_at K] 0 (D_i_Func_put_c1 K) [(0,X0_i_Func_put_c1)] rv_i_Func_put_c1 K Tryz.func190 (by kernel_rfl) ⟨⟨fun _ _ _ _=>by kernel_rfl,fun _ _ _=>rfl⟩,trivial⟩ (fun _=>by kernel_rfl)
noncomputable def C_i_Func_put_c1 (K:Nat):CB Tryz.prog:=.f _ _ (ok_i_Func_put_c1 K)
noncomputable def as_i_Func_put:Ty:=(.pair tq0 (.pair (.int .i64) (.pair (.sl tq0) .unit)))
noncomputable def sp_i_Func_put (F:(dq0 × Int × (List dq0) × Unit)->Option dq0):FnSpec:=⟨as_i_Func_put,[false,false,false],tq0,F⟩
noncomputable def i_Func_put (K:Nat) (x:(dq0 × Int × (List dq0) × Unit)):Option dq0 :=
    (i_funcBy K (x.2.1,(fun y2=>i_Func_put_c1 K (y2.1,x.2.2.1,x.1,())),())).bind fun y1 =>
    some y1
noncomputable def rv_i_Func_put:Lv:=[(6,(.bx (.v tq0)))]
theorem ok_i_Func_put (K:Nat):FnOk Tryz.prog 161 (sp_i_Func_put (i_Func_put K)) :=
  fn_okD tysOk [C_i_funcBy K,C_i_Func_put_c1 K] 0 [] [] rv_i_Func_put K Tryz.func161 (by kernel_rfl) trivial (fun _=>by kernel_rfl)
end Go.Proofs.YtmlgfaojfmkdnaaGreatDoor.E
namespace Go.Proofs.YtmlgfaojfmkdnaaGreatDoor.E
open Go Go.Proofs Go.Proofs.YtmlgfaojfmkdnaaGreatDoor Go.RowKit
set_option maxRecDepth 100000
set_option linter.unusedVariables false
/-! what a list generates: the plain function; its state: depths, and whether something is new -/
abbrev DFg:=Int × Int × Unit
abbrev GSt:=List Int × Bool
def eachF (depth:Int) (h:DFg) (s:GSt):Option GSt :=
  if 0<=h.2.1/\h.2.1 < (s.1.length:Int) then some (if s.1.getD h.2.1.toNat 0 < 0 then (s.1.set h.2.1.toNat depth,true) else s) else none
def foldF {α β:Type} (f:β->α->Option β):List α->β->Option β
  | [],s=>some s
  | x :: l,s=>(f s x).bind fun s=>foldF f l s
noncomputable def isNewF (K:Nat) (list:List DFg) (n depth:Int) (now:List DFg) (s:GSt):Option Bool :=
  if depth=1 then some true else slices_ContainsFunc_impl_Func K (now,(fun y=>i_generated_steps_c1 K (y.1,(list,n,s.1,()),depth,())),())
noncomputable def stepsF (K:Nat) (list:List DFg) (n:Int) (f:DFg) (known:List DFg) (depth:Int):Nat->List DFg->GSt->Option GSt
  | 0,_,_=>none
  | m + 1,now,s =>
    if (now.length:Int)=f.1 then
      (isNewF K list n depth now s).bind fun b=>if b=true then (i_Func_put K (f,n,now,())).bind fun h=>eachF depth h s else some s
    else if now.length < 1000/\known.length < 1000000 then foldF (fun s h=>stepsF K list n f known depth m (now ++ [h]) s) known s else none
noncomputable def roundF (K:Nat) (list:List DFg) (n:Int) (known:List DFg) (depth:Int):List DFg->GSt->Option GSt :=
  foldF (fun s f=>stepsF K list n f known depth 100 [] s)
noncomputable def loopF (K:Nat) (list:List DFg) (n:Int):Nat->Int->List Int->Option (List Int)
  | 0,_,_=>none
  | k + 1, depth, D => if 0 ≤ depth ∧ depth < 1000000 ∧ list.length < 1000000 then
      (i_generated_known K ((list,n,D,()),depth,())).bind fun known=>(roundF K list n known depth list (D,false)).bind fun s=>if s.2=true then loopF K list n k (depth + 1) s.1 else some s.1
    else none
noncomputable def initF (K:Nat) (n:Int):Nat->Int->List Int->Option (List Int)
  | 0,_,_=>none
  | k + 1,i,D=>if i < n then (i_projection K (n,i,())).bind fun p=>if 0<=p.2.1/\p.2.1 < (D.length:Int) then initF K n k (i + 1) (D.set p.2.1.toNat 0) else none else some D
noncomputable def genF (K:Nat) (list:List DFg) (n:Int):Option (List Int) :=
  if 0<=n/\n < 1000/\list.length < 1000000 then (i_funcsOf K (n,())).bind fun q=>(slices_Repeat_int64 K ([(-1:Int)],q,())).bind fun D=>if D.length=0 then none else (initF K n 1000 0 D).bind fun D=>loopF K list n K 1 D else none
noncomputable def genByF (K:Nat) (x:List DFg × Int × Unit):Option (List DFg × Int × Unit) :=
  (i_generationCode K (x.2.1,[x.1],())).bind fun c=>if c=0 then (genF K x.1 x.2.1).bind fun D=>(i_generated_all K ((x.1,x.2.1,D,()),())).bind fun l=>some (l,0,()) else some ([],c,())
/-! memory -/
/-- Where a generation lies. -/
structure GnP where
  lv:Value
  n:Int
  depth:Int
  G:Nat
  gb:Nat
  db:Nat
  ab:Nat
  D:Nat
  o:Nat
  c:Nat
  L:Nat
  tD:TypeId
def DepW (w:World) (D o L:Nat) (tD:TypeId) (l:List Int):Prop:=∃ arr,w.heap[D]?=some (.cells arr tD (0,0))/\o + L<=arr.size/\l.length=L/\∀ i v,l[i]?=some v->arr[o + i]?=some (.int .i64 v)
structure GnW (p:GnP) (w:World) (s:GSt):Prop where
  hG:w.heap[p.G]?=some (.cells #[p.lv,.int .i64 p.n,.slice (some ⟨p.D,p.o,none⟩) p.L p.c] 102 (0,0))
  hgb:w.heap[p.gb]?=some (.cells #[.pointer (some ⟨p.G,0,none⟩)] 63 (0,0))
  hdb:w.heap[p.db]?=some (.cells #[.int .i64 p.depth] 2 (0,0))
  hab:w.heap[p.ab]?=some (.cells #[.bool s.2] 4 (0,0))
  hD:DepW w p.D p.o p.L p.tD s.1
structure GnP.Ok (p:GnP):Prop where
  lc:p.L<=p.c
  GD:p.G ≠ p.D
  Ga:p.G ≠ p.ab
  gD:p.gb ≠ p.D
  ga:p.gb ≠ p.ab
  dD:p.db ≠ p.D
  da:p.db ≠ p.ab
  Da:p.D ≠ p.ab
theorem GnW.kept {p:GnP} {w w':World} {s:GSt} (h:GnW p w s) (hk:∀ b,b=p.G\/b=p.gb\/b=p.db\/b=p.ab\/b=p.D->w'.heap[b]?=w.heap[b]?):GnW p w' s:=by
  obtain ⟨h1,h2,h3,h4,arr,h5,h6⟩:=h
  exact ⟨by rw [hk _ (by simp)];exact h1,by rw [hk _ (by simp)];exact h2,by rw [hk _ (by simp)];exact h3,by rw [hk _ (by simp)];exact h4,arr,by rw [hk _ (by simp)];exact h5,h6⟩
theorem GnW.lt {p:GnP} {w:World} {s:GSt} (h:GnW p w s):∀ b,b=p.G\/b=p.gb\/b=p.db\/b=p.ab\/b=p.D->b < w.heap.size:=by
  obtain ⟨h1,h2,h3,h4,arr,h5,h6⟩:=h
  rintro b (rfl | rfl | rfl | rfl | rfl)
  · exact (Array.getElem?_eq_some_iff.1 h1).1
  · exact (Array.getElem?_eq_some_iff.1 h2).1
  · exact (Array.getElem?_eq_some_iff.1 h3).1
  · exact (Array.getElem?_eq_some_iff.1 h4).1
  · exact (Array.getElem?_eq_some_iff.1 h5).1
theorem GnW.below {p:GnP} {w w':World} {s:GSt} (h:GnW p w s) {B:Nat} (hb:Below B w w') (hB:w.heap.size<=B):GnW p w' s:=h.kept fun b hb'=>hb.block b (Nat.lt_of_lt_of_le (h.lt b hb') hB)
/-- What a step may change. -/
structure Fr (p:GnP) (row:Option Nat) (w w':World):Prop where
  os:w'.os=w.os
  tape:w'.tape=w.tape
  output:w'.output=w.output
  size:w.heap.size<=w'.heap.size
  block:∀ k,k < w.heap.size->k ≠ p.D->k ≠ p.ab->some k ≠ row->w'.heap[k]?=w.heap[k]?
end Go.Proofs.YtmlgfaojfmkdnaaGreatDoor.E
namespace Go.Proofs.YtmlgfaojfmkdnaaGreatDoor.E
open Go Go.Proofs Go.Proofs.YtmlgfaojfmkdnaaGreatDoor Go.RowKit
set_option maxRecDepth 100000
set_option maxHeartbeats 4000000
set_option linter.unusedVariables false
theorem gn_cells {p:GnP} {w:World} {s:GSt} (h:GnW p w s) :
    w.cell? ⟨p.gb,0,none⟩=some (.pointer (some ⟨p.G,0,none⟩))/\w.cell? ⟨p.G,1,none⟩=some (.int .i64 p.n)/\w.cell? ⟨p.G,2,none⟩=some (.slice (some ⟨p.D,p.o,none⟩) p.L p.c)/\w.cell? ⟨p.db,0,none⟩=some (.int .i64 p.depth)/\w.cell? ⟨p.ab,0,none⟩=some (.bool s.2) :=
  ⟨by simp [World.cell?,h.hgb],by simp [World.cell?,h.hG],by simp [World.cell?,h.hG],by simp [World.cell?,h.hdb],by simp [World.cell?,h.hab]⟩
theorem set_heap {w:World} {b o:Nat} {v:Value} {arr:Array Value} {t:TypeId} (h:w.heap[b]?=some (.cells arr t (0,0))):(w.setCell ⟨b,o,none⟩ v).heap[b]?=some (.cells (arr.setIfInBounds o v) t (0,0)):=by
  simp only [World.setCell,Array.getElem?_modify,↓reduceIte,h,Option.map_some];rfl
theorem dep_set {w:World} {D o L:Nat} {tD:TypeId} {l:List Int} (h:DepW w D o L tD l) {j:Nat} (hj:j < L) (d:Int):DepW (w.setCell ⟨D,o + j,none⟩ (.int .i64 d)) D o L tD (l.set j d):=by
  obtain ⟨arr,h1,h2,h3,h4⟩:=h
  refine ⟨_,set_heap h1,by simpa using h2,by simpa using h3,fun i v hi=>?_⟩
  rw [Array.getElem?_setIfInBounds]
  rw [List.getElem?_set] at hi
  by_cases e:j=i
  · subst e
    rw [if_pos rfl,if_pos (by omega)] at hi
    rw [if_pos rfl,if_pos (by omega)]
    injection hi with hi;rw [hi]
  · rw [if_neg e] at hi
    rw [if_neg (by omega)];exact h4 i v hi
theorem gn_setD {p:GnP} (hp:p.Ok) {w:World} {s:GSt} (h:GnW p w s) {j:Nat} (hj:j < p.L) (d:Int):GnW p (w.setCell ⟨p.D,p.o + j,none⟩ (.int .i64 d)) (s.1.set j d,s.2):=by
  have hk:∀ b,b ≠ p.D->(w.setCell ⟨p.D,p.o + j,none⟩ (.int .i64 d)).heap[b]?=w.heap[b]?:=fun b hb=>Below.heap_setCell _ _ _ _ hb
  exact ⟨by rw [hk _ hp.GD];exact h.hG,by rw [hk _ hp.gD];exact h.hgb,by rw [hk _ hp.dD];exact h.hdb,by rw [hk _ hp.Da.symm];exact h.hab,dep_set h.hD hj d⟩
theorem gn_setA {p:GnP} (hp:p.Ok) {w:World} {s:GSt} (h:GnW p w s) (b:Bool):GnW p (w.setCell ⟨p.ab,0,none⟩ (.bool b)) (s.1,b):=by
  have hk:∀ k,k ≠ p.ab->(w.setCell ⟨p.ab,0,none⟩ (.bool b)).heap[k]?=w.heap[k]?:=fun k hb=>Below.heap_setCell _ _ _ _ hb
  refine ⟨by rw [hk _ hp.Ga];exact h.hG,by rw [hk _ hp.ga];exact h.hgb,by rw [hk _ hp.da];exact h.hdb,?_,?_⟩
  · have:=set_heap (o:=0) (v:=.bool b) h.hab
    simpa using this
  · obtain ⟨arr,h1,h2⟩:=h.hD
    exact ⟨arr,by rw [hk _ hp.Da];exact h1,h2⟩
theorem gn_thaw {p:GnP} {w:World} {s:GSt} (h:GnW p w s):(∀ o,w.frozen? ⟨p.D,o,none⟩=false)/\w.frozen? ⟨p.ab,0,none⟩=false:=by
  obtain ⟨arr,h1,h2⟩:=h.hD
  exact ⟨fun o=>by simp [World.frozen?,h1],by simp [World.frozen?,h.hab]⟩
theorem Fr.trans {p:GnP} {row:Option Nat} {a b c:World} (h:Fr p row a b) (k:Fr p row b c):Fr p row a c :=
  ⟨k.os.trans h.os,k.tape.trans h.tape,k.output.trans h.output,Nat.le_trans h.size k.size,fun i h1 h2 h3 h4=>(k.block i (Nat.lt_of_lt_of_le h1 h.size) h2 h3 h4).trans (h.block i h1 h2 h3 h4)⟩
theorem Fr.weak {p:GnP} {row:Option Nat} {w w':World} (h:Fr p none w w'):Fr p row w w':=⟨h.os,h.tape,h.output,h.size,fun k h1 h2 h3 _=>h.block k h1 h2 h3 (by simp)⟩
theorem Fr.below {p:GnP} {row:Option Nat} {w w':World} (h:Below w.heap.size w w'):Fr p row w w':=⟨h.os,h.tape,h.output,h.size,fun k hk _ _ _=>h.block k hk⟩
theorem Fr.set {p:GnP} {row:Option Nat} {w w':World} (h:Fr p row w w') {b o:Nat} (v:Value) (hb:b=p.D\/b=p.ab):Fr p row w (w'.setCell ⟨b,o,none⟩ v) :=
  ⟨h.os,h.tape,h.output,by simpa [World.setCell] using h.size,fun k hk h1 h2 h3=>by rw [Below.heap_setCell _ _ _ _ (by rcases hb with rfl | rfl <;> assumption)];exact h.block k hk h1 h2 h3⟩
theorem alloc_cell (w:World) (arr:Array Value) (t:TypeId) (j:Nat) (v:Value) (h:arr[j]?=some v):(w.alloc (.cells arr t)).cell? ⟨w.heap.size,j,none⟩=some v:=by
  have h1:(w.alloc (.cells arr t)).heap[w.heap.size]?=some (.cells arr t (0,0)):=by rw [alloc_get,if_pos rfl]
  unfold World.cell?
  rw [h1]
  simpa using h
theorem dep_cell {w:World} {D o L:Nat} {tD:TypeId} {l:List Int} (h:DepW w D o L tD l) {j:Nat} (hj:j < L):w.cell? ⟨D,o + j,none⟩=some (.int .i64 (l.getD j 0)):=by
  obtain ⟨arr,h1,h2,h3,h4⟩:=h
  have hl:l[j]?=some (l.getD j 0):=by rw [List.getD_eq_getElem?_getD,List.getElem?_eq_getElem (by omega)];rfl
  simp [World.cell?,h1,h4 j _ hl]
theorem each_calls (p:GnP) (hp:p.Ok) (w:World) (ha hb:Int) (v2:Value) (s s':GSt) (hw:GnW p w s) (h:eachF p.depth (ha,hb,()) s=some s') :
    Calls Tryz.prog 90 #[.agg #[.int .i64 ha,.int .i64 hb],v2,.pointer (some ⟨p.gb,0,none⟩),.pointer (some ⟨p.db,0,none⟩),.pointer (some ⟨p.ab,0,none⟩)] w fun e w'=>e=.returned (.bool true)/\GnW p w' s'/\Fr p none w w':=by
  unfold eachF at h
  split at h
  case isFalse=>cases h
  rename_i hbd
  obtain ⟨j,rfl⟩:=Int.eq_ofNat_of_zero_le hbd.1
  have hjL:j < p.L:=by have:=hw.hD;obtain ⟨arr,h1,h2,h3,h4⟩:=this;have:=hbd.2;simp only at this;omega
  have A0:Aside (s'=if s.1.getD j 0 < 0 then (s.1.set j p.depth,true) else s):=by
    injection h with h;exact h.symm
  have hjLI:(j:Int) < (p.L:Int):=by omega
  have hj0:(0:Int)<=(j:Int):=by omega
  clear h hbd
  have hw1:GnW p (w.alloc (.cells #[.int .i64 ha,.int .i64 j] 30)) s:=hw.below (Below.alloc (Below.refl _ _) (Nat.le_refl _) _) (Nat.le_refl _)
  obtain ⟨c1,c2,c3,c4,c5⟩:=gn_cells hw1
  have c6:=dep_cell hw1.hD hjL
  have A1:Aside (GnW p (w.alloc (.cells #[.int .i64 ha,.int .i64 j] 30)) s):=hw1
  obtain ⟨x,hx⟩:∃ x,x=s.1.getD j 0:=⟨_,rfl⟩
  rw [<-hx] at c6
  clear hw1
  by_cases hneg:x < 0
  · have hnegd:decide (x < 0)=true:=decide_eq_true hneg
    have A7:Aside (s.1.getD j 0 < 0):=hx ▸ hneg
    clear hx
    go_enter Tryz.func90,Tryz.ntmps90
    go_wp2
    go_quiet (fail)
    have A2:Aside (GnW p ((w.alloc (.cells #[.int .i64 ha,.int .i64 j] 30)).drewN nq) s):=(show GnW p (w.alloc (.cells #[.int .i64 ha,.int .i64 j] 30)) s from A1).kept (fun b _=>rfl)
    have A3:Aside (Below w.heap.size w ((w.alloc (.cells #[.int .i64 ha,.int .i64 j] 30)).drewN nq)):=((Below.refl _ w).alloc (Nat.le_refl _) (.cells #[.int .i64 ha,.int .i64 j] 30)).trans ⟨rfl,rfl,rfl,Nat.le_refl _,fun _ _=>rfl⟩
    have c7:((w.alloc (.cells #[.int .i64 ha,.int .i64 j] 30)).drewN nq).cell? ⟨w.heap.size,1,none⟩=some (.int .i64 j):=by
      exact alloc_cell w #[.int .i64 ha,.int .i64 j] 30 1 _ rfl
    clear c1 c2 c3 c4 c5 c6
    go_wp2
    generalize (w.alloc (.cells #[.int .i64 ha,.int .i64 j] 30)).drewN nq=W2 at *
    obtain ⟨c1,c2,c3,c4,c5⟩:=gn_cells (show GnW p W2 s from A2)
    have c6:=dep_cell (show GnW p W2 s from A2).hD hjL
    go_still_tail 8,(by kernel_rfl)
    change wpList _ _ _ _ _ W2.drew
    have A4:Aside (GnW p W2.drew s):=(show GnW p W2 s from A2).kept (fun b _=>rfl)
    have A5:Aside (Below w.heap.size w W2.drew):=(show Below w.heap.size w W2 from A3).trans ⟨rfl,rfl,rfl,Nat.le_refl _,fun _ _=>rfl⟩
    clear c1 c2 c3 c4 c5 c6 c7 A3 A2 A1
    generalize W2.drew=W3 at *
    obtain ⟨c1,c2,c3,c4,c5⟩:=gn_cells (show GnW p W3 s from A4)
    have c6:=dep_cell (show GnW p W3 s from A4).hD hjL
    obtain ⟨f1,f2⟩:=gn_thaw (show GnW p W3 s from A4)
    have f3:=f1 (p.o + j)
    obtain ⟨_,_,_,_,c8⟩:=gn_cells (gn_setD hp (show GnW p W3 s from A4) hjL p.depth)
    have A6:Aside (GnW p ((W3.setCell ⟨p.D,p.o + j,none⟩ (.int .i64 p.depth)).setCell ⟨p.ab,0,none⟩ (.bool true)) (s.1.set j p.depth,true)):=gn_setA hp (gn_setD hp (show GnW p W3 s from A4) hjL p.depth) true
    clear f1
    go_wp2
    go_ret
    have hs':s'=(s.1.set j p.depth,true):=by
      have h0:s'=if s.1.getD j 0 < 0 then (s.1.set j p.depth,true) else s:=A0
      rw [h0,if_pos (show s.1.getD j 0 < 0 from A7)]
    rw [hs']
    exact ⟨rfl,A6,((Fr.below (show Below w.heap.size w W3 from A5)).set _ (Or.inl rfl)).set _ (Or.inr rfl)⟩
  · have hnegd:decide (x < 0)=false:=decide_eq_false hneg
    have hs':s'=s:=by
      have h0:s'=if s.1.getD j 0 < 0 then (s.1.set j p.depth,true) else s:=A0
      rw [h0,if_neg (by rw [<-hx];exact hneg)]
    subst hs'
    clear hx
    go_enter Tryz.func90,Tryz.ntmps90
    go_wp2
    go_quiet (fail)
    go_wp2
    go_ret
    exact ⟨rfl,(show GnW p (w.alloc (.cells #[.int .i64 ha,.int .i64 j] 30)) s' from A1).kept (fun b _=>rfl),Fr.below (((Below.refl _ w).alloc (Nat.le_refl _) (.cells #[.int .i64 ha,.int .i64 j] 30)).trans ⟨rfl,rfl,rfl,Nat.le_refl _,fun _ _=>rfl⟩)⟩
end Go.Proofs.YtmlgfaojfmkdnaaGreatDoor.E
namespace Go.Proofs.YtmlgfaojfmkdnaaGreatDoor.E
open Go Go.Proofs Go.RowKit
set_option maxRecDepth 100000
set_option linter.unusedVariables false
/-! a region that draws its order, by what holds of the operations that are done -/
theorem region_inv {P:Program} {ops:Array Oper} {id:Nat} {a:Act} {w:World} {Q:Exit->Act->World->Prop} (J:Act->(Nat->Bool)->Act->World->Prop) (hm:P.follows .mixedOrders=true) (hb:backB ops.toList 0=true)
    (h0:J a (fun _=>false) a w.drew)
    (hs:∀ (L:Nat->Bool) (a':Act) (w':World) (i:Nat) (o:Oper),ops[i]?=some o->L i=false->(∀ j ∈ esOf o,L j=true)->J a L a' w'->wpOp P ops Q i (J a (fun k=>k == i || L k)) a' w')
    (he:∀ (L:Nat->Bool) (a':Act) (w':World),(∀ i,i < ops.size->L i=true)->J a L a' w'->Q .normal a' w'):(Code.region id ops true).wp P Q a w:=by
  refine wp_region_any hm ?_
  have key:∀ (fuel:Nat) (listed:Array Bool) (R:List Nat) (a':Act) (w':World),R.length=fuel->List.Pairwise (· < ·) R->(∀ j,j ∈ R ↔ listed.getD j true=false)->listed.size=ops.size →
      J a (fun k=>listed.getD k false) a' w'->wpAny P .any ops Q fuel listed a' w':=by
    intro fuel
    induction fuel with
    | zero =>
      intro listed R a' w' hl hp hm hsz hJ
      obtain rfl:R=[]:=List.length_eq_zero_iff.1 hl
      refine ⟨?_,he _ _ _ (fun i hi=>?_) hJ⟩
      · rw [List.eq_nil_iff_forall_not_mem]
        intro i hi
        rw [mem_ready] at hi
        have:=(hm i).2 hi.1
        cases this
      · cases hc:listed.getD i true
        · have:=(hm i).2 hc;cases this
        · rw [Array.getD_eq_getD_getElem?,Array.getElem?_eq_getElem (by omega)] at hc ⊢;exact hc
    | succ fuel ih =>
      intro listed R a' w' hl hp hm hsz hJ
      refine ⟨fun hr=>?_,fun i hi=>?_⟩
      · exfalso
        cases R with
        | nil=>cases hl
        | cons i0 R' =>
          rw [List.pairwise_cons] at hp
          have h0:=(hm i0).1 List.mem_cons_self
          have hlt:i0 < ops.size:=by rw [<-hsz];exact (getD_tf h0).2
          have ho:ops[i0]?=some ops[i0]:=by simp [hlt]
          have:i0 ∈ Region.ready .any ops listed:=mem_ready.2 ⟨h0,_,ho,fun j hj=>by
            have hlt:=backB_ok ops.toList 0 hb i0 _ (by simp [hlt]) j hj
            cases hc:listed.getD j false
            · exfalso
              have hjs:j < listed.size:=by omega
              have:listed.getD j true=false:=by
                rw [Array.getD_eq_getD_getElem?] at hc ⊢
                rw [Array.getElem?_eq_getElem hjs] at hc ⊢
                exact hc
              rcases List.mem_cons.1 ((hm j).2 this) with e | hjm
              · omega
              · have:=hp.1 j hjm;omega
            · rfl⟩
          rw [hr] at this;cases this
      · obtain ⟨h1,o,ho,hes⟩:=mem_ready.1 hi
        have hiR:=(hm i).2 h1
        have hnd:R.Nodup:=hp.imp fun h=>Nat.ne_of_lt h
        have his:i < listed.size:=(getD_tf h1).2
        refine wpOp_mono (fun a2 w2 hJ2=>?_) (hs (fun k=>listed.getD k false) a' w' i o ho (getD_tf h1).1 hes hJ)
        refine ih _ (R.erase i) a2 w2 (by rw [List.length_erase_of_mem hiR,hl];rfl) (hp.sublist List.erase_sublist) (fun j=>?_) (by simp [hsz]) ?_
        · rw [hnd.mem_erase_iff,hm j,setL]
          by_cases e:j=i
          · simp [e,his]
          · simp [e]
        · have e:(fun k=>(listed.setIfInBounds i true).getD k false)=fun k=>k == i || listed.getD k false:=by
            funext k
            rw [setL]
            by_cases e:k=i
            · simp [e,his]
            · simp [e]
          rw [e];exact hJ2
  exact key ops.size _ (List.range' 0 ops.size) a _ (by simp) List.pairwise_lt_range' (fun j=>by
    rw [List.mem_range'_1,Array.getD_eq_getD_getElem?]
    by_cases hj:j < ops.size
    · simp [hj]
    · simp [hj]) (by simp) (by
    have e:(fun k=>(Array.replicate ops.size false).getD k false)=fun _=>false:=by
      funext k
      rw [Array.getD_eq_getD_getElem?]
      by_cases hj:k < ops.size
      · simp [hj]
      · simp [hj]
    rw [e];exact h0)
/-- a slot that is set if its operation is done -/
def pif (a:Act) (b:Bool) (d:Nat) (v:Value):Act:=bif b then a.put (some d) v else a
theorem pif_false (a:Act) (d:Nat) (v:Value):pif a false d v=a:=rfl
theorem pif_true (a:Act) (d:Nat) (v:Value):pif a true d v=a.put (some d) v:=rfl
theorem put_put {a:Act} {d e:Nat} (h:d ≠ e) (v x:Value):(a.put (some d) v).put (some e) x=(a.put (some e) x).put (some d) v:=by
  simp only [Act.put]
  congr 1
  apply Array.ext_getElem?
  intro i
  simp only [Array.getElem?_setIfInBounds,Array.size_setIfInBounds]
  by_cases h1:e=i
  · by_cases h2:d=i
    · omega
    · simp [h1,h2]
  · by_cases h2:d=i
    · simp [h1,h2]
    · simp [h1,h2]
theorem put_pif {a:Act} {b:Bool} {d e:Nat} (h:d ≠ e) (v x:Value):(pif a b d v).put (some e) x=pif (a.put (some e) x) b d v:=by
  cases b
  · rfl
  · exact put_put h v x
theorem eval_put_same {a:Act} {d:Nat} {v:Value} (h:d < a.tmps.size):(a.put (some d) v).eval (.tmp d)=v:=by
  simp [Act.put,Act.eval,h]
theorem eval_put_other {a:Act} {d e:Nat} {v:Value} (h:d ≠ e):(a.put (some d) v).eval (.tmp e)=a.eval (.tmp e):=by
  simp [Act.put,Act.eval,h]
theorem eval_pif_other {a:Act} {b:Bool} {d e:Nat} {v:Value} (h:d ≠ e):(pif a b d v).eval (.tmp e)=a.eval (.tmp e):=by
  cases b
  · rfl
  · exact eval_put_other h
theorem eval_pif_same {a:Act} {d:Nat} {v:Value} (h:d < a.tmps.size):(pif a true d v).eval (.tmp d)=v:=eval_put_same h
theorem pif_size {a:Act} {b:Bool} {d:Nat} {v:Value}:(pif a b d v).tmps.size=a.tmps.size:=by
  cases b
  · rfl
  · simp [pif,Act.put]
/-- an act with the slots of the operations that are done -/
def ov (L:Nat->Bool):Nat->List (Nat × Value)->Act->Act
  | _,[],a=>a
  | i,p :: l,a=>ov L (i + 1) l (pif a (L i) p.1 p.2)
theorem ov_congr {L M:Nat->Bool}:∀ (l:List (Nat × Value)) (i:Nat) (a:Act),(∀ j,i<=j->j < i + l.length->L j=M j)->ov L i l a=ov M i l a
  | [],_,_,_=>rfl
  | p :: l,i,a,h=>by
    simp only [ov]
    rw [h i (Nat.le_refl _) (by simp),ov_congr l (i + 1) _ fun j h1 h2=>h j (by omega) (by simp only [List.length_cons];omega)]
theorem ov_put_out {L:Nat->Bool} {d:Nat} {v:Value}:∀ (l:List (Nat × Value)) (i:Nat) (a:Act),d ∉ l.map (·.1)->(ov L i l a).put (some d) v=ov L i l (a.put (some d) v)
  | [],_,_,_=>rfl
  | p :: l,i,a,h=>by
    simp only [List.map_cons,List.mem_cons,not_or] at h
    simp only [ov]
    rw [ov_put_out l (i + 1) _ h.2,put_pif (fun e=>h.1 e.symm)]
theorem ov_put {L:Nat->Bool} {d:Nat} {v:Value}:∀ (l:List (Nat × Value)) (i k:Nat) (a:Act),(l.map (·.1)).Nodup->l[k]?=some (d,v)->L (i + k)=false->(ov L i l a).put (some d) v=ov (fun j=>j == i + k || L j) i l a
  | [],_,_,_,_,h,_=>by simp at h
  | p :: l,i,0,a,hn,h,hL=>by
    obtain rfl:p=(d,v):=by simpa using h
    rw [List.map_cons,List.nodup_cons] at hn
    simp only [ov]
    have hL:L i=false:=hL
    rw [hL,pif_false,ov_put_out l (i + 1) _ hn.1,ov_congr (M:=fun j=>j == i + 0 || L j) l (i + 1) _ (fun j h1 h2=>by
      have:(j == i + 0)=false:=by rw [beq_eq_false_iff_ne];omega
      simp only [this,Bool.false_or])]
    simp [pif_true]
  | p :: l,i,k + 1,a,hn,h,hL=>by
    rw [List.map_cons,List.nodup_cons] at hn
    simp only [ov]
    have e:i + (k + 1)=i + 1 + k:=by omega
    rw [e] at hL ⊢
    rw [ov_put l (i + 1) k _ hn.2 (by simpa using h) hL]
    have:(i == i + 1 + k)=false:=by rw [beq_eq_false_iff_ne];omega
    rw [this,Bool.false_or]
theorem ov_eval_out {L:Nat->Bool} {d:Nat}:∀ (l:List (Nat × Value)) (i:Nat) (a:Act),d ∉ l.map (·.1)->(ov L i l a).eval (.tmp d)=a.eval (.tmp d)
  | [],_,_,_=>rfl
  | p :: l,i,a,h=>by
    simp only [List.map_cons,List.mem_cons,not_or] at h
    simp only [ov]
    rw [ov_eval_out l (i + 1) _ h.2,eval_pif_other (fun e=>h.1 e.symm)]
theorem ov_eval {L:Nat->Bool} {d:Nat} {v:Value}:∀ (l:List (Nat × Value)) (i k:Nat) (a:Act),(l.map (·.1)).Nodup->l[k]?=some (d,v)->L (i + k)=true->d < a.tmps.size->(ov L i l a).eval (.tmp d)=v
  | [],_,_,_,_,h,_,_=>by simp at h
  | p :: l,i,0,a,hn,h,hL,hd=>by
    obtain rfl:p=(d,v):=by simpa using h
    rw [List.map_cons,List.nodup_cons] at hn
    simp only [ov]
    have hL:L i=true:=hL
    rw [ov_eval_out l (i + 1) _ hn.1,hL]
    exact eval_pif_same hd
  | p :: l,i,k + 1,a,hn,h,hL,hd=>by
    rw [List.map_cons,List.nodup_cons] at hn
    simp only [ov]
    have e:i + (k + 1)=i + 1 + k:=by omega
    rw [e] at hL
    exact ov_eval l (i + 1) k _ hn.2 (by simpa using h) hL (by rw [pif_size];exact hd)
theorem wpOp_mk {P:Program} {ops:Array Oper} {Q:Exit->Act->World->Prop} {i:Nat} {o:Oper} {K:Act->World->Prop} {a:Act} {w:World} (ho:ops[i]?=some o) (hw:Region.wanted o (yielded ops a.tmps)=true) (h:o.wp P a w K Q):wpOp P ops Q i K a w:=by
  unfold wpOp
  rw [ho]
  simp only [hw,if_true]
  exact .inl h
/-- a guard that is so -/
theorem wanted_of {o:Oper} {ops:Array Oper} {a:Act} {j d:Nat} {oj:Oper} {b:Bool} (hg:o.guard=some (j,b)) (hj:ops[j]?=some oj) (hd:oj.dst=some d) (h:a.eval (.tmp d)=.bool b):Region.wanted o (yielded ops a.tmps)=true:=by
  unfold Region.wanted yielded
  rw [hg]
  simp only [hj,Option.bind_some,hd]
  have h:a.tmps.getD d undef=.bool b:=h
  rw [Array.getD_eq_getD_getElem?] at h
  cases hc:a.tmps[d]? with
  | none=>rw [hc] at h;cases h
  | some x=>rw [hc] at h;have h:x=.bool b:=h;subst h;simp
/-! single operations -/
section
variable {P:Program} {a:Act} {w:World} {Q:Exit->Act->World->Prop} {next:Act->World->Prop} {dst:Option Nat} {type:TypeId} {pos:String} {after:Array Edge} {guard:Option (Nat × Bool)}
theorem op_move {x:Operand} {v:Value} (h:a.eval x=v) (hn:next (a.put dst v) w):(⟨dst,.move x,type,pos,after,guard⟩:Oper).wp P a w next Q:=wp_value (v:=v) (w':=w) (by subst h;rfl) hn
theorem op_assign {x:Operand} {v:Value} (h:a.eval x=v) (hn:next (a.put dst v) w):(⟨dst,.assign x,type,pos,after,guard⟩:Oper).wp P a w next Q:=wp_value (v:=v) (w':=w) (by subst h;rfl) hn
theorem op_pick {c x y:Operand} {b:Bool} {v:Value} (hc:a.eval c=.bool b) (h:(if b=true then a.eval x else a.eval y)=v) (hn:next (a.put dst v) w):(⟨dst,.pick c x y,type,pos,after,guard⟩:Oper).wp P a w next Q :=
  wp_value (v:=v) (w':=w) (by subst h;simp only [execOp,hc];rfl) hn
theorem op_not {x:Operand} {t:TypeId} {b:Bool} (h:a.eval x=.bool b) (hn:next (a.put dst (.bool (!b))) w):(⟨dst,.unOp .not t x,type,pos,after,guard⟩:Oper).wp P a w next Q :=
  wp_value (v:=.bool (!b)) (w':=w) (by simp only [execOp,h];rfl) hn
theorem op_nil {x:Operand} {q:Addr} (h:a.eval x=.pointer (some q)) (hn:next (a.put dst (.pointer (some q))) w):(⟨dst,.nilCheck x,type,pos,after,guard⟩:Oper).wp P a w next Q :=
  wp_value (v:=.pointer (some q)) (w':=w) (by simp only [execOp,h];rfl) hn
theorem op_load {ty:Nat->Option Ty} {t:TypeId} {T:Ty} (ho:TyOk P ty t T) {x:Operand} {b o:Nat} {arr:Array Value} {et:TypeId} {fz:Nat × Nat} {cs:List Value} (h:a.eval x=.pointer (some ⟨b,o,none⟩)) (hb:w.heap[b]?=some (.cells arr et fz)) (hl:o + T.sz<=arr.size)
    (hs:seg arr.toList o T.sz=cs) (hn:next (a.put dst (valOf T cs)) w):(⟨dst,.load t x,type,pos,after,guard⟩:Oper).wp P a w next Q:=by
  refine wp_value (v:=valOf T cs) (w':=w) ?_ hn
  simp only [execOp,h]
  exact exec_value (by unfold Instr.loadAt;simp only [Instr.sureAddr,Sem.run_bind,pure_run,Result.andThen_ok];rw [<-hs];exact loadVar_run ho hb hl)
theorem op_field {ty:Nat->Option Ty} (hO:∀ t T,ty t=some T->TyOk P ty t T) {t:TypeId} {f:Ty} (ht:ty t=some (.st f)) {x:Operand} {n b o:Nat} (hn':n < f.len) (hz:0 < (fld f n).sz) (h:a.eval x=.pointer (some ⟨b,o,none⟩)) (hn:next (a.put dst (.pointer (some ⟨b,o + off f n,none⟩))) w) :
    (⟨dst,.fieldAddr t x n,type,pos,after,guard⟩:Oper).wp P a w next Q:=by
  refine wp_value (v:=.pointer (some ⟨b,o + off f n,none⟩)) (w':=w) ?_ hn
  simp only [execOp,h]
  exact exec_value (fieldAt_run hO ht hn' hz)
theorem op_call {f:Operand} {args:Array Operand} {tys:Array TypeId} {g:FuncId} {fi ca:Array Value} {fn:Func} {c:Code} {R:Ending->World->Prop} {vs:Array Value} (hf:a.eval f=.func (.func g) fi ca) (hv:fi ++ args.map a.eval ++ ca=vs) (hfn:P.funcs[g]?=some fn) (hname:(fn.name == "runtime.NumGoroutine")=false) (hb:fn.body=some c)
    (hc:Calls P g vs w R) (hn:∀ e w',R e w'->∃ v,e=.returned v/\next (a.put dst v) w'):(⟨dst,.call ⟨.value f,args,tys⟩,type,pos,after,guard⟩:Oper).wp P a w next Q:=by
  unfold Oper.wp
  subst hv
  rw [call_run hf,run_enter hfn hname hb,Oper.upon_enter]
  refine hc.mono fun e w' h=>?_
  obtain ⟨v,rfl,h2⟩:=hn e w' h
  exact h2
end
theorem args3 {a:Act} {x y z:Operand} {u v t:Value} (h1:a.eval x=u) (h2:a.eval y=v) (h3:a.eval z=t):(#[]:Array Value) ++ #[x,y,z].map a.eval ++ #[]=#[u,v,t]:=by subst h1 h2 h3;simp
theorem args2 {a:Act} {x y:Operand} {u v c1 c2 c3:Value} (h1:a.eval x=u) (h2:a.eval y=v):(#[]:Array Value) ++ #[x,y].map a.eval ++ #[c1,c2,c3]=#[u,v,c1,c2,c3]:=by subst h1 h2;simp
theorem args20 {a:Act} {x y:Operand} {u v:Value} (h1:a.eval x=u) (h2:a.eval y=v):(#[]:Array Value) ++ #[x,y].map a.eval ++ #[]=#[u,v]:=by subst h1 h2;simp
theorem args6 {a:Act} {x1 x2 x3 x4 x5 x6:Operand} {u1 u2 u3 u4 u5 u6:Value} (h1:a.eval x1=u1) (h2:a.eval x2=u2) (h3:a.eval x3=u3) (h4:a.eval x4=u4) (h5:a.eval x5=u5) (h6:a.eval x6=u6) :
    (#[]:Array Value) ++ #[x1,x2,x3,x4,x5,x6].map a.eval ++ #[]=#[u1,u2,u3,u4,u5,u6]:=by subst h1 h2 h3 h4 h5 h6;simp
/-! append, and what becomes of the elder row -/
theorem run_append_or {P:Program} (w:World) (base:Nat) (t ty e:TypeId) (i:TypeInfo) (z:Value) (size bytes:Nat) (ht:P.underlying t=some (.slice e)) (hi:P.info? e=some i) (hz:i.zero=some z)
    (hsize:i.size=size) (hby:i.bytes=bytes) (hzs:z.cells.size=size) (hsz:0 < size)
    (v:Value) (n:Nat) (xs:List Value) (hown:w.ownsRow base e size v n xs)
    (a:Addr) (m c:Nat) (news:List Value) (hl:news.length=m * size) (hnews:∀ j u,news[j]?=some u->w.cell? (a.add j)=some u) (h1:∀ u ∈ news,u.oneCell'=true)
    (h63:n + m<=maxLen) (hbytes:(n + m) * bytes<=140737488355328) (hbase:base<=w.heap.size) (hm0:0 < m) :
    ∃ v' w',(Builtin.append_ #[t,t] ty #[v,.slice (some a) m c]).run P w=.ok v' w'/\w'.ownsRow base e size v' (n + m) (xs ++ news) ∧
      ((w.grownBy w' none/\v'.ownBlock=some w.heap.size)\/∃ g cap,v=.slice (some ⟨g,0,none⟩) n cap/\v'=.slice (some ⟨g,0,none⟩) (n + m) cap/\w.grownBy w' (some g)):=by
  subst hsize
  subst hby
  have hsmall:n + m<=9223372036854775807:=by simp only [maxLen] at h63;omega
  have hlen:(xs ++ news).length=(n + m) * i.size:=by rw [List.length_append,hown.1,hl,Nat.add_mul]
  have grown:∀ (old:Nat),old < n + m->∀ (row:Option Nat),
      (w.drew.alloc (.cells (xs.toArray ++ news.toArray ++ Builtin.zeroCells z.cells (grownCap w (n + m) old e - (n + m))) e)).ownsRow base e i.size
        (.slice (some ⟨w.heap.size,0,none⟩) (n + m) (grownCap w (n + m) old e)) (n + m) (xs ++ news) ∧
      w.grownBy (w.drew.alloc (.cells (xs.toArray ++ news.toArray ++ Builtin.zeroCells z.cells (grownCap w (n + m) old e - (n + m))) e)) row:=by
    intro old ho row
    have hge:=grownCap_ge w (n + m) old e
    have hcm:grownCap w (n + m) old e<=maxLen:=grownCap_le_maxLen w (n + m) old e h63
    refine ⟨⟨hlen,.inr ⟨w.heap.size,_,_,rfl,hbase,heap_alloc_new w.drew _,hge,hcm,?_,?_⟩⟩,⟨rfl,rfl,rfl,by simp,fun k hk _=>by rw [alloc_get,if_neg (by show k ≠ w.heap.size;omega)];rfl⟩⟩
    · simp only [Array.size_append,List.size_toArray,size_zeroCells,hzs,hown.1,hl,<-Nat.add_mul]
      congr 1
      omega
    · simp only [Array.toList_append,List.append_assoc]
      rw [<-List.append_assoc,<-hlen]
      exact List.take_left
  rcases hown.2 with ⟨rfl,rfl⟩ | ⟨g,cap,cur,rfl,hbg,hg,hnc,hcm,hcs,htake⟩
  · have hx:xs=[]:=List.eq_nil_of_length_eq_zero (by simpa using hown.1)
    subst hx
    have hr:=run_append_nil (P:=P) w t ty e i z ht hi hz a m c news hl hnews (by omega) (by omega) (by have hb:=hbytes;simp only [Nat.zero_add] at hb;omega)
    have hgr:=grown 0 (by omega) none
    simp only [Nat.zero_add,List.nil_append,Array.empty_append] at hgr ⊢
    exact ⟨_,_,hr,hgr.1,Or.inl ⟨hgr.2,rfl⟩⟩
  · by_cases hroom:n + m<=cap
    · have hfit:n * i.size + news.length<=cur.size:=by rw [hl,hcs,<-Nat.add_mul];exact Nat.mul_le_mul_right _ hroom
      have hr:=run_append_room (P:=P) w t ty e i ht hi g n cap cur hg a m c news hl hnews h1 hroom hfit
      refine ⟨_,_,hr,⟨hlen,.inr ⟨g,cap,_,rfl,hbg,setRow_heap w g cur _ e _ hg,hroom,hcm,?_,?_⟩⟩,Or.inr ⟨g,cap,rfl,rfl,⟨rfl,rfl,rfl,by simp,fun k _ hk=>setRow_other w g k _ (fun e=>hk (by simp [e]))⟩⟩⟩
      · simp only [List.size_toArray,List.length_append,List.length_take,List.length_drop,Array.length_toList]
        omega
      · rw [htake,<-hlen]
        exact List.take_left
    · have holds:∀ j u,xs[j]?=some u->w.cell? ((⟨g,0,none⟩:Addr).add j)=some u:=hown.cells (g:=g) rfl
      have hr:=run_append_grow (P:=P) w t ty e i z ht hi hz ⟨g,0,none⟩ n cap xs hown.1 holds a m c news hl hnews (by omega) (by omega) (growslice_fits (by omega) hbytes)
      have hgr:=grown cap (by omega) none
      exact ⟨_,_,hr,hgr.1,Or.inl ⟨hgr.2,rfl⟩⟩
theorem row_kept {w w':World} {base e size n:Nat} {v:Value} {xs:List Value} (h:w.ownsRow base e size v n xs) (hk:∀ b,base<=b->b < w.heap.size->v.ownBlock=some b->w'.heap[b]?=w.heap[b]?):w'.ownsRow base e size v n xs:=by
  refine ⟨h.1,?_⟩
  rcases h.2 with h1 | ⟨g,cap,cur,rfl,h2,h3,h4⟩
  · exact .inl h1
  · exact .inr ⟨g,cap,cur,rfl,h2,by rw [hk g h2 (Array.getElem?_eq_some_iff.1 h3).1 rfl];exact h3,h4⟩
/-- the elder row stands where the younger lies in its block -/
theorem row_back {w:World} {base e size:Nat} {g cap n m:Nat} {xs news:List Value} (hl:xs.length=n * size) (h:w.ownsRow base e size (.slice (some ⟨g,0,none⟩) (n + m) cap) (n + m) (xs ++ news)):w.ownsRow base e size (.slice (some ⟨g,0,none⟩) n cap) n xs:=by
  rcases h.2 with ⟨h1,_⟩ | ⟨g',cap',cur,h1,h2,h3,h4,h5,h6,h7⟩
  · cases h1
  · injection h1 with h8 _ h9
    injection h8 with h8;injection h8 with h8
    subst h8;subst h9
    refine ⟨hl,.inr ⟨g,cap,cur,rfl,h2,h3,by omega,h5,h6,?_⟩⟩
    have e1:n * size<=(n + m) * size:=Nat.mul_le_mul_right _ (by omega)
    have:=congrArg (List.take (n * size)) h7
    rw [List.take_take,Nat.min_eq_left e1,<-hl,List.take_left] at this
    rw [<-hl];exact this
section
variable {P:Program} {a:Act} {w:World} {Q:Exit->Act->World->Prop} {next:Act->World->Prop} {dst:Option Nat} {type:TypeId} {pos:String} {after:Array Edge} {guard:Option (Nat × Bool)}
theorem op_build1 {ty:Nat->Option Ty} (hO:∀ t T,ty t=some T->TyOk P ty t T) {t:TypeId} {e:Ty} (ht:ty t=some (.sl e)) {z:SV} (hz:zeroSV e=some z) (hw:e.ownable=true) (hn:1 * e.sz<=4096) {x:Operand} {cs:List Value} (hx:a.eval x=valOf e cs)
    (hc:cs.length=e.sz/\(valOf e cs).cells=cs.toArray) (hn':∀ et,next (a.put dst (.slice (some ⟨w.heap.size,0,none⟩) 1 1)) (w.alloc (.cells cs.toArray et))):(⟨dst,.buildSlice t 1 #[(0,x)],type,pos,after,guard⟩:Oper).wp P a w next Q:=by
  obtain ⟨et,hr⟩:=run_buildS (w:=w) hO ht hz hw (n:=1) hn (parts:=#[(0,a.eval x)]) (css:=[cs]) (is:=[0]) (by simp [hx]) rfl rfl rfl (fun c h=>by rw [List.mem_singleton.1 h];exact hc)
  have e1:[cs].flatten=cs:=by simp
  rw [e1] at hr
  refine wp_value (v:=.slice (some ⟨w.heap.size,0,none⟩) 1 1) (w':=w.alloc (.cells cs.toArray et)) ?_ (hn' et)
  exact exec_value (by simpa using hr)
theorem op_append {s x:Operand} (base:Nat) (t e:TypeId) (i:TypeInfo) (z:Value) (size bytes:Nat) (ht:P.underlying t=some (.slice e)) (hi:P.info? e=some i) (hz:i.zero=some z)
    (hsize:i.size=size) (hby:i.bytes=bytes) (hzs:z.cells.size=size) (hsz:0 < size)
    (v:Value) (n:Nat) (xs:List Value) (hs:a.eval s=v) (hown:w.ownsRow base e size v n xs)
    (ad:Addr) (m c:Nat) (news:List Value) (hx:a.eval x=.slice (some ad) m c) (hl:news.length=m * size) (hnews:∀ j u,news[j]?=some u->w.cell? (ad.add j)=some u) (h1:∀ u ∈ news,u.oneCell'=true)
    (h63:n + m<=maxLen) (hbytes:(n + m) * bytes<=140737488355328) (hbase:base<=w.heap.size) (hm0:0 < m)
    (h:∀ v' w',w'.ownsRow base e size v' (n + m) (xs ++ news)->((w.grownBy w' none/\v'.ownBlock=some w.heap.size)\/∃ g cap,v=.slice (some ⟨g,0,none⟩) n cap/\v'=.slice (some ⟨g,0,none⟩) (n + m) cap/\w.grownBy w' (some g))->next (a.put dst v') w') :
    (⟨dst,.call ⟨.builtin .append,#[s,x],#[t,t]⟩,type,pos,after,guard⟩:Oper).wp P a w next Q:=by
  obtain ⟨v',w',hr,h2,h3⟩:=run_append_or (P:=P) w base t type e i z size bytes ht hi hz hsize hby hzs hsz v n xs hown ad m c news hl hnews h1 h63 hbytes hbase hm0
  unfold Oper.wp execOp
  simp only [resolve,invoke,builtin,Sem.run_bind,Sem.run_pure,Result.andThen_ok,List.map_toArray,List.map_cons,List.map_nil,hs,hx,hr]
  exact h v' w' h2 h3
end
end Go.Proofs.YtmlgfaojfmkdnaaGreatDoor.E
namespace Go.Proofs.YtmlgfaojfmkdnaaGreatDoor.E
open Go Go.Proofs Go.Proofs.YtmlgfaojfmkdnaaGreatDoor Go.RowKit
set_option maxRecDepth 100000
set_option maxHeartbeats 4000000
set_option linter.unusedVariables false
/-! reading what a generation holds -/
def cellsOf (l:List DFg):List Value:=l.flatMap fun f=>[.int .i64 f.1,.int .i64 f.2.1]
theorem cellsOf_len (l:List DFg):(cellsOf l).length=l.length * 2:=by
  induction l with
  | nil=>rfl
  | cons x l ih=>simp only [cellsOf,List.flatMap_cons,List.length_append,List.length_cons,List.length_nil] at ih ⊢;omega
theorem cellsOf_snoc (l:List DFg) (x:DFg):cellsOf (l ++ [x])=cellsOf l ++ [.int .i64 x.1,.int .i64 x.2.1]:=by simp [cellsOf]
theorem cellsOf_get:∀ (l:List DFg) (i:Nat) (y:DFg),l[i]?=some y->(cellsOf l)[i * 2]?=some (.int .i64 y.1)/\(cellsOf l)[i * 2 + 1]?=some (.int .i64 y.2.1)
  | [],i,y,h=>by simp at h
  | x :: l,0,y,h=>by
    obtain rfl:x=y:=by simpa using h
    exact ⟨rfl,rfl⟩
  | x :: l,i + 1,y,h=>by
    have:=cellsOf_get l i y (by simpa using h)
    have e1:(i + 1) * 2=(i * 2) + 2:=by omega
    rw [e1]
    simp only [cellsOf,List.flatMap_cons] at this ⊢
    rw [List.getElem?_append_right (by simp),List.getElem?_append_right (by simp)]
    simpa using this
theorem seg_two {l:List Value} {o:Nat} {a b:Value} (h1:l[o]?=some a) (h2:l[o + 1]?=some b):seg l o 2=[a,b]:=by
  apply List.ext_getElem?
  intro j
  rw [seg_get]
  rcases j with _ | _ | j
  · simpa using h1
  · simpa using h2
  · rw [if_neg (by omega)];simp
theorem rx_func {P:Program} {w:World} {S:Nat->Prop} (y:DFg):RX P tq0 false w S [.int .i64 y.1,.int .i64 y.2.1] y:=⟨[.int .i64 y.1],[.int .i64 y.2.1],rfl,rfl,⟨[.int .i64 y.2.1],[],rfl,rfl,rfl⟩⟩
theorem rx_row {P:Program} {w:World} {B:Nat} {v:Value} {now:List DFg} (h:w.ownsRow B 30 2 v now.length (cellsOf now)):RX P (.sl tq0) false w (fun b=>b < w.heap.size) [v] now:=by
  rcases h.2 with ⟨rfl,h1⟩ | ⟨g,cap,cur,rfl,h2,h3,h4,h5,h6,h7⟩
  · have:now=[]:=List.length_eq_zero_iff.1 h1
    subst this
    exact ⟨none,0,0,rfl,rfl,Nat.le_refl _,.inl rfl⟩
  · refine ⟨some ⟨g,0,none⟩,now.length,cap,rfl,rfl,h4,.inr ⟨g,0,cur,30,(0,0),rfl,(Array.getElem?_eq_some_iff.1 h3).1,h3,?_,fun i y hy=>?_⟩⟩
    · have:(tq0).sz=2:=rfl
      rw [this,h6];omega
    · have hs:(tq0).sz=2:=rfl
      rw [hs,Nat.zero_add]
      obtain ⟨c1,c2⟩:=cellsOf_get now i y hy
      have hi:i < now.length:=(List.getElem?_eq_some_iff.1 hy).1
      have key:∀ k,k < now.length * 2->cur.toList[k]?=(cellsOf now)[k]?:=fun k hk=>by
        rw [<-h7,List.getElem?_take,if_pos hk]
      rw [seg_two ((key (i * 2) (by omega)).trans c1) ((key (i * 2 + 1) (by omega)).trans c2)]
      exact rx_func y
theorem rx_dep {P:Program} {w:World} {D o L c:Nat} {tD:TypeId} {l:List Int} (hlc:L<=c) {S:Nat->Prop} (hS:S D) (h:DepW w D o L tD l):RX P (.sl (.int .i64)) false w S [.slice (some ⟨D,o,none⟩) L c] l:=by
  obtain ⟨arr,h1,h2,h3,h4⟩:=h
  refine ⟨some ⟨D,o,none⟩,L,c,rfl,h3.symm,hlc,.inr ⟨D,o,arr,tD,(0,0),rfl,hS,h1,?_,fun i y hy=>?_⟩⟩
  · have:(Ty.int .i64).sz=1:=rfl
    rw [this];omega
  · have hs:(Ty.int .i64).sz=1:=rfl
    rw [hs,Nat.mul_one,seg_one (by rw [Array.getElem?_toList];exact h4 i y hy)]
    rfl
theorem rx_gen {P:Program} {p:GnP} {w:World} {s:GSt} {S T:Nat->Prop} {list:List DFg} (hp:p.Ok) (hw:GnW p w s) (hl:RX P (.sl tq0) false w T [p.lv] list) (hT:∀ b,T b->b < w.heap.size->S b) (hS:∀ b,S b->b < w.heap.size) (hD:S p.D) :
    RX P tq2 false w S [p.lv,.int .i64 p.n,.slice (some ⟨p.D,p.o,none⟩) p.L p.c] (list,p.n,s.1,()) :=
  ⟨[p.lv],_,rfl,RX_congr P (.sl tq0) false (Nat.le_refl _) (fun b h1 h2=>⟨hT b h1 h2,rfl⟩) hS hl,[.int .i64 p.n],_,rfl,rfl,[.slice (some ⟨p.D,p.o,none⟩) p.L p.c],[],rfl,rx_dep hp.lc hD hw.hD,rfl⟩
theorem gcalls {f:Nat} {A R:Ty} {F:den A->Option (den R)} {mu:List Bool} {fn:Func} {c:Code} (h:FnOk Tryz.prog f ⟨A,mu,R,F⟩) (hm:mu.any id=false) (hf:Tryz.prog.funcs[f]?=some fn) (hname:(fn.name == "runtime.NumGoroutine")=false) (hb:fn.body=some c)
    (w:World) (vs:List Value) (x:den A) (y:den R) (hx:RX Tryz.prog A true w (fun b=>b < w.heap.size) vs x) (hy:F x=some y):Calls Tryz.prog f vs.toArray w fun e w'=>∃ v,e=.returned v/\Ret R y w v w' :=
  ((h.plain hm) w vs x y hx hy).calls hf hname hb
/-- the blocks that a generation reads and does not change -/
def GnP.S (p:GnP) (B:Nat) (b:Nat):Prop:=b < B/\b ≠ p.D/\b ≠ p.ab
/-- a box that is read as long as it lies -/
theorem rx_ptr {P:Program} {T:Ty} {w:World} {S:Nat->Prop} {b:Nat} {cs:List Value} {t:TypeId} {x:den T} (hb:w.heap[b]?=some (.cells cs.toArray t (0,0))) (hS:S b) (hx:RX P T false w S cs x):RX P (.ptr T) false w S [.pointer (some ⟨b,0,none⟩)] x:=by
  have hl:=RX_len P T w S cs x hx
  refine ⟨b,0,cs.toArray,t,(0,0),rfl,hS,hb,by simp [hl],?_⟩
  have e1:seg cs.toArray.toList 0 T.sz=cs:=by simp [seg,<-hl]
  rw [e1];exact hx
theorem put_calls (K:Nat) {w:World} {B:Nat} {v:Value} {now:List DFg} (h:w.ownsRow B 30 2 v now.length (cellsOf now)) (f:DFg) (n:Int) (y:DFg) (hy:i_Func_put K (f,n,now,())=some y) :
    Calls Tryz.prog 161 #[.agg #[.int .i64 f.1,.int .i64 f.2.1],.int .i64 n,v] w fun e w'=>e=.returned (.agg #[.int .i64 y.1,.int .i64 y.2.1])/\Below w.heap.size w w':=by
  refine (gcalls (ok_i_Func_put K) rfl Tryz.func161 (by kernel_rfl) (c:=bodyOf Tryz.f161) (by kernel_rfl) w [.agg #[.int .i64 f.1,.int .i64 f.2.1],.int .i64 n,v] (f,n,now,()) y ?_ hy).mono ?_
  · exact ⟨[.int .i64 f.1,.int .i64 f.2.1],[.int .i64 n,v],rfl,rx_func f,[.int .i64 n],[v],rfl,rfl,[v],[],rfl,rx_row h,rfl⟩
  · rintro e w' ⟨v,rfl,bs,⟨cs,h0,h1⟩,h3,h4,h5⟩
    refine ⟨?_,h5⟩
    obtain ⟨c1,c2,b1,b2,rfl,rfl,⟨rfl,_⟩,c3,c4,b3,b4,rfl,rfl,⟨rfl,_⟩,rfl,_⟩:=h1
    cases h0
    rfl
theorem new_calls (K:Nat) (p:GnP) (hp:p.Ok) {w:World} {B:Nat} {v:Value} {now list:List DFg} {s:GSt} {b6 b10:Nat} {fzn:Bool} (hw:GnW p w s) (hl:RX Tryz.prog (.sl tq0) false w (p.S B) [p.lv] list) (hB:B<=w.heap.size) (h:w.ownsRow B 30 2 v now.length (cellsOf now))
    (h6:w.heap[b6]?=some (.cells #[.pointer (some ⟨p.G,0,none⟩)] 63 (0,0))) (h10:w.heap[b10]?=some (.cells #[.int .i64 p.depth] 2 (0,0)))
    (hy:slices_ContainsFunc_impl_Func K (now,(fun y=>i_generated_steps_c1 K (y.1,(list,p.n,s.1,()),p.depth,())),())=some fzn) :
    Calls Tryz.prog 84 #[v,.func (.func 160) #[] #[.pointer (some ⟨b6,0,none⟩),.pointer (some ⟨b10,0,none⟩)]] w fun e w'=>e=.returned (.bool fzn)/\Below w.heap.size w w':=by
  refine (gcalls (ok_slices_ContainsFunc_impl_Func K) rfl Tryz.func84 (by kernel_rfl) (c:=bodyOf Tryz.f84) (by kernel_rfl) w [v,.func (.func 160) #[] #[.pointer (some ⟨b6,0,none⟩),.pointer (some ⟨b10,0,none⟩)]] (now,_,()) fzn ?_ hy).mono ?_
  · refine ⟨[v],[.func (.func 160) #[] #[.pointer (some ⟨b6,0,none⟩),.pointer (some ⟨b10,0,none⟩)]],rfl,rx_row h,[.func (.func 160) #[] #[.pointer (some ⟨b6,0,none⟩),.pointer (some ⟨b10,0,none⟩)]],[],rfl,?_,rfl⟩
    refine ⟨160,#[],#[.pointer (some ⟨b6,0,none⟩),.pointer (some ⟨b10,0,none⟩)],rfl,fun _ h=>h,fun w' hsz hk vs x y hx hy=>?_⟩
    obtain ⟨c,r,rfl,hc,hr⟩:=hx
    have hr:r=[]:=hr
    subst hr
    have hw':GnW p w' s:=hw.kept fun b hb=>hk b (hw.lt b hb)
    have hl':RX Tryz.prog (.sl tq0) false w' (p.S B) [p.lv] list:=RX_congr _ (.sl tq0) false hsz (fun b h1 h2=>⟨h1,hk b h2⟩) (fun b h1=>Nat.lt_of_lt_of_le h1.1 (Nat.le_trans hB hsz)) hl
    have l6:=(Array.getElem?_eq_some_iff.1 h6).1
    have l10:=(Array.getElem?_eq_some_iff.1 h10).1
    have k6:w'.heap[b6]?=some (.cells [Value.pointer (some ⟨p.G,0,none⟩)].toArray 63 (0,0)):=(hk b6 l6).trans h6
    have k10:w'.heap[b10]?=some (.cells [Value.int .i64 p.depth].toArray 2 (0,0)):=(hk b10 l10).trans h10
    have hG:=hw'.hG
    refine ((ok_i_generated_steps_c1 K).plain rfl) w' [valOf tq0 c,.pointer (some ⟨b6,0,none⟩),.pointer (some ⟨b10,0,none⟩)] (x.1,(list,p.n,s.1,()),p.depth,()) y ?_ hy
    refine ⟨c,_,rfl,hc,[.pointer (some ⟨b6,0,none⟩)],[.pointer (some ⟨b10,0,none⟩)],rfl,?_,[.pointer (some ⟨b10,0,none⟩)],[],rfl,?_,rfl⟩
    · refine rx_ptr k6 (by show b6 < w'.heap.size;omega) (rx_ptr (cs:=[p.lv,.int .i64 p.n,.slice (some ⟨p.D,p.o,none⟩) p.L p.c]) hG (hw'.lt _ (by simp)) ?_)
      exact rx_gen hp hw' hl' (fun b _ h=>h) (fun _ h=>h) (hw'.lt _ (by simp))
    · exact rx_ptr k10 (by show b10 < w'.heap.size;omega) rfl
  · rintro e w' ⟨v,rfl,bs,⟨cs,h0,h1,h2⟩,h3,h4,h5⟩
    have h1:cs=[.bool fzn]:=h1
    subst h1
    cases h0
    exact ⟨rfl,h5⟩
end Go.Proofs.YtmlgfaojfmkdnaaGreatDoor.E
namespace Go.Proofs.YtmlgfaojfmkdnaaGreatDoor.E
open Go Go.Proofs Go.Proofs.YtmlgfaojfmkdnaaGreatDoor Go.RowKit
set_option maxRecDepth 100000
set_option maxHeartbeats 8000000
set_option linter.unusedVariables false
/-- the arguments of steps -/
def stepArgs (p:GnP) (f:DFg) (kv v:Value):Array Value:=#[.pointer (some ⟨p.G,0,none⟩),.agg #[.int .i64 f.1,.int .i64 f.2.1],kv,v,.int .i64 p.depth,.func (.func 90) #[] #[.pointer (some ⟨p.gb,0,none⟩),.pointer (some ⟨p.db,0,none⟩),.pointer (some ⟨p.ab,0,none⟩)]]
def StepsW (p:GnP) (B:Nat) (now:List DFg) (v:Value) (s':GSt) (w:World) (e:Ending) (w':World):Prop:=e=.returned (.bool true)/\GnW p w' s'/\w'.ownsRow B 30 2 v now.length (cellsOf now)/\Fr p v.ownBlock w w'
def StepsC (K:Nat) (p:GnP) (list:List DFg) (f:DFg) (known:List DFg) (kv:Value) (B m:Nat):Prop:=∀ (now:List DFg) (v:Value) (w:World) (s s':GSt),GnW p w s->RX Tryz.prog (.sl tq0) false w (p.S B) [p.lv] list->RX Tryz.prog (.sl tq0) false w (p.S B) [kv] known →
  w.ownsRow B 30 2 v now.length (cellsOf now)->B<=w.heap.size->stepsF K list p.n f known p.depth m now s=some s'->Calls Tryz.prog 89 (stepArgs p f kv v) w (StepsW p B now v s' w)
/-- the boxes of a call of steps -/
structure BoxW (p:GnP) (f:DFg) (w0 w:World):Prop where
  h6:w.heap[w0.heap.size]?=some (.cells #[.pointer (some ⟨p.G,0,none⟩)] 63 (0,0))
  h7:w.heap[w0.heap.size + 1]?=some (.cells #[.int .i64 f.1,.int .i64 f.2.1] 30 (0,0))
  h10:w.heap[w0.heap.size + 1 + 1]?=some (.cells #[.int .i64 p.depth] 2 (0,0))
theorem BoxW.cells {p:GnP} {f:DFg} {w0 w:World} (h:BoxW p f w0 w):w.cell? ⟨w0.heap.size,0,none⟩=some (.pointer (some ⟨p.G,0,none⟩))/\w.cell? ⟨w0.heap.size + 1,0,none⟩=some (.int .i64 f.1)/\w.cell? ⟨w0.heap.size + 1,1,none⟩=some (.int .i64 f.2.1)/\w.cell? ⟨w0.heap.size + 1 + 1,0,none⟩=some (.int .i64 p.depth) :=
  ⟨by simp [World.cell?,h.h6],by simp [World.cell?,h.h7],by simp [World.cell?,h.h7],by simp [World.cell?,h.h10]⟩
theorem BoxW.made (p:GnP) (f:DFg) (w:World):BoxW p f w (((w.alloc (.cells #[.pointer (some ⟨p.G,0,none⟩)] 63)).alloc (.cells #[.int .i64 f.1,.int .i64 f.2.1] 30)).alloc (.cells #[.int .i64 p.depth] 2)):=by
  refine ⟨?_,?_,?_⟩
  · rw [alloc_get,if_neg (by simp;omega),alloc_get,if_neg (by simp),alloc_get,if_pos rfl]
  · rw [alloc_get,if_neg (by simp),alloc_get,if_pos (by simp)]
  · rw [alloc_get,if_pos (by simp)]
theorem BoxW.kept {p:GnP} {f:DFg} {w0 w w':World} (h:BoxW p f w0 w) (hk:∀ b,w0.heap.size<=b->b < w0.heap.size + 3->w'.heap[b]?=w.heap[b]?):BoxW p f w0 w' :=
  ⟨by rw [hk _ (by omega) (by omega)];exact h.h6,by rw [hk _ (by omega) (by omega)];exact h.h7,by rw [hk _ (by omega) (by omega)];exact h.h10⟩
theorem made3_below (w:World) (o1 o2 o3:Obj):Below w.heap.size w (((w.alloc o1).alloc o2).alloc o3):=(((Below.refl _ w).alloc (Nat.le_refl _) o1).alloc (by simp) o2).alloc (by simp;omega) o3
/-- the slots of the region that calls put and each -/
def zl (p:GnP) (f y:DFg) (v:Value):List (Nat × Value):=[(28,.bool true),(29,.bool false),(30,.bool false),(31,.func (.func 90) #[] #[.pointer (some ⟨p.gb,0,none⟩),.pointer (some ⟨p.db,0,none⟩),.pointer (some ⟨p.ab,0,none⟩)]),
  (32,.agg #[.int .i64 f.1,.int .i64 f.2.1]),(33,.pointer (some ⟨p.G,0,none⟩)),(34,.pointer (some ⟨p.G,0,none⟩)),(35,.pointer (some ⟨p.G,1,none⟩)),(36,.int .i64 p.n),(37,v),(38,.agg #[.int .i64 y.1,.int .i64 y.2.1]),(39,v),(40,.bool true),(41,.bool true),(12,.bool true)]
theorem zl_dst (p:GnP) (f y:DFg) (v:Value):(zl p f y v).map (·.1)=[28,29,30,31,32,33,34,35,36,37,38,39,40,41,12]:=rfl
theorem zl_nd (p:GnP) (f y:DFg) (v:Value):((zl p f y v).map (·.1)).Nodup:=by rw [zl_dst];decide
def ZJ (p:GnP) (f y:DFg) (v:Value) (s s':GSt) (W2:World) (a0:Act) (L:Nat->Bool) (a:Act) (w:World):Prop:=a=ov L 0 (zl p f y v) a0/\GnW p w (if L 12=true then s' else s)/\Fr p none W2 w
theorem ZJ.quiet {p:GnP} {f y:DFg} {v:Value} {s s':GSt} {W2:World} {a0:Act} {L:Nat->Bool} {w':World} {k d:Nat} {x:Value} (hk:(zl p f y v)[k]?=some (d,x)) (hL:L k=false) (hk12:k ≠ 12) (hg:GnW p w' (if L 12=true then s' else s)) (hf:Fr p none W2 w') :
    ZJ p f y v s s' W2 a0 (fun j=>j == k || L j) ((ov L 0 (zl p f y v) a0).put (some d) x) w':=by
  have e:(12 == k)=false:=by rw [beq_eq_false_iff_ne];omega
  refine ⟨?_,?_,hf⟩
  · rw [ov_put (zl p f y v) 0 k a0 (zl_nd ..) hk (by rw [Nat.zero_add];exact hL),Nat.zero_add]
  · simp only [e,Bool.false_or];exact hg
theorem steps_zero (K:Nat) (p:GnP) (hp:p.Ok) (list:List DFg) (f:DFg) (known:List DFg) (kv:Value) (B m:Nat) (now:List DFg) (v:Value) (w:World) (s s':GSt) (hw:GnW p w s) (hl:RX Tryz.prog (.sl tq0) false w (p.S B) [p.lv] list)
    (hrow:w.ownsRow B 30 2 v now.length (cellsOf now)) (hB:B<=w.heap.size) (hPB:∀ b,b=p.G\/b=p.gb\/b=p.db\/b=p.ab\/b=p.D->b < B) (hlen:(now.length:Int)=f.1)
    (h:((isNewF K list p.n p.depth now s).bind fun b=>if b=true then (i_Func_put K (f,p.n,now,())).bind fun h=>eachF p.depth h s else some s)=some s'):Calls Tryz.prog 89 (stepArgs p f kv v) w (StepsW p B now v s' w):=by
  unfold stepArgs
  have hlenv:∃ a c,v=.slice a now.length c:=by
    rcases hrow.2 with ⟨h1,h2⟩ | ⟨g,cap,cur,h1,_⟩
    · exact ⟨none,0,by rw [h1,h2]⟩
    · exact ⟨_,_,h1⟩
  have hDB:p.D < B/\p.ab < B:=⟨hPB _ (by simp),hPB _ (by simp)⟩
  obtain ⟨va,vc,hv⟩:=hlenv
  obtain ⟨nb,hnb,h⟩:∃ nb,isNewF K list p.n p.depth now s=some nb/\(if nb=true then (i_Func_put K (f,p.n,now,())).bind fun h=>eachF p.depth h s else some s)=some s':=by
    cases hc:isNewF K list p.n p.depth now s with
    | none=>rw [hc] at h;cases h
    | some nb=>rw [hc] at h;exact ⟨nb,rfl,h⟩
  have hb1:=made3_below w (.cells #[.pointer (some ⟨p.G,0,none⟩)] 63) (.cells #[.int .i64 f.1,.int .i64 f.2.1] 30) (.cells #[.int .i64 p.depth] 2)
  have hbx:=BoxW.made p f w
  obtain ⟨W1,hW1⟩:∃ W1,W1=(((w.alloc (.cells #[.pointer (some ⟨p.G,0,none⟩)] 63)).alloc (.cells #[.int .i64 f.1,.int .i64 f.2.1] 30)).alloc (.cells #[.int .i64 p.depth] 2)):=⟨_,rfl⟩
  rw [<-hW1] at hb1 hbx
  have hs1:W1.heap.size=w.heap.size + 1 + 1 + 1:=by rw [hW1];simp
  have hw1:=hw.below hb1 (Nat.le_refl _)
  have hl1:RX Tryz.prog (.sl tq0) false W1 (p.S B) [p.lv] list:=RX_congr _ (.sl tq0) false hb1.size (fun b h1 h2=>⟨h1,hb1.block b h2⟩) (fun b h1=>Nat.lt_of_lt_of_le h1.1 (Nat.le_trans hB hb1.size)) hl
  have hrow1:W1.ownsRow B 30 2 v now.length (cellsOf now):=hrow.kept (row:=none) ⟨hb1.os,hb1.tape,hb1.output,hb1.size,fun k hk _=>hb1.block k hk⟩ (by cases v.ownBlock <;> simp)
  -- what stands ahead of the third region, and the test of what is new
  have hnew:p.depth ≠ 1->Calls Tryz.prog 84 #[v,.func (.func 160) #[] #[.pointer (some ⟨w.heap.size,0,none⟩),.pointer (some ⟨w.heap.size + 1 + 1,0,none⟩)]] W1 fun e w'=>e=.returned (.bool nb)/\Below W1.heap.size W1 w':=fun hd=>by
    unfold isNewF at hnb
    rw [if_neg hd] at hnb
    exact new_calls K p hp hw1 hl1 (Nat.le_trans hB hb1.size) hrow1 hbx.h6 hbx.h10 hnb
  have hnd:p.depth=1->nb=true:=fun hd=>by
    unfold isNewF at hnb
    rw [if_pos hd] at hnb
    injection hnb with hnb;exact hnb.symm
  obtain ⟨c6,c7,c8,c10⟩:=hbx.cells
  have e1:((now.length:Int) == f.1)=true:=by rw [beq_iff_eq];exact hlen
  have A0:Aside (BoxW p f w W1):=hbx
  have A1:Aside (nb=true->∃ y,i_Func_put K (f,p.n,now,())=some y/\eachF p.depth y s=some s'):=fun hn=>by
    rw [if_pos hn] at h
    cases hc:i_Func_put K (f,p.n,now,()) with
    | none=>rw [hc] at h;cases h
    | some y=>rw [hc] at h;exact ⟨y,rfl,h⟩
  have A2:Aside (nb=false->s'=s):=fun hn=>by
    rw [if_neg (by rw [hn];decide)] at h
    injection h with h;exact h.symm
  have A3:Aside (Below w.heap.size w W1):=hb1
  have A4:Aside (W1.heap.size=w.heap.size + 1 + 1 + 1):=hs1
  have A5:Aside (W1.ownsRow B 30 2 v now.length (cellsOf now)):=hrow1
  have A6:Aside (GnW p W1 s):=hw1
  clear hbx h hlen hb1 hs1 hnb
  subst hv
  subst hW1
  have hcases:p.depth=1/\nb=true\/p.depth ≠ 1/\nb=true\/p.depth ≠ 1/\nb=false:=by
    by_cases hd:p.depth=1
    · exact Or.inl ⟨hd,hnd hd⟩
    · cases nb
      · exact Or.inr (Or.inr ⟨hd,rfl⟩)
      · exact Or.inr (Or.inl ⟨hd,rfl⟩)
  clear hnd
  rcases hcases with ⟨hd,rfl⟩ | ⟨hd,rfl⟩ | ⟨hd,rfl⟩
  · have e2:(p.depth == 1)=true:=by rw [beq_iff_eq];exact hd
    clear hd hnew
    obtain ⟨y,A7⟩:∃ y,Aside (i_Func_put K (f,p.n,now,())=some y/\eachF p.depth y s=some s'):=(show true=true->_ from A1) rfl
    go_enter Tryz.func89,Tryz.ntmps89
    go_wp2
    have A8:Aside (∀ b,b=p.D\/b=p.ab->b < w.heap.size):=fun b hb=>hw.lt b (by rcases hb with h | h <;> simp [h])
    have T2:Aside (GnW p _ s/\BoxW p f w _/\World.ownsRow _ B 30 2 _ now.length (cellsOf now)/\Below w.heap.size w _):=⟨A6,A0,A5,A3⟩
    clear c6 c7 c8 c10 A0 A3 A4 A5 A6 A1 A2 hl1 hw1 hrow1 hl hrow hw
    generalize (((w.alloc (.cells #[.pointer (some ⟨p.G,0,none⟩)] 63)).alloc (.cells #[.int .i64 f.1,.int .i64 f.2.1] 30)).alloc (.cells #[.int .i64 p.depth] 2))=W2 at *
    obtain ⟨hg2,hbx2,hrow2,hb2⟩:=(show GnW p W2 s/\BoxW p f w W2/\W2.ownsRow B 30 2 _ now.length (cellsOf now)/\Below w.heap.size w W2 from T2)
    refine region_inv (ZJ p f y (.slice va now.length vc) s s' W2) (by kernel_rfl) (by kernel_rfl) ⟨rfl,hg2.kept (fun b _=>rfl),⟨rfl,rfl,rfl,Nat.le_refl _,fun _ _ _ _ _=>rfl⟩⟩ ?_ ?_
    · intro L a2 w2 i o ho hL hes hJ
      obtain ⟨rfl,hg,hf⟩:=hJ
      have hi:i < 15:=(Array.getElem?_eq_some_iff.1 ho).1
      have hbx3:BoxW p f w w2:=hbx2.kept fun b h1 h2=>hf.block b (by have:=(Array.getElem?_eq_some_iff.1 hbx2.h10).1;omega) (fun e=>by have:=(show ∀ b,b=p.D\/b=p.ab->b < w.heap.size from A8) b (Or.inl e);omega) (fun e=>by have:=(show ∀ b,b=p.D\/b=p.ab->b < w.heap.size from A8) b (Or.inr e);omega) (by simp)
      have hrow3:w2.ownsRow B 30 2 (.slice va now.length vc) now.length (cellsOf now):=row_kept hrow2 fun b h1 h2 _=>hf.block b h2 (by have:=hDB.1;omega) (by have:=hDB.2;omega) (by simp)
      have hcs:i=0\/i=1\/i=2\/i=3\/i=4\/i=5\/i=6\/i=7\/i=8\/i=9\/i=10\/i=11\/i=12\/i=13\/i=14:=by omega
      rcases hcs with rfl | rfl | rfl | rfl | rfl | rfl | rfl | rfl | rfl | rfl | rfl | rfl | rfl | rfl | rfl
      all_goals simp only [List.getElem?_toArray,List.getElem?_cons_succ,List.getElem?_cons_zero,Option.some.injEq] at ho
      all_goals subst ho
      · exact wpOp_mk rfl rfl (op_move (ov_eval_out _ _ _ (by rw [zl_dst];decide)) (ZJ.quiet rfl hL (by decide) hg hf))
      · exact wpOp_mk rfl rfl (op_not (ov_eval _ 0 0 _ (zl_nd ..) rfl (hes 0 (by decide)) (by simp)) (ZJ.quiet rfl hL (by decide) hg hf))
      · exact wpOp_mk rfl rfl (op_move (ov_eval _ 0 1 _ (zl_nd ..) rfl (hes 1 (by decide)) (by simp)) (ZJ.quiet rfl hL (by decide) hg hf))
      · exact wpOp_mk rfl (wanted_of (d:=30) rfl rfl rfl (ov_eval _ 0 2 _ (zl_nd ..) rfl (hes 2 (by decide)) (by simp))) (op_move (ov_eval_out _ _ _ (by rw [zl_dst];decide)) (ZJ.quiet rfl hL (by decide) hg hf))
      · exact wpOp_mk rfl (wanted_of (d:=30) rfl rfl rfl (ov_eval _ 0 2 _ (zl_nd ..) rfl (hes 2 (by decide)) (by simp))) (op_load (tysOk 30 tq0 rfl) (ov_eval_out _ _ _ (by rw [zl_dst];decide)) hbx3.h7 (show 2<=2 from Nat.le_refl 2) rfl (ZJ.quiet rfl hL (by decide) hg hf))
      · exact wpOp_mk rfl (wanted_of (d:=30) rfl rfl rfl (ov_eval _ 0 2 _ (zl_nd ..) rfl (hes 2 (by decide)) (by simp))) (op_load (tysOk 63 (.ptr tq2) rfl) (ov_eval_out _ _ _ (by rw [zl_dst];decide)) hbx3.h6 (show 1<=1 from Nat.le_refl 1) rfl (ZJ.quiet rfl hL (by decide) hg hf))
      · exact wpOp_mk rfl (wanted_of (d:=30) rfl rfl rfl (ov_eval _ 0 2 _ (zl_nd ..) rfl (hes 2 (by decide)) (by simp))) (op_nil (ov_eval _ 0 5 _ (zl_nd ..) rfl (hes 5 (by decide)) (by simp)) (ZJ.quiet rfl hL (by decide) hg hf))
      · exact wpOp_mk rfl (wanted_of (d:=30) rfl rfl rfl (ov_eval _ 0 2 _ (zl_nd ..) rfl (hes 2 (by decide)) (by simp))) (op_field tysOk (t:=102) (n:=1) rfl (by decide) (by decide) (ov_eval _ 0 6 _ (zl_nd ..) rfl (hes 6 (by decide)) (by simp)) (ZJ.quiet rfl hL (by decide) hg hf))
      · exact wpOp_mk rfl (wanted_of (d:=30) rfl rfl rfl (ov_eval _ 0 2 _ (zl_nd ..) rfl (hes 2 (by decide)) (by simp))) (op_load (tysOk 2 (.int .i64) rfl) (ov_eval _ 0 7 _ (zl_nd ..) rfl (hes 7 (by decide)) (by simp)) hg.hG (show 2<=3 by decide) rfl (ZJ.quiet rfl hL (by decide) hg hf))
      · exact wpOp_mk rfl (wanted_of (d:=30) rfl rfl rfl (ov_eval _ 0 2 _ (zl_nd ..) rfl (hes 2 (by decide)) (by simp))) (op_move (ov_eval_out _ _ _ (by rw [zl_dst];decide)) (ZJ.quiet rfl hL (by decide) hg hf))
      · refine wpOp_mk rfl (wanted_of (d:=30) rfl rfl rfl (ov_eval _ 0 2 _ (zl_nd ..) rfl (hes 2 (by decide)) (by simp))) (op_call (fi:=#[]) (ca:=#[]) rfl ?_ Tryz.func161 (by kernel_rfl) (c:=bodyOf Tryz.f161) (by kernel_rfl) (put_calls K hrow3 f p.n y A7.1) ?_)
        · exact args3 (ov_eval _ 0 4 _ (zl_nd ..) rfl (hes 4 (by decide)) (by simp)) (ov_eval _ 0 8 _ (zl_nd ..) rfl (hes 8 (by decide)) (by simp)) (ov_eval _ 0 9 _ (zl_nd ..) rfl (hes 9 (by decide)) (by simp))
        · rintro e w4 ⟨rfl,hb4⟩
          refine ⟨_,rfl,ZJ.quiet rfl hL (by decide) (hg.below hb4 (Nat.le_refl _)) (hf.trans (Fr.below hb4))⟩
      · exact wpOp_mk rfl (wanted_of (d:=30) rfl rfl rfl (ov_eval _ 0 2 _ (zl_nd ..) rfl (hes 2 (by decide)) (by simp))) (op_move (ov_eval_out _ _ _ (by rw [zl_dst];decide)) (ZJ.quiet rfl hL (by decide) hg hf))
      · refine wpOp_mk rfl (wanted_of (d:=30) rfl rfl rfl (ov_eval _ 0 2 _ (zl_nd ..) rfl (hes 2 (by decide)) (by simp))) (op_call (ov_eval _ 0 3 _ (zl_nd ..) rfl (hes 3 (by decide)) (by simp)) (args2 (ov_eval _ 0 10 _ (zl_nd ..) rfl (hes 10 (by decide)) (by simp)) (ov_eval _ 0 11 _ (zl_nd ..) rfl (hes 11 (by decide)) (by simp))) Tryz.func90 (by kernel_rfl) (c:=bodyOf Tryz.f90) (by kernel_rfl) (each_calls p hp w2 y.1 y.2.1 _ s s' (by rw [if_neg (by rw [hL];decide)] at hg;exact hg) A7.2) ?_)
        rintro e w4 ⟨rfl,hg4,hf4⟩
        exact ⟨_,rfl,(ov_put _ 0 12 _ (zl_nd ..) rfl hL).trans rfl,by simpa using hg4,hf.trans hf4⟩
      · exact wpOp_mk rfl rfl (op_pick (ov_eval _ 0 2 _ (zl_nd ..) rfl (hes 2 (by decide)) (by simp)) ((if_neg (by decide)).trans (ov_eval _ 0 12 _ (zl_nd ..) rfl (hes 12 (by decide)) (by simp))) (ZJ.quiet rfl hL (by decide) hg hf))
      · exact wpOp_mk rfl rfl (op_assign (ov_eval _ 0 13 _ (zl_nd ..) rfl (hes 13 (by decide)) (by simp)) (ZJ.quiet rfl hL (by decide) hg hf))
    · intro L a2 w2 hall hJ
      obtain ⟨rfl,hg,hf⟩:=hJ
      rw [ov_congr (M:=fun _=>true) (zl p f y (.slice va now.length vc)) 0 _ (fun j _ h2=>hall j (by simpa [zl] using h2))]
      rw [if_pos (hall 12 (by decide))] at hg
      simp only [ov,zl,pif,cond_true,Act.put,List.setIfInBounds_toArray,List.set_cons_succ,List.set_cons_zero]
      go_wp2
      go_ret
      exact ⟨rfl,hg,row_kept hrow2 fun b h1 h2 _=>hf.block b h2 (by have:=hDB.1;omega) (by have:=hDB.2;omega) (by simp),(Fr.below hb2).trans hf.weak⟩
  · have e2:(p.depth == 1)=false:=by rw [beq_eq_false_iff_ne];exact hd
    have hnew:=hnew hd
    clear hd
    obtain ⟨y,A7⟩:∃ y,Aside (i_Func_put K (f,p.n,now,())=some y/\eachF p.depth y s=some s'):=(show true=true->_ from A1) rfl
    go_enter Tryz.func89,Tryz.ntmps89
    go_wp2_with (first
      | (go_at_call 84;refine hnew.mono ?_;rintro e W2 ⟨rfl,hbe2⟩)
      | go_in)
    have A8:Aside (∀ b,b=p.D\/b=p.ab->b < w.heap.size):=fun b hb=>hw.lt b (by rcases hb with h | h <;> simp [h])
    have T2:Aside (GnW p W2 s/\BoxW p f w W2/\W2.ownsRow B 30 2 (.slice va now.length vc) now.length (cellsOf now)/\Below w.heap.size w W2) :=
      ⟨GnW.below A6 hbe2 (Nat.le_refl _),BoxW.kept A0 fun b _ h2=>hbe2.block b (by simp;omega),row_kept A5 fun b _ h2 _=>hbe2.block b h2,Below.trans A3 (hbe2.mono (by simp;omega))⟩
    clear c6 c7 c8 c10 A0 A3 A4 A5 A6 A1 A2 hl1 hw1 hrow1 hl hrow hw
    obtain ⟨hg2,hbx2,hrow2,hb2⟩:=(show GnW p W2 s/\BoxW p f w W2/\W2.ownsRow B 30 2 _ now.length (cellsOf now)/\Below w.heap.size w W2 from T2)
    refine region_inv (ZJ p f y (.slice va now.length vc) s s' W2) (by kernel_rfl) (by kernel_rfl) ⟨rfl,hg2.kept (fun b _=>rfl),⟨rfl,rfl,rfl,Nat.le_refl _,fun _ _ _ _ _=>rfl⟩⟩ ?_ ?_
    · intro L a2 w2 i o ho hL hes hJ
      obtain ⟨rfl,hg,hf⟩:=hJ
      have hi:i < 15:=(Array.getElem?_eq_some_iff.1 ho).1
      have hbx3:BoxW p f w w2:=hbx2.kept fun b h1 h2=>hf.block b (by have:=(Array.getElem?_eq_some_iff.1 hbx2.h10).1;omega) (fun e=>by have:=(show ∀ b,b=p.D\/b=p.ab->b < w.heap.size from A8) b (Or.inl e);omega) (fun e=>by have:=(show ∀ b,b=p.D\/b=p.ab->b < w.heap.size from A8) b (Or.inr e);omega) (by simp)
      have hrow3:w2.ownsRow B 30 2 (.slice va now.length vc) now.length (cellsOf now):=row_kept hrow2 fun b h1 h2 _=>hf.block b h2 (by have:=hDB.1;omega) (by have:=hDB.2;omega) (by simp)
      have hcs:i=0\/i=1\/i=2\/i=3\/i=4\/i=5\/i=6\/i=7\/i=8\/i=9\/i=10\/i=11\/i=12\/i=13\/i=14:=by omega
      rcases hcs with rfl | rfl | rfl | rfl | rfl | rfl | rfl | rfl | rfl | rfl | rfl | rfl | rfl | rfl | rfl
      all_goals simp only [List.getElem?_toArray,List.getElem?_cons_succ,List.getElem?_cons_zero,Option.some.injEq] at ho
      all_goals subst ho
      · exact wpOp_mk rfl rfl (op_move (ov_eval_out _ _ _ (by rw [zl_dst];decide)) (ZJ.quiet rfl hL (by decide) hg hf))
      · exact wpOp_mk rfl rfl (op_not (ov_eval _ 0 0 _ (zl_nd ..) rfl (hes 0 (by decide)) (by simp)) (ZJ.quiet rfl hL (by decide) hg hf))
      · exact wpOp_mk rfl rfl (op_move (ov_eval _ 0 1 _ (zl_nd ..) rfl (hes 1 (by decide)) (by simp)) (ZJ.quiet rfl hL (by decide) hg hf))
      · exact wpOp_mk rfl (wanted_of (d:=30) rfl rfl rfl (ov_eval _ 0 2 _ (zl_nd ..) rfl (hes 2 (by decide)) (by simp))) (op_move (ov_eval_out _ _ _ (by rw [zl_dst];decide)) (ZJ.quiet rfl hL (by decide) hg hf))
      · exact wpOp_mk rfl (wanted_of (d:=30) rfl rfl rfl (ov_eval _ 0 2 _ (zl_nd ..) rfl (hes 2 (by decide)) (by simp))) (op_load (tysOk 30 tq0 rfl) (ov_eval_out _ _ _ (by rw [zl_dst];decide)) hbx3.h7 (show 2<=2 from Nat.le_refl 2) rfl (ZJ.quiet rfl hL (by decide) hg hf))
      · exact wpOp_mk rfl (wanted_of (d:=30) rfl rfl rfl (ov_eval _ 0 2 _ (zl_nd ..) rfl (hes 2 (by decide)) (by simp))) (op_load (tysOk 63 (.ptr tq2) rfl) (ov_eval_out _ _ _ (by rw [zl_dst];decide)) hbx3.h6 (show 1<=1 from Nat.le_refl 1) rfl (ZJ.quiet rfl hL (by decide) hg hf))
      · exact wpOp_mk rfl (wanted_of (d:=30) rfl rfl rfl (ov_eval _ 0 2 _ (zl_nd ..) rfl (hes 2 (by decide)) (by simp))) (op_nil (ov_eval _ 0 5 _ (zl_nd ..) rfl (hes 5 (by decide)) (by simp)) (ZJ.quiet rfl hL (by decide) hg hf))
      · exact wpOp_mk rfl (wanted_of (d:=30) rfl rfl rfl (ov_eval _ 0 2 _ (zl_nd ..) rfl (hes 2 (by decide)) (by simp))) (op_field tysOk (t:=102) (n:=1) rfl (by decide) (by decide) (ov_eval _ 0 6 _ (zl_nd ..) rfl (hes 6 (by decide)) (by simp)) (ZJ.quiet rfl hL (by decide) hg hf))
      · exact wpOp_mk rfl (wanted_of (d:=30) rfl rfl rfl (ov_eval _ 0 2 _ (zl_nd ..) rfl (hes 2 (by decide)) (by simp))) (op_load (tysOk 2 (.int .i64) rfl) (ov_eval _ 0 7 _ (zl_nd ..) rfl (hes 7 (by decide)) (by simp)) hg.hG (show 2<=3 by decide) rfl (ZJ.quiet rfl hL (by decide) hg hf))
      · exact wpOp_mk rfl (wanted_of (d:=30) rfl rfl rfl (ov_eval _ 0 2 _ (zl_nd ..) rfl (hes 2 (by decide)) (by simp))) (op_move (ov_eval_out _ _ _ (by rw [zl_dst];decide)) (ZJ.quiet rfl hL (by decide) hg hf))
      · refine wpOp_mk rfl (wanted_of (d:=30) rfl rfl rfl (ov_eval _ 0 2 _ (zl_nd ..) rfl (hes 2 (by decide)) (by simp))) (op_call (fi:=#[]) (ca:=#[]) rfl ?_ Tryz.func161 (by kernel_rfl) (c:=bodyOf Tryz.f161) (by kernel_rfl) (put_calls K hrow3 f p.n y A7.1) ?_)
        · exact args3 (ov_eval _ 0 4 _ (zl_nd ..) rfl (hes 4 (by decide)) (by simp)) (ov_eval _ 0 8 _ (zl_nd ..) rfl (hes 8 (by decide)) (by simp)) (ov_eval _ 0 9 _ (zl_nd ..) rfl (hes 9 (by decide)) (by simp))
        · rintro e w4 ⟨rfl,hb4⟩
          refine ⟨_,rfl,ZJ.quiet rfl hL (by decide) (hg.below hb4 (Nat.le_refl _)) (hf.trans (Fr.below hb4))⟩
      · exact wpOp_mk rfl (wanted_of (d:=30) rfl rfl rfl (ov_eval _ 0 2 _ (zl_nd ..) rfl (hes 2 (by decide)) (by simp))) (op_move (ov_eval_out _ _ _ (by rw [zl_dst];decide)) (ZJ.quiet rfl hL (by decide) hg hf))
      · refine wpOp_mk rfl (wanted_of (d:=30) rfl rfl rfl (ov_eval _ 0 2 _ (zl_nd ..) rfl (hes 2 (by decide)) (by simp))) (op_call (ov_eval _ 0 3 _ (zl_nd ..) rfl (hes 3 (by decide)) (by simp)) (args2 (ov_eval _ 0 10 _ (zl_nd ..) rfl (hes 10 (by decide)) (by simp)) (ov_eval _ 0 11 _ (zl_nd ..) rfl (hes 11 (by decide)) (by simp))) Tryz.func90 (by kernel_rfl) (c:=bodyOf Tryz.f90) (by kernel_rfl) (each_calls p hp w2 y.1 y.2.1 _ s s' (by rw [if_neg (by rw [hL];decide)] at hg;exact hg) A7.2) ?_)
        rintro e w4 ⟨rfl,hg4,hf4⟩
        exact ⟨_,rfl,(ov_put _ 0 12 _ (zl_nd ..) rfl hL).trans rfl,by simpa using hg4,hf.trans hf4⟩
      · exact wpOp_mk rfl rfl (op_pick (ov_eval _ 0 2 _ (zl_nd ..) rfl (hes 2 (by decide)) (by simp)) ((if_neg (by decide)).trans (ov_eval _ 0 12 _ (zl_nd ..) rfl (hes 12 (by decide)) (by simp))) (ZJ.quiet rfl hL (by decide) hg hf))
      · exact wpOp_mk rfl rfl (op_assign (ov_eval _ 0 13 _ (zl_nd ..) rfl (hes 13 (by decide)) (by simp)) (ZJ.quiet rfl hL (by decide) hg hf))
    · intro L a2 w2 hall hJ
      obtain ⟨rfl,hg,hf⟩:=hJ
      rw [ov_congr (M:=fun _=>true) (zl p f y (.slice va now.length vc)) 0 _ (fun j _ h2=>hall j (by simpa [zl] using h2))]
      rw [if_pos (hall 12 (by decide))] at hg
      simp only [ov,zl,pif,cond_true,Act.put,List.setIfInBounds_toArray,List.set_cons_succ,List.set_cons_zero]
      go_wp2
      go_ret
      exact ⟨rfl,hg,row_kept hrow2 fun b h1 h2 _=>hf.block b h2 (by have:=hDB.1;omega) (by have:=hDB.2;omega) (by simp),(Fr.below hb2).trans hf.weak⟩
  · have e2:(p.depth == 1)=false:=by rw [beq_eq_false_iff_ne];exact hd
    have hnew:=hnew hd
    clear hd
    go_enter Tryz.func89,Tryz.ntmps89
    go_wp2_with (first
      | (go_at_call 84;refine hnew.mono ?_;rintro e W2 ⟨rfl,hbe2⟩)
      | go_in)
    go_quiet (fail)
    go_wp2
    go_ret
    have hz:s'=s:=(show True->s'=s from A2) trivial
    subst hz
    exact ⟨rfl,(GnW.below A6 hbe2 (Nat.le_refl _)).kept fun b _=>rfl,row_kept (row_kept A5 fun b _ h2 _=>hbe2.block b h2) fun b _ _ _=>rfl,(Fr.below (Below.trans A3 (hbe2.mono (by simp;omega)))).trans ⟨rfl,rfl,rfl,Nat.le_refl _,fun _ _ _ _ _=>rfl⟩⟩
theorem ov_set {L:Nat->Bool} {q:Nat × Value}:∀ (l:List (Nat × Value)) (i k:Nat) (a:Act),L (i + k)=false->ov L i (l.set k q) a=ov L i l a
  | [],_,_,_,_=>rfl
  | p :: l,i,0,a,h=>by
    have h:L i=false:=h
    simp only [List.set_cons_zero,ov,h,pif_false]
  | p :: l,i,k + 1,a,h=>by
    simp only [List.set_cons_succ,ov]
    exact ov_set l (i + 1) k _ (by rw [<-h];congr 1;omega)
/-- a list of functions that came in, read by its cells -/
theorem rx_cells {P:Program} {w:World} {S:Nat->Prop} {kv:Value} {l:List DFg} (h:RX P (.sl tq0) false w S [kv] l):∃ a c,kv=.slice a l.length c/\l.length<=c/\(l=[]\/∃ b o,a=some ⟨b,o,none⟩/\S b/\∀ i y,l[i]?=some y->w.cell? ⟨b,o + i * 2,none⟩=some (.int .i64 y.1)/\w.cell? ⟨b,o + i * 2 + 1,none⟩=some (.int .i64 y.2.1)):=by
  obtain ⟨a,n,c,h1,h2,h3,h4⟩:=h
  have h1:kv=.slice a n c:=by simpa using h1
  refine ⟨a,c,by rw [h1,h2],by rw [<-h2];exact h3,?_⟩
  rcases h4 with h4 | ⟨b,o,arr,ty,fz,h5,h6,h7,h8,h9⟩
  · exact .inl h4
  · refine .inr ⟨b,o,h5,h6,fun i y hy=>?_⟩
    have hr:=h9 i y hy
    have hs:(tq0).sz=2:=rfl
    rw [hs] at hr
    obtain ⟨c1,c2,e1,rfl,c3,c4,e2,rfl,e3⟩:=hr
    have e3:c4=[]:=e3
    subst e3
    rw [e2] at e1
    have g0:=congrArg (·[0]?) e1
    have g1:=congrArg (·[1]?) e1
    simp only [seg_get] at g0 g1
    have h7':∀ j,w.cell? ⟨b,j,none⟩=arr[j]?:=fun j=>by unfold World.cell?;rw [h7];rfl
    rw [h7',h7']
    refine ⟨?_,?_⟩
    · simpa using g0
    · simpa using g1
theorem rx_fr {p:GnP} {B:Nat} {row:Option Nat} {w w':World} {kv:Value} {l:List DFg} {P:Program} (h:RX P (.sl tq0) false w (p.S B) [kv] l) (hB:B<=w.heap.size) (hf:Fr p row w w') (hr:∀ k,row=some k->B<=k):RX P (.sl tq0) false w' (p.S B) [kv] l :=
  RX_congr _ (.sl tq0) false hf.size (fun b h1 h2=>⟨h1,hf.block b h2 h1.2.1 h1.2.2 fun e=>by have:=hr b e.symm;have:=h1.1;omega⟩) (fun b h1=>Nat.lt_of_lt_of_le h1.1 (Nat.le_trans hB hf.size)) h
theorem row_own {w:World} {base e size n:Nat} {v:Value} {xs:List Value} (h:w.ownsRow base e size v n xs):∀ k,v.ownBlock=some k->base<=k/\k < w.heap.size:=h.lt
/-- the slots of the region that appends and calls itself -/
def yl (p:GnP) (f h:DFg) (kv v:Value) (nb:Nat) (v':Value):List (Nat × Value):=[(48,.pointer (some ⟨p.G,0,none⟩)),(49,.agg #[.int .i64 f.1,.int .i64 f.2.1]),(50,kv),(51,v),(52,.agg #[.int .i64 h.1,.int .i64 h.2.1]),(53,.slice (some ⟨nb,0,none⟩) 1 1),(54,v'),(55,.int .i64 p.depth),
  (56,.func (.func 90) #[] #[.pointer (some ⟨p.gb,0,none⟩),.pointer (some ⟨p.db,0,none⟩),.pointer (some ⟨p.ab,0,none⟩)]),(57,.bool true),(58,.bool false)]
theorem yl_dst (p:GnP) (f h:DFg) (kv v:Value) (nb:Nat) (v':Value):(yl p f h kv v nb v').map (·.1)=[48,49,50,51,52,53,54,55,56,57,58]:=rfl
theorem yl_nd (p:GnP) (f h:DFg) (kv v:Value) (nb:Nat) (v':Value):((yl p f h kv v nb v').map (·.1)).Nodup:=by rw [yl_dst];decide
structure YW (p:GnP) (B:Nat) (h:DFg) (v:Value) (now:List DFg) (st s2:GSt) (W2:World) (L:Nat->Bool) (nb:Nat) (v':Value) (w:World):Prop where
  nine:L 9=true->L 6=true
  gn:GnW p w (if L 9=true then s2 else st)
  fr:Fr p v.ownBlock W2 w
  new:L 5=true->W2.heap.size<=nb/\(L 9=false->∃ et,w.heap[nb]?=some (.cells #[.int .i64 h.1,.int .i64 h.2.1] et (0,0)))
  row0:L 6=false->w.ownsRow B 30 2 v now.length (cellsOf now)
  row1:L 6=true->w.ownsRow B 30 2 v' (now ++ [h]).length (cellsOf (now ++ [h]))/\((∃ q,v'.ownBlock=some q/\W2.heap.size<=q/\w.ownsRow B 30 2 v now.length (cellsOf now))\/∃ g cap,v=.slice (some ⟨g,0,none⟩) now.length cap/\v'=.slice (some ⟨g,0,none⟩) (now.length + 1) cap)
def YJ (p:GnP) (B:Nat) (f h:DFg) (kv v:Value) (now:List DFg) (st s2:GSt) (W2:World) (a0:Act) (L:Nat->Bool) (a:Act) (w:World):Prop:=∃ nb v',a=ov L 0 (yl p f h kv v nb v') a0/\YW p B h v now st s2 W2 L nb v' w
theorem YJ.quiet {p:GnP} {B:Nat} {f h:DFg} {kv v:Value} {now:List DFg} {st s2:GSt} {W2:World} {a0:Act} {L:Nat->Bool} {w:World} {nb:Nat} {v':Value} {k d:Nat} {x:Value} (hw:YW p B h v now st s2 W2 L nb v' w) (hk:(yl p f h kv v nb v')[k]?=some (d,x)) (hL:L k=false) (h5:k ≠ 5) (h6:k ≠ 6) (h9:k ≠ 9) :
    YJ p B f h kv v now st s2 W2 a0 (fun j=>j == k || L j) ((ov L 0 (yl p f h kv v nb v') a0).put (some d) x) w:=by
  have e5:(5 == k)=false:=by rw [beq_eq_false_iff_ne];omega
  have e6:(6 == k)=false:=by rw [beq_eq_false_iff_ne];omega
  have e9:(9 == k)=false:=by rw [beq_eq_false_iff_ne];omega
  refine ⟨nb,v',by rw [ov_put (yl p f h kv v nb v') 0 k a0 (yl_nd ..) hk (by rw [Nat.zero_add];exact hL),Nat.zero_add],?_⟩
  obtain ⟨g1,g2,g3,g4,g5,g6⟩:=hw
  refine ⟨?_,?_,g3,?_,?_,?_⟩
  all_goals simp only [e5,e6,e9,Bool.false_or]
  all_goals assumption
/-- The world turns, nothing that is told. -/
theorem YW.kept {p:GnP} {B:Nat} {h:DFg} {v:Value} {now:List DFg} {st s2:GSt} {W2:World} {L:Nat->Bool} {w w':World} {nb:Nat} {v':Value} (hw:YW p B h v now st s2 W2 L nb v' w) (hb:Below w.heap.size w w'):YW p B h v now st s2 W2 L nb v' w':=by
  obtain ⟨g1,g2,g3,g4,g5,g6⟩:=hw
  refine ⟨g1,g2.below hb (Nat.le_refl _),g3.trans (Fr.below hb),fun h5=>⟨(g4 h5).1,fun h9=>?_⟩,fun h6=>row_kept (g5 h6) fun b _ h2 _=>hb.block b h2,fun h6=>⟨row_kept (g6 h6).1 fun b _ h2 _=>hb.block b h2,?_⟩⟩
  · obtain ⟨et,he⟩:=(g4 h5).2 h9
    exact ⟨et,by rw [hb.block _ (Array.getElem?_eq_some_iff.1 he).1];exact he⟩
  · rcases (g6 h6).2 with ⟨q,q1,q2,q3⟩ | hx
    · exact .inl ⟨q,q1,q2,row_kept q3 fun b _ h2 _=>hb.block b h2⟩
    · exact .inr hx
theorem infoFT:(Tryz.prog.info? 30).map (fun i=>(i.zero,i.size,i.bytes))=some (some (.agg #[.int .i64 0,.int .i64 0]),2,16):=by kernel_rfl
theorem infoFT_parts:∃ i,Tryz.prog.info? 30=some i/\i.zero=some (.agg #[.int .i64 0,.int .i64 0])/\i.size=2/\i.bytes=16:=by
  have h:=infoFT
  cases hc:Tryz.prog.info? 30 with
  | none=>rw [hc] at h;cases h
  | some i =>
    rw [hc] at h
    simp only [Option.map_some,Option.some.injEq,Prod.mk.injEq] at h
    exact ⟨i,rfl,h.1,h.2.1,h.2.2⟩
theorem steps_succ (K:Nat) (p:GnP) (hp:p.Ok) (list:List DFg) (f:DFg) (known:List DFg) (kv:Value) (B m:Nat) (ih:StepsC K p list f known kv B m) (now:List DFg) (v:Value) (w:World) (s s':GSt) (hw:GnW p w s) (hl:RX Tryz.prog (.sl tq0) false w (p.S B) [p.lv] list)
    (hk:RX Tryz.prog (.sl tq0) false w (p.S B) [kv] known) (hrow:w.ownsRow B 30 2 v now.length (cellsOf now)) (hB:B<=w.heap.size) (hPB:∀ b,b=p.G\/b=p.gb\/b=p.db\/b=p.ab\/b=p.D->b < B) (hlen:(now.length:Int) ≠ f.1) (hnl:now.length < 1000) (hkl:known.length < 1000000)
    (h:foldF (fun s h=>stepsF K list p.n f known p.depth m (now ++ [h]) s) known s=some s'):Calls Tryz.prog 89 (stepArgs p f kv v) w (StepsW p B now v s' w):=by
  unfold stepArgs
  have hlenv:∃ a c,v=.slice a now.length c:=by
    rcases hrow.2 with ⟨h1,h2⟩ | ⟨g,cap,cur,h1,_⟩
    · exact ⟨none,0,by rw [h1,h2]⟩
    · exact ⟨_,_,h1⟩
  have hDB:p.D < B/\p.ab < B:=⟨hPB _ (by simp),hPB _ (by simp)⟩
  obtain ⟨va,vc,hv⟩:=hlenv
  obtain ⟨ka,kc,hkv,hkc,_⟩:=rx_cells hk
  have hb1:=made3_below w (.cells #[.pointer (some ⟨p.G,0,none⟩)] 63) (.cells #[.int .i64 f.1,.int .i64 f.2.1] 30) (.cells #[.int .i64 p.depth] 2)
  have hbx:=BoxW.made p f w
  obtain ⟨W1,hW1⟩:∃ W1,W1=(((w.alloc (.cells #[.pointer (some ⟨p.G,0,none⟩)] 63)).alloc (.cells #[.int .i64 f.1,.int .i64 f.2.1] 30)).alloc (.cells #[.int .i64 p.depth] 2)):=⟨_,rfl⟩
  rw [<-hW1] at hb1 hbx
  have hs1:W1.heap.size=w.heap.size + 1 + 1 + 1:=by rw [hW1];simp
  have A0:Aside (GnW p W1 s/\BoxW p f w W1/\W1.ownsRow B 30 2 v now.length (cellsOf now)/\Below w.heap.size w W1/\W1.heap.size=w.heap.size + 1 + 1 + 1) :=
    ⟨hw.below hb1 (Nat.le_refl _),hbx,row_kept hrow fun b _ h2 _=>hb1.block b h2,hb1,hs1⟩
  have A1:Aside (RX Tryz.prog (.sl tq0) false w (p.S B) [p.lv] list/\RX Tryz.prog (.sl tq0) false w (p.S B) [kv] known):=⟨hl,hk⟩
  have A2:Aside (foldF (fun s h=>stepsF K list p.n f known p.depth m (now ++ [h]) s) known s=some s'):=h
  have A3:Aside (∀ k,v.ownBlock=some k->B<=k/\k < w.heap.size):=row_own hrow
  have A4:Aside (∀ b,b=p.D\/b=p.ab->b < w.heap.size):=fun b hb=>hw.lt b (by rcases hb with h | h <;> simp [h])
  obtain ⟨c6,c7,c8,c10⟩:=hbx.cells
  have e1:((now.length:Int) == f.1)=false:=by rw [beq_eq_false_iff_ne];exact hlen
  clear hbx h hlen hb1 hs1 hl hk hrow hw
  subst hv hkv hW1
  go_enter Tryz.func89,Tryz.ntmps89
  go_wp2
  have A5:Aside (Fr p (Value.slice va now.length vc).ownBlock w _):=Fr.below (show Below w.heap.size w (((w.alloc (.cells #[.pointer (some ⟨p.G,0,none⟩)] 63)).alloc (.cells #[.int .i64 f.1,.int .i64 f.2.1] 30)).alloc (.cells #[.int .i64 p.depth] 2)) from A0.2.2.2.1)
  go_loopw [44] (fun t44 wr=>∃ (i:Nat) (st:GSt),i<=known.length/\t44=.int .i64 i/\GnW p wr st/\foldF (fun s h=>stepsF K list p.n f known p.depth m (now ++ [h]) s) (known.drop i) st=some s'/\BoxW p f w wr/\wr.ownsRow B 30 2 (.slice va now.length vc) now.length (cellsOf now)/\Fr p (Value.slice va now.length vc).ownBlock w wr/\w.heap.size + 1 + 1 + 1<=wr.heap.size) (fun t44 _=>known.length - (intOf t44).toNat)
  case atStart=>exact ⟨0,s,Nat.zero_le _,rfl,A0.1,A2,A0.2.1,A0.2.2.1,A5,Nat.le_of_eq (A0.2.2.2.2).symm⟩
  case round =>
    obtain ⟨i,st,hi,rfl,hg,hfold,hbx,hrow,hfr,hsz⟩:=hrel
    by_cases hik:i=known.length
    · subst hik
      have A6:Aside (st=s'):=by
        rw [List.drop_length] at hfold
        injection hfold
      clear hfold
      go_wp2
      go_ret
      have hz:st=s':=A6
      subst hz
      exact ⟨rfl,hg,hrow,hfr⟩
    · have hi:i < known.length:=by omega
      obtain ⟨h,hh⟩:∃ h,known[i]?=some h:=⟨_,List.getElem?_eq_getElem hi⟩
      have hdrop:known.drop i=h :: known.drop (i + 1):=by
        rw [List.drop_eq_getElem_cons hi]
        rw [List.getElem?_eq_getElem hi] at hh
        injection hh with hh;rw [hh]
      rw [hdrop] at hfold
      obtain ⟨s2,hs2,hfold2⟩:∃ s2,stepsF K list p.n f known p.depth m (now ++ [h]) st=some s2/\foldF (fun s h=>stepsF K list p.n f known p.depth m (now ++ [h]) s) (known.drop (i + 1)) s2=some s':=by
        simp only [foldF] at hfold
        cases hc:stepsF K list p.n f known p.depth m (now ++ [h]) st with
        | none=>rw [hc] at hfold;cases hfold
        | some s2=>rw [hc] at hfold;exact ⟨s2,rfl,hfold⟩
      have hlw:=rx_fr A1.1 hB hfr fun k hk=>(A3 k hk).1
      have hkw:=rx_fr A1.2 hB hfr fun k hk=>(A3 k hk).1
      obtain ⟨a',c',e5,_,hcs⟩:=rx_cells hkw
      injection e5 with e5 _ e6
      subst e5
      subst e6
      rcases hcs with hcs | ⟨kb,ko,rfl,hSk,hcs⟩
      · rw [hcs] at hi;simp at hi
      obtain ⟨d0,d1⟩:=hcs i h hh
      have A6:Aside (stepsF K list p.n f known p.depth m (now ++ [h]) st=some s2/\foldF (fun s h=>stepsF K list p.n f known p.depth m (now ++ [h]) s) (known.drop (i + 1)) s2=some s'):=⟨hs2,hfold2⟩
      have A7:Aside (GnW p wr st/\BoxW p f w wr/\wr.ownsRow B 30 2 (.slice va now.length vc) now.length (cellsOf now)/\Fr p (Value.slice va now.length vc).ownBlock w wr/\w.heap.size + 1 + 1 + 1<=wr.heap.size):=⟨hg,hbx,hrow,hfr,hsz⟩
      have A8:Aside (RX Tryz.prog (.sl tq0) false wr (p.S B) [p.lv] list/\RX Tryz.prog (.sl tq0) false wr (p.S B) [.slice (some ⟨kb,ko,none⟩) known.length kc] known):=⟨hlw,hkw⟩
      obtain ⟨c6,c7,c8,c10⟩:=hbx.cells
      clear hs2 hfold2 hfold hdrop hh hlw hkw hcs hSk hg hbx hrow hfr hsz hik
      go_wp2
      obtain ⟨hg,hbx,hrow,hfr,hsz⟩:=(show GnW p wr st/\BoxW p f w wr/\wr.ownsRow B 30 2 (.slice va now.length vc) now.length (cellsOf now)/\Fr p (Value.slice va now.length vc).ownBlock w wr/\w.heap.size + 1 + 1 + 1<=wr.heap.size from A7)
      have hba:Below wr.heap.size wr (wr.alloc (.cells #[.int .i64 h.1,.int .i64 h.2.1] 30)):=(Below.refl _ _).alloc (Nat.le_refl _) _
      obtain ⟨W2,hW2⟩:∃ W2,W2=wr.alloc (.cells #[.int .i64 h.1,.int .i64 h.2.1] 30):=⟨_,rfl⟩
      have hx15:W2.heap[wr.heap.size]?=some (.cells #[.int .i64 h.1,.int .i64 h.2.1] 30 (0,0)):=by rw [hW2,alloc_get,if_pos rfl]
      have hs2:W2.heap.size=wr.heap.size + 1:=by rw [hW2];simp
      rw [<-hW2] at hba ⊢
      have hA3:∀ k,(Value.slice va now.length vc).ownBlock=some k->B<=k/\k < w.heap.size:=A3
      obtain ⟨iF,hiF,hz0,hz1,hz2⟩:=infoFT_parts
      refine region_inv (YJ p B f h (.slice (some ⟨kb,ko,none⟩) known.length kc) (.slice va now.length vc) now st s2 W2) (by kernel_rfl) (by kernel_rfl) ?_ ?_ ?_
      · refine ⟨0,undef,rfl,⟨(fun h=>by cases h),?_,⟨rfl,rfl,rfl,Nat.le_refl _,fun _ _ _ _ _=>rfl⟩,(fun h=>by cases h),fun _=>?_,(fun h=>by cases h)⟩⟩
        · exact (hg.below hba (Nat.le_refl _)).kept fun b _=>rfl
        · exact row_kept (row_kept hrow fun b _ h2 _=>hba.block b h2) fun b _ _ _=>rfl
      · intro L a2 w2 j o ho hL hes hJ
        obtain ⟨nb,v',rfl,hw⟩:=hJ
        have hj:j < 11:=(Array.getElem?_eq_some_iff.1 ho).1
        have hbx3:BoxW p f w w2:=(hbx.kept fun b _ h2=>hba.block b (by omega)).kept fun b h1 h2=>hw.fr.block b (by omega) (fun e=>by have:=(show ∀ b,b=p.D\/b=p.ab->b < w.heap.size from A4) b (Or.inl e);omega) (fun e=>by have:=(show ∀ b,b=p.D\/b=p.ab->b < w.heap.size from A4) b (Or.inr e);omega) (fun e=>by have:=(hA3 b e.symm).2;omega)
        have hx3:w2.heap[wr.heap.size]?=some (.cells #[.int .i64 h.1,.int .i64 h.2.1] 30 (0,0)):=by
          rw [hw.fr.block _ (by omega) (fun e=>by have:=(show ∀ b,b=p.D\/b=p.ab->b < w.heap.size from A4) _ (Or.inl e);omega) (fun e=>by have:=(show ∀ b,b=p.D\/b=p.ab->b < w.heap.size from A4) _ (Or.inr e);omega) (fun e=>by have:=(hA3 _ e.symm).2;omega)];exact hx15
        have hcs:j=0\/j=1\/j=2\/j=3\/j=4\/j=5\/j=6\/j=7\/j=8\/j=9\/j=10:=by omega
        rcases hcs with rfl | rfl | rfl | rfl | rfl | rfl | rfl | rfl | rfl | rfl | rfl
        all_goals simp only [List.getElem?_toArray,List.getElem?_cons_succ,List.getElem?_cons_zero,Option.some.injEq] at ho
        all_goals subst ho
        · exact wpOp_mk rfl rfl (op_load (tysOk 63 (.ptr tq2) rfl) (ov_eval_out _ _ _ (by rw [yl_dst];decide)) hbx3.h6 (show 1<=1 from Nat.le_refl 1) rfl (YJ.quiet hw rfl hL (by decide) (by decide) (by decide)))
        · exact wpOp_mk rfl rfl (op_load (tysOk 30 tq0 rfl) (ov_eval_out _ _ _ (by rw [yl_dst];decide)) hbx3.h7 (show 2<=2 from Nat.le_refl 2) rfl (YJ.quiet hw rfl hL (by decide) (by decide) (by decide)))
        · exact wpOp_mk rfl rfl (op_move (ov_eval_out _ _ _ (by rw [yl_dst];decide)) (YJ.quiet hw rfl hL (by decide) (by decide) (by decide)))
        · exact wpOp_mk rfl rfl (op_move (ov_eval_out _ _ _ (by rw [yl_dst];decide)) (YJ.quiet hw rfl hL (by decide) (by decide) (by decide)))
        · exact wpOp_mk rfl rfl (op_load (tysOk 30 tq0 rfl) (ov_eval_out _ _ _ (by rw [yl_dst];decide)) hx3 (show 2<=2 from Nat.le_refl 2) rfl (YJ.quiet hw rfl hL (by decide) (by decide) (by decide)))
        · refine wpOp_mk rfl rfl (op_build1 tysOk (t:=27) (e:=tq0) rfl (z:=.val tq0 ((0:Int),(0:Int),())) rfl rfl (by decide) (cs:=[.int .i64 h.1,.int .i64 h.2.1]) (ov_eval _ 0 4 _ (yl_nd ..) rfl (hes 4 (by decide)) (by simp)) ⟨rfl,rfl⟩ fun et=>?_)
          have hb5:Below w2.heap.size w2 (w2.alloc (.cells #[.int .i64 h.1,.int .i64 h.2.1] et)):=(Below.refl _ _).alloc (Nat.le_refl _) _
          have hk5:=hw.kept hb5
          have ha5:=fun a0=>(ov_set (L:=L) (q:=(53,.slice (some ⟨w2.heap.size,0,none⟩) 1 1)) (yl p f h (.slice (some ⟨kb,ko,none⟩) known.length kc) (.slice va now.length vc) nb v') 0 5 a0 hL).symm
          refine ⟨w2.heap.size,v',(congrArg (fun a=>Act.put a (some 53) _) (ha5 _)).trans ((ov_put _ 0 5 _ (yl_nd p f h _ _ w2.heap.size v') rfl hL).trans rfl),?_⟩
          obtain ⟨g1,g2,g3,g4,g5,g6⟩:=hk5
          refine ⟨?_,?_,g3,fun _=>⟨hw.fr.size,fun _=>⟨et,by rw [alloc_get,if_pos rfl]⟩⟩,?_,?_⟩
          all_goals simp only [show ((6:Nat) == 5)=false from rfl,show ((9:Nat) == 5)=false from rfl,Bool.false_or]
          all_goals assumption
        · have h5:=hes 5 (by decide)
          have h9:L 9=false:=by
            cases hc:L 9
            · rfl
            · rw [hw.nine hc] at hL;cases hL
          obtain ⟨et,hnb⟩:=(hw.new h5).2 h9
          have hrow6:=hw.row0 hL
          have hn5:=(hw.new h5).1
          have hml:(1099511627776:Nat)<=maxLen:=by unfold maxLen;decide
          refine wpOp_mk rfl rfl (op_append B 27 30 iF (.agg #[.int .i64 0,.int .i64 0]) 2 16 Tryz.underlying27 hiF hz0 hz1 hz2 rfl (by decide) _ now.length (cellsOf now) (ov_eval _ 0 3 _ (yl_nd ..) rfl (hes 3 (by decide)) (by simp)) hrow6 ⟨nb,0,none⟩ 1 1 [.int .i64 h.1,.int .i64 h.2.1] (ov_eval _ 0 5 _ (yl_nd ..) rfl h5 (by simp)) rfl
            (fun j u hu=>src_seg (n:=2) hnb j u (by simpa [seg] using hu)) (fun u hu=>by simp only [List.mem_cons,List.not_mem_nil,or_false] at hu;rcases hu with rfl | rfl <;> rfl) (by omega) (by omega) (by have:=hw.fr.size;omega) (by decide) fun v2 w6 hr6 hd6=>?_)
          have ha5:=fun a0=>(ov_set (L:=L) (q:=(54,v2)) (yl p f h (.slice (some ⟨kb,ko,none⟩) known.length kc) (.slice va now.length vc) nb v') 0 6 a0 hL).symm
          refine ⟨nb,v2,(congrArg (fun a=>Act.put a (some 54) _) (ha5 _)).trans ((ov_put _ 0 6 _ (yl_nd p f h _ _ nb v2) rfl hL).trans rfl),?_⟩
          have hlen6:(now ++ [h]).length=now.length + 1:=by simp
          rw [<-cellsOf_snoc,<-hlen6] at hr6
          have hg6:w2.grownBy w6 (Value.slice va now.length vc).ownBlock/\(∀ b,b < w2.heap.size->(Value.slice va now.length vc).ownBlock ≠ some b->w6.heap[b]?=w2.heap[b]?):=by
            rcases hd6 with ⟨hd,_⟩ | ⟨g,cap,hv,_,hd⟩
            · exact ⟨⟨hd.os,hd.tape,hd.output,hd.size,fun k hk _=>hd.block k hk (by simp)⟩,fun b hb _=>hd.block b hb (by simp)⟩
            · have:(Value.slice va now.length vc).ownBlock=some g:=by rw [hv];rfl
              rw [this]
              exact ⟨hd,fun b hb hne=>hd.block b hb fun e=>hne e.symm⟩
          have hfr6:Fr p (Value.slice va now.length vc).ownBlock w2 w6:=⟨hg6.1.os,hg6.1.tape,hg6.1.output,hg6.1.size,fun k hk _ _ hne=>hg6.2 k hk fun e=>hne e.symm⟩
          have hgn6:GnW p w6 st:=by
            have:=hw.gn
            rw [if_neg (by rw [h9];decide)] at this
            exact this.kept fun b hb=>hg6.2 b (this.lt b hb) fun e=>by have:=hPB b hb;have:=(hA3 b e).1;omega
          refine ⟨(fun h=>by rw [h9] at h;cases h),?_,hw.fr.trans hfr6,fun _=>⟨hn5,fun _=>⟨et,by rw [hg6.2 nb (Array.getElem?_eq_some_iff.1 hnb).1 fun e=>by have:=(hA3 _ e).2;omega];exact hnb⟩⟩,(fun h=>by cases h),fun _=>⟨hr6,?_⟩⟩
          · simp only [show ((9:Nat) == 6)=false from rfl,Bool.false_or,h9];exact hgn6
          · rcases hd6 with ⟨hd,hq⟩ | ⟨g,cap,hv,hv2,hd⟩
            · exact .inl ⟨_,hq,by have:=hw.fr.size;omega,row_kept hrow6 fun b _ h2 _=>hd.block b h2 (by simp)⟩
            · exact .inr ⟨g,cap,hv,hv2⟩
        · exact wpOp_mk rfl rfl (op_load (tysOk 2 (.int .i64) rfl) (ov_eval_out _ _ _ (by rw [yl_dst];decide)) hbx3.h10 (show 1<=1 from Nat.le_refl 1) rfl (YJ.quiet hw rfl hL (by decide) (by decide) (by decide)))
        · exact wpOp_mk rfl rfl (op_move (ov_eval_out _ _ _ (by rw [yl_dst];decide)) (YJ.quiet hw rfl hL (by decide) (by decide) (by decide)))
        · have h6:=hes 6 (by decide)
          have h9:L 9=false:=hL
          obtain ⟨hr6,hd6⟩:=hw.row1 h6
          have hgn:=hw.gn
          rw [if_neg (by rw [h9];decide)] at hgn
          have hfw:∀ k,(Value.slice va now.length vc).ownBlock=some k->B<=k:=fun k hk=>(hA3 k hk).1
          have hBw:B<=W2.heap.size:=by omega
          have hfr2:Fr p (Value.slice va now.length vc).ownBlock wr W2:=Fr.below hba
          have hl9:=rx_fr (rx_fr (show RX Tryz.prog (.sl tq0) false wr (p.S B) [p.lv] list from A8.1) (by omega) hfr2 hfw) hBw hw.fr hfw
          have hk9:=rx_fr (rx_fr (show RX Tryz.prog (.sl tq0) false wr (p.S B) [.slice (some ⟨kb,ko,none⟩) known.length kc] known from A8.2) (by omega) hfr2 hfw) hBw hw.fr hfw
          have hB2:B<=w2.heap.size:=Nat.le_trans hBw hw.fr.size
          have hcall:=ih (now ++ [h]) v' w2 st s2 hgn hl9 hk9 hr6 hB2 A6.1
          unfold stepArgs at hcall
          refine wpOp_mk rfl rfl (op_call (fi:=#[]) (ca:=#[]) rfl (args6 (ov_eval _ 0 0 _ (yl_nd ..) rfl (hes 0 (by decide)) (by simp)) (ov_eval _ 0 1 _ (yl_nd ..) rfl (hes 1 (by decide)) (by simp)) (ov_eval _ 0 2 _ (yl_nd ..) rfl (hes 2 (by decide)) (by simp)) (ov_eval _ 0 6 _ (yl_nd ..) rfl h6 (by simp)) (ov_eval _ 0 7 _ (yl_nd ..) rfl (hes 7 (by decide)) (by simp)) (ov_eval _ 0 8 _ (yl_nd ..) rfl (hes 8 (by decide)) (by simp)))
            Tryz.func89 (by kernel_rfl) (c:=bodyOf Tryz.f89) (by kernel_rfl) hcall ?_)
          rintro e w9 ⟨rfl,hg9,hr9,hf9⟩
          refine ⟨_,rfl,nb,v',(ov_put _ 0 9 _ (yl_nd ..) rfl hL).trans rfl,?_⟩
          have hv':∀ q,v'.ownBlock=some q->(Value.slice va now.length vc).ownBlock=some q\/W2.heap.size<=q:=fun q hq=>by
            rcases hd6 with ⟨q',h1,h2,_⟩ | ⟨g,cap,h1,h2⟩
            · rw [h1] at hq;injection hq with hq;subst hq;exact .inr h2
            · rw [h2] at hq;rw [h1];exact .inl hq
          refine ⟨fun _=>h6,by simpa using hg9,?_,fun h5=>⟨(hw.new h5).1,(fun h=>by cases h)⟩,fun h=>?_,fun _=>⟨hr9,?_⟩⟩
          · refine ⟨hf9.os.trans hw.fr.os,hf9.tape.trans hw.fr.tape,hf9.output.trans hw.fr.output,Nat.le_trans hw.fr.size hf9.size,fun k k1 k2 k3 k4=>?_⟩
            rw [hf9.block k (Nat.lt_of_lt_of_le k1 hw.fr.size) k2 k3 fun e=>?_]
            · exact hw.fr.block k k1 k2 k3 k4
            · rcases hv' k e.symm with h | h
              · exact k4 h.symm
              · omega
          · have h:((6:Nat) == 9 || L 6)=false:=h
            rw [h6] at h;cases h
          · rcases hd6 with ⟨q,h1,h2,h3⟩ | hx
            · exact .inl ⟨q,h1,h2,row_kept h3 fun b k1 k2 k3=>hf9.block b k2 (by omega) (by omega) fun e=>by rw [h1] at e;injection e with e;have:=(hA3 b k3).2;omega⟩
            · exact .inr hx
        · exact wpOp_mk rfl rfl (op_not (ov_eval _ 0 9 _ (yl_nd ..) rfl (hes 9 (by decide)) (by simp)) (YJ.quiet hw rfl hL (by decide) (by decide) (by decide)))
      · intro L a2 w2 hall hJ
        obtain ⟨nb,v',rfl,hw⟩:=hJ
        rw [ov_congr (M:=fun _=>true) (yl p f h (.slice (some ⟨kb,ko,none⟩) known.length kc) (.slice va now.length vc) nb v') 0 _ (fun j _ h2=>hall j (by simpa [yl] using h2))]
        have hg2:=hw.gn
        rw [if_pos (hall 9 (by decide))] at hg2
        obtain ⟨hr2,hd2⟩:=hw.row1 (hall 6 (by decide))
        have hrow2:w2.ownsRow B 30 2 (.slice va now.length vc) now.length (cellsOf now):=by
          rcases hd2 with ⟨_,_,_,h3⟩ | ⟨g,cap,h1,h2⟩
          · exact h3
          · rw [h1]
            rw [h2,cellsOf_snoc,show (now ++ [h]).length=now.length + 1 by simp] at hr2
            exact row_back (cellsOf_len now) hr2
        have hfr2:Fr p (Value.slice va now.length vc).ownBlock w w2:=(hfr.trans (Fr.below hba)).trans hw.fr
        have hbx2:BoxW p f w w2:=(hbx.kept fun b _ h2=>hba.block b (by omega)).kept fun b h1 h2=>hw.fr.block b (by omega) (fun e=>by have:=(show ∀ b,b=p.D\/b=p.ab->b < w.heap.size from A4) b (Or.inl e);omega) (fun e=>by have:=(show ∀ b,b=p.D\/b=p.ab->b < w.heap.size from A4) b (Or.inr e);omega) (fun e=>by have:=(hA3 b e.symm).2;omega)
        have hsz2:w.heap.size + 1 + 1 + 1<=w2.heap.size:=by have:=hw.fr.size;omega
        have hfold2:=(show foldF (fun s h=>stepsF K list p.n f known p.depth m (now ++ [h]) s) (known.drop (i + 1)) s2=some s' from A6.2)
        have A9:Aside (GnW p w2 s2/\foldF (fun s h=>stepsF K list p.n f known p.depth m (now ++ [h]) s) (known.drop (i + 1)) s2=some s'/\BoxW p f w w2/\w2.ownsRow B 30 2 (.slice va now.length vc) now.length (cellsOf now)/\Fr p (Value.slice va now.length vc).ownBlock w w2/\w.heap.size + 1 + 1 + 1<=w2.heap.size):=⟨hg2,hfold2,hbx2,hrow2,hfr2,hsz2⟩
        clear hg2 hr2 hd2 hrow2 hfr2 hbx2 hsz2 hfold2 hw hg hbx hrow hfr hsz hba hx15 hs2 hall hW2
        simp only [ov,yl,pif,cond_true,Act.put,List.setIfInBounds_toArray,List.set_cons_succ,List.set_cons_zero]
        go_wp2
        go_roundw
        case rel=>exact ⟨i + 1,s2,by omega,rfl,A9.1,A9.2.1,A9.2.2.1,A9.2.2.2.1,A9.2.2.2.2.1,A9.2.2.2.2.2⟩
        case measure=>simp [intOf];omega
theorem steps_ok (K:Nat) (p:GnP) (hp:p.Ok) (list:List DFg) (f:DFg) (known:List DFg) (kv:Value) (B:Nat) (hPB:∀ b,b=p.G\/b=p.gb\/b=p.db\/b=p.ab\/b=p.D->b < B):∀ m,StepsC K p list f known kv B m
  | 0=>fun now v w s s' _ _ _ _ _ h=>by cases h
  | m + 1=>fun now v w s s' hw hl hk hrow hB h=>by
    simp only [stepsF] at h
    split at h
    case isTrue hlen=>exact steps_zero K p hp list f known kv B m now v w s s' hw hl hrow hB hPB hlen h
    case isFalse hlen =>
      split at h
      case isFalse=>cases h
      case isTrue hb=>exact steps_succ K p hp list f known kv B m (steps_ok K p hp list f known kv B hPB m) now v w s s' hw hl hk hrow hB hPB hlen hb.1 hb.2 h
end Go.Proofs.YtmlgfaojfmkdnaaGreatDoor.E
namespace Go.Proofs.YtmlgfaojfmkdnaaGreatDoor.E
open Go Go.Proofs Go.Proofs.YtmlgfaojfmkdnaaGreatDoor Go.RowKit
set_option maxRecDepth 100000
set_option maxHeartbeats 8000000
set_option linter.unusedVariables false
section
variable {P:Program} {a:Act} {w:World} {Q:Exit->Act->World->Prop} {next:Act->World->Prop} {dst:Option Nat} {type:TypeId} {pos:String} {after:Array Edge} {guard:Option (Nat × Bool)}
theorem op_index {ty:Nat->Option Ty} (hO:∀ t T,ty t=some T->TyOk P ty t T) {t:Nat} {e:Ty} (ht:ty t=some (.sl e)) {x i:Operand} {b o n c:Nat} {j:Int} (hx:a.eval x=.slice (some ⟨b,o,none⟩) n c) (hi:a.eval i=.int .i64 j) (h0:0<=j) (h1:j < (n:Int))
    (hn:next (a.put dst (.pointer (some ⟨b,o + j.toNat * e.sz,none⟩))) w):(⟨dst,.indexAddr t x i,type,pos,after,guard⟩:Oper).wp P a w next Q:=by
  refine wp_value (w':=w) ?_ hn
  simp only [execOp,hx,hi]
  exact exec_value (indexAt_slice hO ht h0 h1)
theorem op_fieldv {ty:Nat->Option Ty} (hO:∀ t T,ty t=some T->TyOk P ty t T) {t:TypeId} {f:Ty} (ht:ty t=some (.st f)) {x:Operand} {i:Nat} {c d:List Value} (hx:a.eval x=.agg c.toArray) (hlt:i < f.len) (hs:seg c (off f i) (fld f i).sz=d) (hd:d.length=(fld f i).sz)
    (hn:next (a.put dst (valOf (fld f i) d)) w):(⟨dst,.field t x i,type,pos,after,guard⟩:Oper).wp P a w next Q:=by
  obtain ⟨dd,hdd,hu⟩:=(hO _ _ ht).und
  cases dd <;> simp only [UnOk] at hu
  rename_i fs
  cases hf:fs[i]? with
  | none=>rw [Array.getElem?_eq_none_iff] at hf;omega
  | some F =>
    obtain ⟨h3,h4,h5⟩:=hu.2 _ _ hf
    have hpa:=(hO _ _ h4).part (xs:=c.toArray) (o:=off f i) (c:=d) (by simpa using hs) hd w
    refine wp_value (w':=w) ?_ hn
    simp only [execOp,hx]
    refine exec_value ?_
    unfold Instr.field
    simp only [Sem.run_bind,run_underlying hdd,Result.andThen_ok,hf,asAgg,h3]
    simpa using hpa
theorem op_store1 {ty:Nat->Option Ty} {t:TypeId} (ho:TyOk P ty t (.int .i64)) {x y:Operand} {D o L:Nat} {tD:TypeId} {l:List Int} {j:Nat} {d:Int} (hx:a.eval x=.pointer (some ⟨D,o + j,none⟩)) (hy:a.eval y=.int .i64 d) (hd:DepW w D o L tD l) (hj:j < L)
    (hn:∀ w',DepW w' D o L tD (l.set j d)->w.grownBy w' (some D)->w'.heap.size=w.heap.size->next (a.put none undef) w'):(⟨none,.store t x y,type,pos,after,guard⟩:Oper).wp P a w next Q:=by
  obtain ⟨arr,h1,h2,h3,h4⟩:=hd
  refine wp_skip' (w':=w.setRow D (setSeg arr.toList (o + j) [.int .i64 d]).toArray) ?_ ?_
  · simp only [execOp,hx,hy]
    exact exec_skip (by unfold Instr.storeAt;simp only [Instr.sureAddr,Sem.run_bind,pure_run,Result.andThen_ok];exact storeVar_run (T:=.int .i64) ho h1 (cs:=[.int .i64 d]) rfl (fun c hc=>by rw [List.mem_singleton.1 hc];rfl) (by have:(Ty.int .i64).sz=1:=rfl;rw [this];omega))
  · have hl:(setSeg arr.toList (o + j) [Value.int .i64 d]).length=arr.size:=by simp [setSeg];omega
    refine hn _ ⟨_,setRow_heap w D arr _ tD _ h1,by simpa [hl] using h2,by simpa using h3,fun i v hi=>?_⟩ ⟨rfl,rfl,rfl,by simp,fun k _ hk=>setRow_other w D k _ (fun e=>hk (by simp [e]))⟩ (by simp)
    rw [List.getElem?_toArray,setSeg_get (by simp;omega)]
    rw [List.getElem?_set] at hi
    have hil:i < L:=by
      have hlen:=(List.getElem?_eq_some_iff.1 (by rw [<-List.getElem?_set] at hi;exact hi)).1
      simpa [h3] using hlen
    by_cases e:j=i
    · subst e
      rw [if_pos rfl,if_pos (by omega)] at hi
      injection hi with hi
      subst hi
      rw [if_pos ⟨Nat.le_refl _,by simp⟩,Nat.sub_self];rfl
    · rw [if_neg e] at hi
      rw [if_neg (by simp;omega),Array.getElem?_toList];exact h4 i v hi
end
/-! contracts -/
theorem proj_calls (K:Nat) (w:World) (n i:Int) (y:DFg) (hy:i_projection K (n,i,())=some y):Calls Tryz.prog 81 #[.int .i64 n,.int .i64 i] w fun e w'=>e=.returned (.agg #[.int .i64 y.1,.int .i64 y.2.1])/\Below w.heap.size w w':=by
  refine (gcalls (ok_i_projection K) rfl Tryz.func81 (by kernel_rfl) (c:=bodyOf Tryz.f81) (by kernel_rfl) w [.int .i64 n,.int .i64 i] (n,i,()) y ?_ hy).mono ?_
  · exact ⟨[.int .i64 n],[.int .i64 i],rfl,rfl,[.int .i64 i],[],rfl,rfl,rfl⟩
  · rintro e w' ⟨v,rfl,bs,⟨cs,h0,h1⟩,h3,h4,h5⟩
    refine ⟨?_,h5⟩
    obtain ⟨c1,c2,b1,b2,rfl,rfl,⟨rfl,_⟩,c3,c4,b3,b4,rfl,rfl,⟨rfl,_⟩,rfl,_⟩:=h1
    cases h0
    rfl
theorem funcs_calls (K:Nat) (w:World) (n q:Int) (hy:i_funcsOf K (n,())=some q):Calls Tryz.prog 87 #[.int .i64 n] w fun e w'=>e=.returned (.int .i64 q)/\Below w.heap.size w w':=by
  refine (gcalls (ok_i_funcsOf K) rfl Tryz.func87 (by kernel_rfl) (c:=bodyOf Tryz.f87) (by kernel_rfl) w [.int .i64 n] (n,()) q ?_ hy).mono ?_
  · exact ⟨[.int .i64 n],[],rfl,rfl,rfl⟩
  · rintro e w' ⟨v,rfl,bs,⟨cs,h0,h1,h2⟩,h3,h4,h5⟩
    have h1:cs=[.int .i64 q]:=h1
    subst h1
    cases h0
    exact ⟨rfl,h5⟩
/-- a list of numbers that a call made -/
def RepW (w0:World) (D:List Int) (v:Value) (w:World):Prop:=∃ b o c tD,v=.slice (some ⟨b,o,none⟩) D.length c/\D.length<=c/\DepW w b o D.length tD D/\w0.heap.size<=b/\Below w0.heap.size w0 w
theorem rep_calls (K:Nat) (w:World) (b:Nat) (t:TypeId) (q:Int) (D:List Int) (hb:w.heap[b]?=some (.cells #[.int .i64 (-1)] t (0,0))) (h0:D.length ≠ 0) (hy:slices_Repeat_int64 K ([(-1:Int)],q,())=some D) :
    Calls Tryz.prog 86 #[.slice (some ⟨b,0,none⟩) 1 1,.int .i64 q] w fun e w'=>∃ v,e=.returned v/\RepW w D v w':=by
  refine (gcalls (ok_slices_Repeat_int64 K) rfl Tryz.func86 (by kernel_rfl) (c:=bodyOf Tryz.f86) (by kernel_rfl) w [.slice (some ⟨b,0,none⟩) 1 1,.int .i64 q] ([(-1:Int)],q,()) D ?_ hy).mono ?_
  · refine ⟨[.slice (some ⟨b,0,none⟩) 1 1],[.int .i64 q],rfl,?_,[.int .i64 q],[],rfl,rfl,rfl⟩
    refine ⟨some ⟨b,0,none⟩,1,1,rfl,rfl,Nat.le_refl _,.inr ⟨b,0,_,t,(0,0),rfl,(Array.getElem?_eq_some_iff.1 hb).1,hb,Nat.le_refl _,fun i y hy=>?_⟩⟩
    cases i with
    | zero =>
      have:y = -1:=by simpa using hy.symm
      subst this;rfl
    | succ i=>simp at hy
  · rintro e w' ⟨v,rfl,bs,⟨cs,h1,h2⟩,h3,h4,h5⟩
    rcases h2 with ⟨_,h6,_⟩ | ⟨b,o,n,c,arr,ty,bss,h6,h7,h8,h9,h10,h11,h12,h13⟩
    · have h6:D=[]:=h6
      subst h6;exact absurd rfl h0
    · subst h6
      have h8:n=D.length:=h8
      subst h8
      have hs:(Ty.int .i64).sz=1:=rfl
      rw [hs] at h11
      refine ⟨_,rfl,b,o,c,ty,?_,h10,⟨arr,h9,by omega,rfl,fun i y hy=>?_⟩,(h4 b (by rw [h7];simp)).1,h5⟩
      · injection h1
      · have hil:i < bss.length:=by
          have:=(List.getElem?_eq_some_iff.1 hy).1
          omega
        have hbi:bss[i]?=some bss[i]:=List.getElem?_eq_getElem hil
        obtain ⟨hc,_⟩:=h13 i y _ hy hbi
        rw [hs,Nat.mul_one] at hc
        have:=congrArg (·[0]?) hc
        simp only [seg_get] at this
        simpa using this
/-- the part that stands from the start -/
structure GnI (p:GnP) (w:World) (l:List Int):Prop where
  hG:w.heap[p.G]?=some (.cells #[p.lv,.int .i64 p.n,.slice (some ⟨p.D,p.o,none⟩) p.L p.c] 102 (0,0))
  hgb:w.heap[p.gb]?=some (.cells #[.pointer (some ⟨p.G,0,none⟩)] 63 (0,0))
  hD:DepW w p.D p.o p.L p.tD l
theorem GnW.gi {p:GnP} {w:World} {s:GSt} (h:GnW p w s):GnI p w s.1:=⟨h.hG,h.hgb,h.hD⟩
theorem GnI.kept {p:GnP} {w w':World} {l:List Int} (h:GnI p w l) (hk:∀ b,b=p.G\/b=p.gb\/b=p.D->w'.heap[b]?=w.heap[b]?):GnI p w' l:=by
  obtain ⟨h1,h2,arr,h5,h6⟩:=h
  exact ⟨by rw [hk _ (by simp)];exact h1,by rw [hk _ (by simp)];exact h2,arr,by rw [hk _ (by simp)];exact h5,h6⟩
theorem GnI.lt {p:GnP} {w:World} {l:List Int} (h:GnI p w l):∀ b,b=p.G\/b=p.gb\/b=p.D->b < w.heap.size:=by
  obtain ⟨h1,h2,arr,h5,h6⟩:=h
  rintro b (rfl | rfl | rfl)
  · exact (Array.getElem?_eq_some_iff.1 h1).1
  · exact (Array.getElem?_eq_some_iff.1 h2).1
  · exact (Array.getElem?_eq_some_iff.1 h5).1
theorem GnI.below {p:GnP} {w w':World} {l:List Int} (h:GnI p w l) {B:Nat} (hb:Below B w w') (hB:w.heap.size<=B):GnI p w' l:=h.kept fun b hb'=>hb.block b (Nat.lt_of_lt_of_le (h.lt b hb') hB)
theorem rx_gi {P:Program} {p:GnP} {w:World} {l:List Int} {T:Nat->Prop} {list:List DFg} (hlc:p.L<=p.c) (hw:GnI p w l) (hl:RX P (.sl tq0) false w T [p.lv] list) (hT:∀ b,T b->b < w.heap.size) :
    RX P (.ptr tq2) false w (fun b=>b < w.heap.size) [.pointer (some ⟨p.G,0,none⟩)] (list,p.n,l,()):=by
  refine rx_ptr (cs:=[p.lv,.int .i64 p.n,.slice (some ⟨p.D,p.o,none⟩) p.L p.c]) hw.hG (hw.lt _ (by simp)) ?_
  exact ⟨[p.lv],_,rfl,RX_congr P (.sl tq0) false (Nat.le_refl _) (fun b h1 h2=>⟨h2,rfl⟩) (fun _ h=>h) hl,[.int .i64 p.n],_,rfl,rfl,[.slice (some ⟨p.D,p.o,none⟩) p.L p.c],[],rfl,rx_dep hlc (hw.lt _ (by simp)) hw.hD,rfl⟩
/-- a list of functions that a call made, to be read -/
def ListW (w0:World) (l:List DFg) (v:Value) (w:World):Prop:=RX Tryz.prog (.sl tq0) false w (fun b=>w0.heap.size<=b/\b < w.heap.size) [v] l/\Below w0.heap.size w0 w
theorem list_of_ret {w w':World} {l:List DFg} {v:Value} (h:Ret (.sl tq0) l w v w'):ListW w l v w':=by
  obtain ⟨bs,⟨cs,h1,h2⟩,h3,h4,h5⟩:=h
  refine ⟨?_,h5⟩
  have hr:=RX_of_TC Tryz.prog (.sl tq0) (S:=fun b=>w.heap.size<=b/\b < w'.heap.size) h2 fun b hb=>h4 b hb
  have hl:=RX_len _ _ _ _ _ _ hr
  have e:[v]=cs:=by
    have hl:cs.length=1:=hl
    obtain ⟨x,rfl⟩:∃ x,cs=[x]:=by
      match cs,hl with
      | [x],_=>exact ⟨x,rfl⟩
    rw [h1];rfl
  rw [e];exact hr
theorem known_calls (K:Nat) (p:GnP) (hlc:p.L<=p.c) {w:World} {l:List Int} {T:Nat->Prop} {list known:List DFg} (hw:GnI p w l) (hl:RX Tryz.prog (.sl tq0) false w T [p.lv] list) (hT:∀ b,T b->b < w.heap.size) (depth:Int) (hy:i_generated_known K ((list,p.n,l,()),depth,())=some known) :
    Calls Tryz.prog 88 #[.pointer (some ⟨p.G,0,none⟩),.int .i64 depth] w fun e w'=>∃ v,e=.returned v/\ListW w known v w':=by
  refine (gcalls (ok_i_generated_known K) rfl Tryz.func88 (by kernel_rfl) (c:=bodyOf Tryz.f88) (by kernel_rfl) w [.pointer (some ⟨p.G,0,none⟩),.int .i64 depth] ((list,p.n,l,()),depth,()) known ?_ hy).mono ?_
  · exact ⟨[.pointer (some ⟨p.G,0,none⟩)],[.int .i64 depth],rfl,rx_gi hlc hw hl hT,[.int .i64 depth],[],rfl,rfl,rfl⟩
  · rintro e w' ⟨v,rfl,h⟩
    exact ⟨v,rfl,list_of_ret h⟩
theorem all_calls (K:Nat) (p:GnP) (hlc:p.L<=p.c) {w:World} {l:List Int} {T:Nat->Prop} {list known:List DFg} (hw:GnI p w l) (hl:RX Tryz.prog (.sl tq0) false w T [p.lv] list) (hT:∀ b,T b->b < w.heap.size) (hy:i_generated_all K ((list,p.n,l,()),())=some known) :
    Calls Tryz.prog 37 #[.pointer (some ⟨p.G,0,none⟩)] w fun e w'=>∃ v,e=.returned v/\Ret (.sl tq0) known w v w' :=
  gcalls (ok_i_generated_all K) rfl Tryz.func37 (by kernel_rfl) (c:=bodyOf Tryz.f37) (by kernel_rfl) w [.pointer (some ⟨p.G,0,none⟩)] ((list,p.n,l,()),()) known ⟨[.pointer (some ⟨p.G,0,none⟩)],[],rfl,rx_gi hlc hw hl hT,rfl⟩ hy
end Go.Proofs.YtmlgfaojfmkdnaaGreatDoor.E
