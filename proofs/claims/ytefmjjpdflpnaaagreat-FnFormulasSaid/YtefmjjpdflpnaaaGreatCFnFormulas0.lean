/-
  An evaluator of Go's Code over plain values: its definitions (types of plain values, abstract states, operations, regions, code). Conditions: none; what it is worth is proved in the texts behind it.
-/
import Derived.Calls
import Derived.Orders
import Derived.Below
import Derived.Tactics
import Derived.Laws.Slices
import Derived.Laws.StructEq
import Derived.Laws.Tables
import Derived.Laws.Rows
import Derived.Laws.CopyRow
import Derived.Laws.Cells
import Derived.Laws.BytesString
import Derived.Laws.AppendOwn
import Derived.Laws.MakeOwn
import Derived.Great.BuildSlice
import Derived.OpenShut
import Derived.Deep.Slices
import Derived.ProofKit
import Derived.Laws.Externs
import Derived.Shelf.SlicesE.Clone
import Derived.Lib.Bytealg
import Derived.WalkKit
import Derived.Handed
import Derived.ShutString
import Derived.ChangeOld
import Derived.SizedLaws
import Derived.Test.YtefmjjpdflpnaaaGreatRows
import Derived.KernelRfl
import Derived.WalkSpells
import Derived.Maps.RangeWalk
import Derived.Maps.AppendAt
import Derived.Maps.OwnSet
import Derived.Maps.StringElems
import Derived.StringKeys
import Derived.Shelf.Strings.OnBuilder
import Derived.Deep.LoopGhost
import Derived.Lib.OthersKept
import Derived.BigQuiet
import Derived.Deep.QuietTactic
namespace Go.Proofs.YtefmjjpdflpnaaaGreat.E
open Go
/-- A byte and formulas. -/
inductive Frm where
  | mk (c:Int) (ps:List Frm)
def Frm.c:Frm->Int | .mk c _=>c
def Frm.ps:Frm->List Frm | .mk _ ps=>ps
inductive Ty where
  | frm
  | int (k:IntKind)
  | bool
  | str
  | unit
  | pair (a b:Ty)
  | st (f:Ty)
  | tup (f:Ty)
  | sl (e:Ty)
  | arr (n:Nat) (e:Ty)
  | ptr (e:Ty)
  | fn (a r:Ty)
  deriving DecidableEq
@[reducible] def den:Ty->Type
  | .int _=>Int
  | .bool=>Bool
  | .str=>ByteArray
  | .unit=>Unit
  | .pair a b=>den a × den b
  | .st f=>den f
  | .tup f=>den f
  | .sl e=>List (den e)
  | .arr _ e=>List (den e)
  | .ptr e=>den e
  | .fn a r=>den a->Option (den r)
  | .frm=>Frm
/-- A formula's fields as a plain list of fields. -/
def frF:Ty:=.pair (.int .u8) (.pair (.sl (.st .frm)) .unit)
def frU:Ty:=.st frF
def toFrm (x:den frF):Frm:=.mk x.1 x.2.1
/-- The number of cells of a value in memory. -/
def Ty.sz:Ty->Nat
  | .unit=>0
  | .pair a b=>a.sz + b.sz
  | .st f=>f.sz
  | .tup f=>f.sz
  | .arr n e=>n * e.sz
  | .frm=>2
  | _=>1
/-- Does a value of the type lead to memory? -/
def Ty.mem:Ty->Bool
  | .pair a b=>a.mem || b.mem
  | .st f=>f.mem
  | .tup f=>f.mem
  | .arr _ e=>e.mem
  | .sl _=>true
  | .ptr _=>true
  | .fn _ _=>true
  | .frm=>true
  | _=>false
def dflt:(T:Ty)->den T
  | .int _=>(0:Int)
  | .bool=>false
  | .str=>ByteArray.empty
  | .unit=>()
  | .pair a b=>(dflt a,dflt b)
  | .st f=>dflt f
  | .tup f=>dflt f
  | .sl _=>[]
  | .arr n e=>List.replicate n (dflt e)
  | .ptr e=>dflt e
  | .fn _ _=>fun _=>none
  | .frm=>.mk 0 []
def fld:Ty->Nat->Ty
  | .frm,0=>.int .u8
  | .frm,1=>.sl (.st .frm)
  | .pair a _,0=>a
  | .pair _ b,n + 1=>fld b n
  | _,_=>.unit
def off:Ty->Nat->Nat
  | .frm,1=>1
  | .pair _ _,0=>0
  | .pair a b,n + 1=>a.sz + off b n
  | _,_=>0
def getF:(f:Ty)->den f->(n:Nat)->den (fld f n)
  | .frm,x,0=>x.c
  | .frm,x,1=>x.ps
  | .frm,_,_ + 2=>()
  | .pair _ _,x,0=>x.1
  | .pair _ b,x,n + 1=>getF b x.2 n
  | .int _,_,_=>() | .bool,_,_=>() | .str,_,_=>() | .unit,_,_=>() | .st _,_,_=>() | .tup _,_,_=>() | .sl _,_,_=>() | .arr _ _,_,_=>()
  | .ptr _,_,_=>() | .fn _ _,_,_=>()
def setF:(f:Ty)->den f->(n:Nat)->den (fld f n)->den f
  | .frm,x,0,y=>.mk y x.ps
  | .frm,x,1,y=>.mk x.c y
  | .frm,x,_ + 2,_=>x
  | .pair _ _,x,0,y=>(y,x.2)
  | .pair _ b,x,n + 1,y=>(x.1,setF b x.2 n y)
  | .int _,x,_,_=>x | .bool,x,_,_=>x | .str,x,_,_=>x | .unit,x,_,_=>x | .st _,x,_,_=>x | .tup _,x,_,_=>x | .sl _,x,_,_=>x | .arr _ _,x,_,_=>x
  | .ptr _,x,_,_=>x | .fn _ _,x,_,_=>x
/-- A plain value with its type. -/
abbrev Sg:=(T:Ty) × den T
def getP:List Nat->(T:Ty)->den T->Sg
  | [],T,x=>⟨T,x⟩
  | n :: r,.st f,x=>getP r (fld f n) (getF f x n)
  | _ :: _,_,_=>⟨.unit,()⟩
def setP:List Nat->(T:Ty)->den T->Sg->den T
  | [],T,x,y=>if h:y.1=T then h ▸ y.2 else x
  | n :: r,.st f,x,y=>setF f x n (setP r (fld f n) (getF f x n) y)
  | _ :: _,_,x,_=>x
def offP:List Nat->Ty->Nat
  | [],_=>0
  | n :: r,.st f=>off f n + offP r (fld f n)
  | _ :: _,_=>0
def tyP:List Nat->Ty->Ty
  | [],T=>T
  | n :: r,.st f=>tyP r (fld f n)
  | _ :: _,_=>.unit
inductive SV where
  | val (T:Ty) (x:den T)
  | nil
  | ref (t g:Nat) (e:Ty)
  | sub (t g h:Nat) (i:Int) (fs:List Nat) (e:Ty)
  | vw (t g:Nat) (lo n:Int) (e:Ty)
  | sap (t g h:Nat) (i:Int) (fs:List Nat) (e:Ty) (l:List (den e)) (gd:Nat)
  | pel (t g:Nat) (i:Int) (fs:List Nat)
  | pbx (b g:Nat) (fs:List Nat)
  | pix (b g:Nat) (fs:List Nat) (i:Int)
  | unit
  | pair (a b:SV)
  | st (a:SV)
  | tup (a:SV)
  | clo (f:Nat) (fi ca:SV)
  | mp (t:Nat) (g:ByteArray->ByteArray)
inductive Cell where
  | none
  | sv (v:SV)
  | root (g h:Nat) (e:Ty) (l:List (den e))
  | box (g:Nat) (T:Ty) (v:SV)
  | gone (g:Nat)
  | own (g:Nat)
abbrev St:=Nat->Cell
def upd (s:St) (k:Nat) (c:Cell):St:=fun j=>bif Nat.beq j k then c else s j
def upds:St->List (Nat × Cell)->St
  | s,[]=>s
  | s,(k,c) :: r=>upds (upd s k c) r
def sk (i:Nat):Nat:=3 * i
def rk (t:Nat):Nat:=3 * t + 1
def bk (b:Nat):Nat:=3 * b + 2
def Cell.gen:Cell->Nat
  | .root g _ _ _=>g
  | .box g _ _=>g
  | .gone g=>g
  | .own g=>g
  | _=>0
inductive M (α:Type) where
  | ret (a:α)
  | get (k:Nat) (f:Cell->M α)
  | chk (b:Bool) (m:M α)
  | br (b:Bool) (m1 m2:M α)
  | fail
  | call (A R:Ty) (F:den A->Option (den R)) (x:den A) (f:den R->M α)
def M.run {α:Type}:M α->St->Option (List Nat × α)
  | .ret a,_=>some ([],a)
  | .get k f,s=>((f (s k)).run s).map fun p=>(k :: p.1,p.2)
  | .chk b m,s=>if b=true then m.run s else none
  | .br b m1 m2,s=>if b=true then m1.run s else m2.run s
  | .fail,_=>none
  | .call _ _ F x f,s=>(F x).bind fun y=>(f y).run s
/-- The same, with what follows handed in, and the keys read so far in 'rd'. -/
def M.go {α R:Type}:M α->St->List Nat->(List Nat->α->Option R)->Option R
  | .ret a,_,rd,K=>K rd a
  | .get k f,s,rd,K=>(f (s k)).go s (k :: rd) K
  | .chk b m,s,rd,K=>if b=true then m.go s rd K else none
  | .br b m1 m2,s,rd,K=>if b=true then m1.go s rd K else m2.go s rd K
  | .fail,_,_,_=>none
  | .call _ _ F x f,s,rd,K=>(F x).bind fun y=>(f y).go s rd K
inductive Shp where
  | v (T:Ty)
  | r (e:Ty)
  | bx (c:Shp)
  | cl (f:Nat) (c:Shp)
  | unit
  | pair (a b:Shp)
  | st (a:Shp)
def Shp.ty:Shp->Ty
  | .v T=>T
  | .r e=>.sl e
  | .bx c=>.ptr c.ty
  | .cl _ c=>.ptr c.ty
  | .unit=>.unit
  | .pair a b=>.pair a.ty b.ty
  | .st a=>.st a.ty
abbrev Lv:=List (Nat × Shp)
def Lv.ty:Lv->Ty
  | []=>.unit
  | p :: l=>.pair p.2.ty (Lv.ty l)
def isBx:Shp->Bool
  | .bx _=>true
  | .cl _ _=>true
  | _=>false
/-- The parameters that a callee may change: boxes. -/
def outL:Lv->Lv
  | []=>[]
  | (i,.bx c) :: l=>(i,.bx c) :: outL l
  | (i,.cl f c) :: l=>(i,.cl f c) :: outL l
  | _ :: l=>outL l
/-- A contract by shapes: parameters, results, and what it hands back: the results and the contents of the boxes. -/
structure ShSpec where
  ps:Lv
  rl:Lv
  F:den ps.ty->Option (den rl.ty × den (outL ps).ty)
structure FnSpec where
  pas:Ty
  mu:List Bool
  ret:Ty
  F:den pas->Option (den ret)
structure Cfg where
  ty:Nat->Option Ty
  fn:Nat->Option FnSpec
  prot:Nat
  nt:Nat
  fs:Nat->Option ShSpec:=fun _=>Option.none
  mp:Nat->Option (Nat × (ByteArray->ByteArray)):=fun _=>Option.none
def asTy {β:Type} (T:Ty) (s:Sg) (z:β) (f:den T->β):β:=if h:s.1=T then f (h ▸ s.2) else z
def SV.nth:SV->Nat->Option SV
  | .pair a _,0=>some a
  | .pair _ b,n + 1=>b.nth n
  | _,_=>Option.none
def SV.setNth:SV->Nat->SV->Option SV
  | .pair _ b,0,y=>some (.pair y b)
  | .pair a b,n + 1,y=>(b.setNth n y).map (.pair a)
  | _,_,_=>Option.none
def expd:(f:Ty)->den f->SV
  | .pair a b,x=>.pair (.val a x.1) (expd b x.2)
  | _,_=>.unit
/-- Lists of values, one behind the other. -/
def appSV:SV->SV->SV
  | .pair a b,w=>.pair a (appSV b w)
  | _,w=>w
/-- Parts that are plain, put together. -/
def plainS:SV->Option Sg
  | .val T x=>some ⟨T,x⟩
  | .unit=>some ⟨.unit,()⟩
  | .pair a b=>match plainS a with
    | some ⟨A,x⟩=>(match plainS b with
      | some ⟨B,y⟩=>some ⟨.pair A B,(x,y)⟩
      | Option.none=>Option.none)
    | Option.none=>Option.none
  | .st a=>match plainS a with
    | some ⟨A,x⟩=>some ⟨.st A,x⟩
    | Option.none=>Option.none
  | _=>Option.none
def SV.atP:List Nat->SV->Option SV
  | [],v=>some v
  | n :: r,.val (.st f) x=>SV.atP r (.val (fld f n) (getF f x n))
  | n :: r,.st a=>(match a.nth n with | some v=>SV.atP r v | Option.none=>Option.none)
  | _ :: _,_=>Option.none
def mkSt' (a:SV):SV:=match plainS a with | some ⟨A,x⟩=>.val (.st A) x | Option.none=>.st a
def SV.setP:List Nat->SV->SV->Option SV
  | [],_,y=>some y
  | n :: r,.val (.st f) x,y=>(match SV.setP r (.val (fld f n) (getF f x n)) y with
    | some (.val T z)=>if h:T=fld f n then some (.val (.st f) (setF f x n (h ▸ z))) else Option.none
    | some v=>((expd f x).setNth n v).map .st
    | Option.none=>Option.none)
  | n :: r,.st a,y=>(match a.nth n with
    | some v=>(match SV.setP r v y with
      | some w=>(a.setNth n w).map mkSt'
      | Option.none=>Option.none)
    | Option.none=>Option.none)
  | _ :: _,_,_=>Option.none
def SV.hasTy:SV->Ty->Bool
  | .val T' _,T=>decide (T'=T)
  | .nil,.sl _=>true
  | .ref _ _ e,.sl e'=>decide (e=e')
  | .sub _ _ _ _ _ e,.sl e'=>decide (e=e')
  | .vw _ _ _ _ e,.sl e'=>decide (e=e')
  | .st a,.st f=>a.hasTy f
  | .pair a b,.pair A B=>a.hasTy A && b.hasTy B
  | .unit,.unit=>true
  | .pbx _ _ _,.ptr _=>true
  | .pix _ _ _ _,.ptr _=>true
  | .pel _ _ _ _,.ptr _=>true
  | .clo _ _ _,.fn _ _=>true
  | .clo _ _ _,.ptr _=>true
  | _,_=>false
def slot {α:Type} (i:Nat) (f:SV->M α):M α:=.get (sk i) fun | .sv v=>f v | _=>.fail
def constS:Value->Option SV
  | .int k n=>some (.val (.int k) n)
  | .bool b=>some (.val .bool b)
  | .string s=>some (.val .str s)
  | .slice Option.none 0 0=>some .nil
  | _=>Option.none
def opd {α:Type} (o:Operand) (f:SV->M α):M α:=match o with
  | .tmp t=>slot t f
  | .const v=>(match constS v with | some s=>f s | Option.none=>.fail)
  | .func g=>f (.clo g .unit .unit)
  | _=>.fail
def opds {α:Type}:List Operand->(SV->M α)->M α
  | [],f=>f .unit
  | o :: r,f=>opd o fun a=>opds r fun b=>(match a with | .tup _=>.fail | a=>f (.pair a b))
def SV.len:SV->Nat
  | .pair _ b=>b.len + 1
  | _=>0
def takeTy:Nat->Ty->Ty
  | n + 1,.pair a b=>.pair a (takeTy n b)
  | _,_=>.unit
def dropTy:Nat->Ty->Ty
  | n + 1,.pair _ b=>dropTy n b
  | 0,T=>T
  | _,_=>.unit
def Ty.len:Ty->Nat
  | .pair _ b=>b.len + 1
  | .frm=>2
  | _=>0
/-- Lists of types, one behind the other, and their values. -/
def app:Ty->Ty->Ty
  | .pair a b,U=>.pair a (app b U)
  | _,U=>U
def appD:(T:Ty)->{U:Ty}->den T->den U->den (app T U)
  | .pair _ b,_,x,y=>(x.1,appD b x.2 y)
  | .int _,_,_,y=>y | .bool,_,_,y=>y | .str,_,_,y=>y | .unit,_,_,y=>y | .st _,_,_,y=>y | .tup _,_,_,y=>y | .sl _,_,_,y=>y
  | .arr _ _,_,_,y=>y | .ptr _,_,_,y=>y | .fn _ _,_,_,y=>y | .frm,_,_,y=>y
def Ty.isList:Ty->Bool
  | .pair _ b=>b.isList
  | .unit=>true
  | _=>false
def sliceL {α:Type} (l:List α) (lo hi:Int):List α:=(l.take hi.toNat).drop lo.toNat
/-- The plain value that a tmp's value comes to, read as type T. -/
def res (cf:Cfg) {α:Type}:Nat->(T:Ty)->SV->(den T->M α)->M α
  | 0,_,_,_=>.fail
  | _ + 1,T,.val T' x,f=>if h:T'=T then f (h ▸ x) else .fail
  | _ + 1,.sl _,.nil,f=>f []
  | _ + 1,.sl e,.ref t g _,f=>.get (rk t) fun
    | .root g' _ e' l=>if h:e'=e then .chk (Nat.beq g g') (f (h ▸ l)) else .fail
    | _=>.fail
  | _ + 1,.sl e,.sub t g h i fs _,f=>.get (rk t) fun
    | .root g' h' e' l=>.chk (Nat.beq g g' && Nat.beq h h') (asTy (.sl e) (getP fs e' (l.getD i.toNat (dflt e'))) .fail f)
    | _=>.fail
  | _ + 1,.sl e,.vw t g lo n _,f=>.get (rk t) fun
    | .root g' _ e' l=>if hh:e'=e then .chk (Nat.beq g g') (f (hh ▸ sliceL l lo (lo + n))) else .fail
    | _=>.fail
  | n + 1,.st .frm,.st a,f=>res cf n frF a fun x=>f (toFrm x)
  | n + 1,.st F,.st a,f=>res cf n F a f
  | _ + 1,.unit,.unit,f=>f ()
  | n + 1,.pair A B,.pair a b,f=>res cf n A a fun x=>res cf n B b fun y=>f (x,y)
  | n + 1,.ptr e,.pbx b g fs,f=>.get (bk b) fun
    | .box g' _ c=>.chk (Nat.beq g g') (match c.atP fs with | some c'=>res cf n e c' f | Option.none=>.fail)
    | _=>.fail
  | _ + 1,.ptr e,.pel t g i fs,f=>.get (rk t) fun
    | .root g' _ e' l=>.chk (Nat.beq g g') (asTy e (getP fs e' (l.getD i.toNat (dflt e'))) .fail f)
    | _=>.fail
  | n + 1,.fn A R,.clo k fi ca,f=>(match cf.fn k with
    | some sp =>
      if h:app (takeTy fi.len sp.pas) (app A (dropTy (fi.len + A.len) sp.pas))=sp.pas/\sp.ret=R/\sp.mu.any id=false/\A.isList=true then
        res cf n (takeTy fi.len sp.pas) fi fun x=>res cf n (dropTy (fi.len + A.len) sp.pas) ca fun z =>
          f fun y=>h.2.1 ▸ sp.F (h.1 ▸ appD _ x (appD A y z))
      else .fail
    | Option.none=>.fail)
  | _ + 1,_,_,_=>.fail
/-- New roots for what a callee hands back: root numbers from d on. -/
def own:(T:Ty)->den T->Nat->(Nat->Nat)->SV × List (Nat × Cell) × Nat
  | .sl e,l,d,gn=>(.ref d (gn d) e,[(rk d,.root (gn d) 0 e l)],d + 1)
  | .pair a b,x,d,gn =>
    let p:=own a x.1 d gn
    let q:=own b x.2 p.2.2 gn
    (.pair p.1 q.1,p.2.1 ++ q.2.1,q.2.2)
  | .st f,x,d,gn=>bif f.mem then (let p:=own f x d gn;(.st p.1,p.2.1,p.2.2)) else (.val (.st f) x,[],d)
  | .tup f,x,d,gn=>let p:=own f x d gn;(.tup p.1,p.2.1,p.2.2)
  | .unit,_,d,_=>(.unit,[],d)
  | T,x,d,_=>(.val T x,[],d)
/-- An open number stops the computation here. -/
def gI {α:Type} (a:Int) (x:α):α:=match a with
  | .ofNat _=>x
  | .negSucc _=>x
theorem gI_eq {α:Type} (a:Int) (x:α):gI a x=x:=by cases a <;> rfl
def bitI (op:BinOp) (k:IntKind) (a b:Int):Int:=gI a (gI b (
  k.wrap ((match op with
    | .and=>BitVec.ofInt k.bits a &&& BitVec.ofInt k.bits b
    | .or=>BitVec.ofInt k.bits a ||| BitVec.ofInt k.bits b
    | .xor=>BitVec.ofInt k.bits a ^^^ BitVec.ofInt k.bits b
    | _=>BitVec.ofInt k.bits a &&& ~~~(BitVec.ofInt k.bits b):BitVec k.bits).toNat:Int)))
def shlI (k:IntKind) (a b:Int):Int:=k.wrap (a * 2 ^ min b.toNat k.bits)
def shrI (k:IntKind) (a b:Int):Int:=a.fdiv (2 ^ min b.toNat k.bits)
def Ty.flat:Ty->Bool
  | .int _=>true
  | .bool=>true
  | .str=>true
  | .unit=>true
  | .pair a b=>a.flat && b.flat
  | .st f=>f.flat
  | _=>false
/-- Structs are made of lists of fields. -/
def Ty.listy:Ty->Bool
  | .pair a b=>a.listy && b.listy
  | .st f=>f.isList && f.listy
  | _=>true
def Ty.isPU:Ty->Bool
  | .pair _ _=>true
  | .frm=>true
  | .unit=>true
  | _=>false
/-- The same, and no field is itself a bare list. -/
def Ty.flds:Ty->Bool
  | .pair a b=>!a.isPU && a.flds && b.flds
  | .st f=>f.isList && f.flds
  | _=>true
def Ty.dep:Ty->Nat
  | .pair a b=>max a.dep b.dep
  | .st f=>f.dep + 1
  | _=>1
def eqD:(T:Ty)->den T->den T->Bool
  | .int _,a,b=>decide ((a:Int)=b)
  | .bool,a,b=>(a:Bool) == b
  | .str,a,b=>(a:ByteArray).toList == (b:ByteArray).toList
  | .pair a b,x,y=>eqD a x.1 y.1 && eqD b x.2 y.2
  | .st f,x,y=>eqD f x y
  | _,_,_=>true
def cmpI:BinOp->Int->Int->Bool
  | .eql,a,b=>decide (a=b)
  | .neq,a,b=>!decide (a=b)
  | .lss,a,b=>decide (a < b)
  | .leq,a,b=>decide (a<=b)
  | .gtr,a,b=>decide (a > b)
  | _,a,b=>decide (a ≥ b)
def cmpS:BinOp->ByteArray->ByteArray->Bool
  | .eql,a,b=>a.toList == b.toList
  | .neq,a,b=>!(a.toList == b.toList)
  | .lss,a,b=>Op.bytesLess a.toList b.toList
  | .leq,a,b=>Op.bytesLess a.toList b.toList || a.toList == b.toList
  | .gtr,a,b=>!(Op.bytesLess a.toList b.toList || a.toList == b.toList)
  | _,a,b=>!Op.bytesLess a.toList b.toList
def isCmp:BinOp->Bool
  | .eql | .neq | .lss | .leq | .gtr | .geq=>true
  | _=>false
def binM {α:Type} (xt:Option Ty) (op:BinOp):Sg->Sg->(Sg->M α)->M α
  | ⟨.int k,a⟩,⟨.int k',b⟩,f =>
    match op with
    | .shl=>.chk (decide ((0:Int)<=b)) (f ⟨.int k,shlI k a b⟩)
    | .shr=>.chk (decide ((0:Int)<=b)) (f ⟨.int k,shrI k a b⟩)
    | op=>if k=k' then (match op with
      | .add=>f ⟨.int k,k.wrap ((a:Int) + b)⟩
      | .sub=>f ⟨.int k,k.wrap ((a:Int) - b)⟩
      | .mul=>f ⟨.int k,k.wrap ((a:Int) * b)⟩
      | .quo=>.chk (!decide ((b:Int)=0)) (f ⟨.int k,k.wrap ((a:Int).tdiv b)⟩)
      | .rem=>.chk (!decide ((b:Int)=0)) (f ⟨.int k,(a:Int).tmod b⟩)
      | .and=>f ⟨.int k,bitI .and k a b⟩
      | .or=>f ⟨.int k,bitI .or k a b⟩
      | .xor=>f ⟨.int k,bitI .xor k a b⟩
      | .andNot=>f ⟨.int k,bitI .andNot k a b⟩
      | op=>f ⟨.bool,cmpI op a b⟩) else .fail
  | ⟨.str,a⟩,⟨.str,b⟩,f =>
    match op with
    | .add=>.chk (decide ((a:ByteArray).size + (b:ByteArray).size<=9223372036854775807)) (f ⟨.str,(a:ByteArray) ++ b⟩)
    | op=>bif isCmp op then f ⟨.bool,cmpS op a b⟩ else .fail
  | ⟨.bool,a⟩,⟨.bool,b⟩,f=>bif decide (xt=some .bool) then
    (match op with
    | .eql=>f ⟨.bool,(a:Bool) == b⟩
    | .neq=>f ⟨.bool,!((a:Bool) == b)⟩
    | _=>.fail) else .fail
  | ⟨.st F,a⟩,⟨.st G,b⟩,f =>
    if h:G=F then bif F.flat && F.isList && F.listy && Nat.blt F.dep 90 && decide (xt=some (.st F)) then (match op with
      | .eql=>f ⟨.bool,eqD F a (h ▸ b)⟩
      | .neq=>f ⟨.bool,!eqD F a (h ▸ b)⟩
      | _=>.fail) else .fail
    else .fail
  | _,_,_=>.fail
def bytesOf (l:List Int):ByteArray:=⟨(l.map fun n=>UInt8.ofNat n.toNat).toArray⟩
def byteAt (s:ByteArray) (i:Int):Int:=((s.data.getD i.toNat 0).toNat:Int)
def lim:Nat:=1099511627776
def stFld:(T:Ty)->den T->Option SV
  | .st f,x=>bif f.isList then some (expd f x) else Option.none
  | _,_=>Option.none
abbrev U:=List (Nat × Cell)
def wr (cf:Cfg) (dst:Option Nat) (sv:SV) (more:U):M U:=match dst with
  | some d=>bif Nat.ble cf.prot d && Nat.blt d cf.nt then .ret ((sk d,.sv sv) :: more) else .fail
  | Option.none=>.ret more
def wrS (cf:Cfg) (dst:Option Nat) (s:Sg):M U:=wr cf dst (.val s.1 s.2) []
def gens {α:Type}:Nat->Nat->(List Nat->M α)->M α
  | 0,_,f=>f []
  | n + 1,d,f=>.get (rk d) fun c=>gens n (d + 1) fun l=>f ((c.gen + 1) :: l)
def nroots:Ty->Nat
  | .sl _=>1
  | .pair a b=>nroots a + nroots b
  | .st f=>nroots f
  | .tup f=>nroots f
  | _=>0
def Ty.isTup:Ty->Bool
  | .tup _=>true
  | _=>false
/-- A formula's type. -/
def Ty.isFr:Ty->Bool
  | .st .frm=>true
  | _=>false
def Ty.ownable:Ty->Bool
  | .ptr _=>false
  | .frm=>false
  | .fn _ _=>false
  | .arr _ e=>!e.mem
  | .pair a b=>!a.isTup && a.ownable && b.ownable
  | .st f=>f.ownable
  | .tup f=>f.ownable
  | .sl e=>(e.ownable || e.isFr) && !(match e with | .tup _=>true | _=>false)
  | _=>true
def goneU (l:List (Nat × Nat)):U:=l.map fun p=>(rk p.1,.gone p.2)
/-- A result, given roots of its own, stored in dst; the roots r are used up. -/
def wrOwn (cf:Cfg) (dst:Option Nat) (T:Ty) (x:den T) (r:List (Nat × Nat)):M U:=match dst with
  | some d=>bif r.all (fun p=>Nat.blt p.1 (8 * d) || Nat.ble (8 * d + nroots T) p.1) then
      gens (nroots T) (8 * d) fun gl =>
        let p:=own T x (8 * d) (fun i=>gl.getD (i - 8 * d) 0)
        wr cf dst p.1 (p.2.1 ++ goneU r)
      else .fail
  | Option.none=>.ret (goneU r)
/-- Values of the type stand in cells, and lead to no memory. -/
def Ty.vok:Ty->Bool
  | .int _=>true
  | .bool=>true
  | .str=>true
  | .unit=>true
  | .pair a b=>a.vok && b.vok
  | .st f=>f.vok
  | .arr _ e=>e.vok
  | _=>false
def zeroSV:Ty->Option SV
  | .sl _=>some .nil
  | .pair a b=>match zeroSV a,zeroSV b with
    | some x,some y=>some (.pair x y)
    | _,_=>Option.none
  | .st f=>bif f.vok then some (.val (.st f) (dflt f)) else (zeroSV f).map .st
  | .unit=>some .unit
  | .ptr _=>Option.none
  | .fn _ _=>Option.none
  | .tup _=>Option.none
  | T=>bif T.vok then some (.val T (dflt T)) else Option.none
/-- Is the type's zero known? -/
def Ty.zok (T:Ty):Bool:=(zeroSV T).isSome || T.isFr
def expS (t g h:Nat) (i:Int):(T:Ty)->den T->List Nat->Nat->SV
  | .sl e,_,fs,_=>.sub t g h i fs e
  | .st f,x,fs,_=>bif f.mem then .st (expS t g h i f x fs 0) else .val (.st f) x
  | .pair a b,x,fs,n=>.pair (expS t g h i a x.1 (fs ++ [n]) 0) (expS t g h i b x.2 fs (n + 1))
  | .unit,_,_,_=>.unit
  | T,x,_,_=>.val T x
/-- Values moved into a new owner: roots that are used up are told. -/
def mv {α:Type}:(T:Ty)->SV->(den T->List (Nat × Nat)->M α)->M α
  | T,.val T' x,f=>if h:T'=T then bif T.mem then .fail else f (h ▸ x) [] else .fail
  | .sl _,.nil,f=>f [] []
  | .sl e,.ref t g _,f=>.get (rk t) fun
    | .root g' _ e' l=>if h:e'=e then .chk (Nat.beq g g') (f (h ▸ l) [(t,g)]) else .fail
    | _=>.fail
  | .st .frm,.st a,f=>mv frF a fun x r=>f (toFrm x) r
  | .st F,.st a,f=>mv F a f
  | .tup F,.tup a,f=>mv F a f
  | .unit,.unit,f=>f () []
  | .pair A B,.pair a b,f=>mv A a fun x r=>mv B b fun y s=>f (x,y) (r ++ s)
  | _,_,_=>.fail
def nodupB:List Nat->Bool
  | []=>true
  | a :: l=>!(l.any (Nat.beq a)) && nodupB l
def zipP:List Nat->SV->List (Nat × SV)
  | i :: r,.pair a b=>(i,a) :: zipP r b
  | _,_=>[]
/-- A struct, its fields put in one after the other. -/
def putAll (F:Ty):List (Nat × SV)->SV->Option SV
  | [],v=>some v
  | (i,a) :: r,v=>bif Nat.blt i F.len && a.hasTy (fld F i) then (match v.setP [i] a with
    | some v'=>putAll F r v'
    | Option.none=>Option.none) else Option.none
def upFrom:Nat->List Nat->Bool
  | _,[]=>true
  | k,i :: r=>Nat.beq i k && upFrom (k + 1) r
def replT:Nat->Ty->Ty
  | 0,_=>.unit
  | n + 1,e=>.pair e (replT n e)
def listD (e:Ty):(n:Nat)->den (replT n e)->List (den e)
  | 0,_=>[]
  | n + 1,x=>x.1 :: listD e n x.2
def SV.isVals:SV->Bool
  | .pair (.val _ _) b=>b.isVals
  | .unit=>true
  | _=>false
def argOk:List Bool->Ty->SV->Bool
  | true :: _,A,_=>!A.isPU
  | false :: _,_,.val _ _=>true
  | _,_,_=>false
def argsM (cf:Cfg) {α:Type} (strict:Bool):(T:Ty)->List Bool->SV->(den T->M α)->M α
  | .unit,_,.unit,f=>f ()
  | .pair A B,mu,.pair a b,f=>bif !strict || argOk mu A a then
      res cf 8 A a fun x=>argsM cf strict B mu.tail b fun y=>f (x,y) else .fail
  | _,_,_,_=>.fail
/-- What a callee has done to a root, or to a slice in it. -/
def wb {α:Type}:(T:Ty)->SV->den T->(U->List Nat->M α)->M α
  | _,.val T' _,_,f=>bif T'.mem then .fail else f [] []
  | .sl _,.nil,_,f=>f [] []
  | .sl e,.ref t g _,y,f=>.get (rk t) fun
    | .root g' h e' _=>bif decide (e'=e) then .chk (Nat.beq g g') (f [(rk t,.root g (h + 1) e y)] [t]) else .fail
    | _=>.fail
  | .sl e,.sub t g h i fs _,y,f=>.get (rk t) fun
    | .root g' h' e' l=>.chk (Nat.beq g g' && Nat.beq h h') (f [(rk t,.root g (h + 1) e' (l.set i.toNat (setP fs e' (l.getD i.toNat (dflt e')) ⟨.sl e,y⟩)))] [t])
    | _=>.fail
  | .st F,.st a,y,f=>wb F a y f
  | .unit,.unit,_,f=>f [] []
  | .pair A B,.pair a b,y,f=>wb A a y.1 fun u r=>wb B b y.2 fun v s=>f (u ++ v) (r ++ s)
  | _,_,_,_=>.fail
/-- The types of the parameters that a callee may change, and their values in an argument list. -/
def outT:Ty->List Bool->Ty
  | .pair A B,m :: mu=>bif m then .pair A (outT B mu) else outT B mu
  | _,_=>.unit
def outS:SV->List Bool->SV
  | .pair a b,m :: mu=>bif m then .pair a (outS b mu) else outS b mu
  | _,_=>.unit
def callM (cf:Cfg) (dst:Option Nat) (sp:FnSpec) (vs:SV):M U :=
  argsM cf (sp.mu.any id) sp.pas sp.mu vs fun x=>.call sp.pas sp.ret sp.F x fun y =>
    bif sp.mu.any id then (match sp.ret,y with
      | .pair r o,y=>if h:o=outT sp.pas sp.mu then bif r.mem then .fail else
          wb (outT sp.pas sp.mu) (outS vs sp.mu) (h ▸ y.2) fun u ts=>bif nodupB ts then wr cf dst (.val r y.1) u else .fail
        else .fail
      | _,_=>.fail)
    else bif sp.ret.ownable then wrOwn cf dst sp.ret y [] else .fail
/-! calls of functions whose contract goes by shapes -/
inductive KS where
  | v
  | r (t g:Nat)
  | unit
  | pair (a b:KS)
  | st (a:KS)
/-- Read, and given up: a slot's value as a plain value; its roots (with their generations). -/
def fzM {α:Type}:Nat->(T:Ty)->SV->(den T->List (Nat × Nat)->M α)->M α
  | 0,_,_,_=>.fail
  | _ + 1,T,.val T' x,f=>if h:T'=T then f (h ▸ x) [] else .fail
  | _ + 1,.sl _,.nil,f=>f [] []
  | _ + 1,.sl e,.ref t g _,f=>.get (rk t) fun
    | .root g' _ e' l=>if h:e'=e then .chk (Nat.beq g g') (f (h ▸ l) [(t,g)]) else .fail
    | _=>.fail
  | _ + 1,.sl e,.sub t g h i fs _,f=>.get (rk t) fun
    | .root g' h' e' l=>.chk (Nat.beq g g' && Nat.beq h h') (asTy (.sl e) (getP fs e' (l.getD i.toNat (dflt e'))) .fail fun y=>f y [(t,g)])
    | _=>.fail
  | _ + 1,.sl e,.vw t g lo n _,f=>.get (rk t) fun
    | .root g' _ e' l=>if hh:e'=e then .chk (Nat.beq g g') (f (hh ▸ sliceL l lo (lo + n)) [(t,g)]) else .fail
    | _=>.fail
  | n + 1,.st F,.st a,f=>fzM n F a f
  | _ + 1,.unit,.unit,f=>f () []
  | n + 1,.pair A B,.pair a b,f=>fzM n A a fun x r=>fzM n B b fun y r'=>f (x,y) (r ++ r')
  | _ + 1,_,_,_=>.fail
/-- Reads a value of a shape without boxes; what follows gets: the value, its roots' new numbers and generations, the roots given up, the keys read, the next free number. -/
def rdS {α:Type}:(sh:Shp)->SV->Nat->(den sh.ty->KS->List (Nat × Nat)->List Nat->Nat->M α)->M α
  | .v T,v,d,f=>fzM 8 T v fun x gs=>f x .v gs [] d
  | .r e,.ref t g _,d,f=>.get (rk t) fun
    | .root g' _ e' l=>if h:e'=e then .chk (Nat.beq g g') (f (h ▸ l) (.r t (g + 1)) [] [rk t] d) else .fail
    | _=>.fail
  | .r _,.nil,d,f=>.get (rk d) fun c=>f [] (.r d (c.gen + 1)) [] [] (d + 1)
  | .st a,.st v,d,f=>rdS a v d fun x k gs od d'=>f x (.st k) gs od d'
  | .st a,.val T x,d,f=>(match stFld T x with
    | some v=>rdS a v d fun x k gs od d'=>f x (.st k) gs od d'
    | Option.none=>.fail)
  | .unit,.unit,d,f=>f () .unit [] [] d
  | .pair a b,.pair v w,d,f=>rdS a v d fun x k gs od d1=>rdS b w d1 fun y k' gs' od' d2=>f (x,y) (.pair k k') (gs ++ gs') (od ++ od') d2
  | _,_,_,_=>.fail
/-- A list of values, each of its shape; boxes stand at the top. -/
def rdL {α:Type}:(l:Lv)->SV->Nat->(den l.ty->List (Nat × Nat × KS)->List (Nat × Nat)->List Nat->Nat->M α)->M α
  | [],.unit,d,f=>f () [] [] [] d
  | (_,.bx c) :: l,.pair (.pbx b g []) w,d,f=>.get (bk b) fun
    | .box g' B v=>.chk (Nat.beq g g') (bif decide (B=c.ty) then
        rdS c v d fun x k gs od d1=>rdL l w d1 fun y ks gs' od' d2=>f (x,y) ((b,g,k) :: ks) (gs ++ gs') (bk b :: od ++ od') d2 else .fail)
    | _=>.fail
  | (_,.cl fn c) :: l,.pair (.clo fn' .unit (.pair (.pbx b g []) .unit)) w,d,f=>.chk (Nat.beq fn fn') (.get (bk b) fun
    | .box g' B v=>.chk (Nat.beq g g') (bif decide (B=c.ty) then
        rdS c v d fun x k gs od d1=>rdL l w d1 fun y ks gs' od' d2=>f (x,y) ((b,g,k) :: ks) (gs ++ gs') (bk b :: od ++ od') d2 else .fail)
    | _=>.fail)
  | (_,sh) :: l,.pair v w,d,f=>rdS sh v d fun x k gs od d1=>rdL l w d1 fun y ks gs' od' d2=>f (x,y) ((0,0,k) :: ks) (gs ++ gs') (od ++ od') d2
  | _,_,_,_=>.fail
def outK:Lv->List (Nat × Nat × KS)->List (Nat × Nat × KS)
  | (_,.bx _) :: l,k :: ks=>k :: outK l ks
  | (_,.cl _ _) :: l,k :: ks=>k :: outK l ks
  | _ :: l,_ :: ks=>outK l ks
  | _,_=>[]
/-- New numbers and generations for a result. -/
def newS {α:Type}:Shp->Nat->(KS->Nat->M α)->M α
  | .v _,d,f=>f .v d
  | .r _,d,f=>.get (rk d) fun c=>f (.r d (c.gen + 1)) (d + 1)
  | .st a,d,f=>newS a d fun k d'=>f (.st k) d'
  | .unit,d,f=>f .unit d
  | .pair a b,d,f=>newS a d fun k d1=>newS b d1 fun k' d2=>f (.pair k k') d2
  | .bx _,_,_=>.fail
  | .cl _ _,_,_=>.fail
def newL {α:Type}:Lv->Nat->(List (Nat × Nat × KS)->Nat->M α)->M α
  | [],d,f=>f [] d
  | (_,.bx c) :: l,d,f=>.get (bk d) fun cl=>newS c (d + 1) fun k d1=>newL l d1 fun ks d2=>f ((d,cl.gen + 1,k) :: ks) d2
  | (_,sh) :: l,d,f=>newS sh d fun k d1=>newL l d1 fun ks d2=>f ((0,0,k) :: ks) d2
/-- The value and the cells of a shape without boxes. -/
def putS:(sh:Shp)->KS->den sh.ty->SV × U
  | .v T,_,x=>(.val T x,[])
  | .r e,.r t g,l=>(.ref t g e,[(rk t,.root g 0 e l)])
  | .st a,.st k,x=>let p:=putS a k x;(.st p.1,p.2)
  | .pair a b,.pair k k',x=>let p:=putS a k x.1;let q:=putS b k' x.2;(.pair p.1 q.1,p.2 ++ q.2)
  | _,_,_=>(.unit,[])
def putL:(l:Lv)->List (Nat × Nat × KS)->den l.ty->SV × U
  | (_,.bx c) :: l,(b,g,k) :: ks,x=>let p:=putS c k x.1;let q:=putL l ks x.2;(.pair (.pbx b g []) q.1,(bk b,.box g c.ty p.1) :: p.2 ++ q.2)
  | (_,.cl fn c) :: l,(b,g,k) :: ks,x=>let p:=putS c k x.1;let q:=putL l ks x.2;(.pair (.clo fn .unit (.pair (.pbx b g []) .unit)) q.1,(bk b,.box g c.ty p.1) :: p.2 ++ q.2)
  | (_,sh) :: l,(_,_,k) :: ks,x=>let p:=putS sh k x.1;let q:=putL l ks x.2;(.pair p.1 q.1,p.2 ++ q.2)
  | _,_,_=>(.unit,[])
def retSV:SV->SV
  | .pair a .unit=>a
  | v=>.tup v
/-- Shapes of a result: a box holds no boxes; no list of values is itself a list. -/
def Shp.okI:Shp->Bool
  | .v T=>!T.isTup
  | .r e=>(e.ownable || e.isFr) && !e.isTup
  | .bx _=>false
  | .cl _ _=>false
  | .unit=>true
  | .pair a b=>a.okI && b.okI
  | .st a=>a.okI
def Shp.okO:Shp->Bool
  | .bx c=>c.okI
  | .cl _ c=>c.okI
  | sh=>sh.okI && !sh.ty.isPU
def callS (cf:Cfg) (dst:Option Nat) (sp:ShSpec) (vs:SV):M U :=
  rdL sp.ps vs (match dst with | some d=>8 * d | Option.none=>8 * cf.nt) fun x ks gs od d1=>.call sp.ps.ty (.pair sp.rl.ty (outL sp.ps).ty) sp.F x fun y =>
    newL sp.rl d1 fun kr _ =>
      let p:=putL sp.rl kr y.1;let q:=putL (outL sp.ps) (outK sp.ps ks) y.2
      bif nodupB ((p.2 ++ q.2).map (·.1)) && nodupB (od ++ gs.map fun z=>rk z.1) && od.all (fun k=>(q.2.map (·.1)).any (Nat.beq k)) && (gs.all fun z=>!((p.2 ++ q.2).map (·.1)).any (Nat.beq (rk z.1)))
        && sp.ps.all (fun z=>z.2.okO) && sp.rl.all (fun z=>z.2.okO) then
        wr cf dst (retSV p.1) (goneU gs ++ (p.2 ++ q.2))
      else .fail
def lenM {α:Type}:SV->(Int->M α)->M α
  | .val .str s,f=>f ((s:ByteArray).size:Int)
  | .val (.sl _) l,f=>f (l.length:Int)
  | .nil,f=>f 0
  | .ref t g _,f=>.get (rk t) fun
    | .root g' _ _ l=>.chk (Nat.beq g g') (f (l.length:Int))
    | _=>.fail
  | .sub t g h i fs _,f=>.get (rk t) fun
    | .root g' h' e' l=>.chk (Nat.beq g g' && Nat.beq h h') (match getP fs e' (l.getD i.toNat (dflt e')) with
      | ⟨.sl _,y⟩=>f (y.length:Int)
      | _=>.fail)
    | _=>.fail
  | .vw t g _ n _,f=>.get (rk t) fun
    | .root g' _ _ _=>.chk (Nat.beq g g') (f n)
    | _=>.fail
  | _,_=>.fail
def lenTy:Option Ty->SV->Bool
  | some .str,.val .str _=>true
  | some (.sl _),.val (.sl _) _=>true
  | some (.sl _),.nil=>true
  | some (.sl _),.ref _ _ _=>true
  | some (.sl _),.sub _ _ _ _ _ _=>true
  | some (.sl _),.vw _ _ _ _ _=>true
  | _,_=>false
def bnds (i n:Int):Bool:=decide (0<=i) && decide (i < n)
def minL (x:Int):List Int->Int
  | []=>x
  | y :: r=>minL (if y < x then y else x) r
def maxL (x:Int):List Int->Int
  | []=>x
  | y :: r=>maxL (if y > x then y else x) r
def intsOf (k:IntKind):SV->Option (List Int)
  | .unit=>some []
  | .pair (.val (.int k') x) b=>if k'=k then (intsOf k b).map ((x:Int) :: ·) else Option.none
  | _=>Option.none
def optO {α:Type} (d:Int) (o:Option Operand) (f:Int->M α):M α:=match o with
  | Option.none=>f d
  | some o=>opd o fun
    | .val (.int _) n=>f n
    | _=>.fail
def execStore (_cf:Cfg) (T:Ty) (p y:SV):M U:=match p with
  | .pbx b g fs=>.get (bk b) fun
    | .box g' B c=>.chk (Nat.beq g g') (match c.atP fs with
      | some c0=>bif decide (tyP fs B=T) && B.listy && c0.hasTy T && y.hasTy T then (match c.setP fs y with
        | some c'=>bif c'.hasTy B then .ret [(bk b,.box g B c')] else .fail
        | Option.none=>.fail) else .fail
      | Option.none=>.fail)
    | _=>.fail
  | .pix b g fs i=>.get (bk b) fun
    | .box g' B c=>.chk (Nat.beq g g') (match c.atP fs,y with
      | some (.val (.arr n e) l),.val E z=>if h:E=e then bif (decide (e=T)) && !e.mem && decide (tyP fs B=.arr n e) && B.listy then (match c.setP fs (.val (.arr n e) (l.set i.toNat (h ▸ z))) with
        | some c'=>bif c'.hasTy B then .ret [(bk b,.box g B c')] else .fail
        | Option.none=>.fail) else .fail else .fail
      | _,_=>.fail)
    | _=>.fail
  | .pel t g i fs=>(match y with
    | .sap t1 g1 h1 i1 fs1 e1 z gd=>.get (rk t) fun
      | .root g' h e l=>.get (rk (t + 100000)) fun
        | .own gd'=>.chk (decide (i=i1)) (.chk (Nat.beq t t1 && Nat.beq g g' && Nat.beq g g1 && Nat.beq h h1 && decide (fs=fs1) && Nat.beq gd gd')
            (bif decide (T=.sl e1) && decide (tyP fs e=T) then .ret ((rk t,.root g (h + 1) e (l.set i.toNat (setP fs e (l.getD i.toNat (dflt e)) ⟨.sl e1,z⟩))) :: goneU [(t + 100000,gd)]) else .fail))
        | _=>.fail
      | _=>.fail
    | y=>.get (rk t) fun
    | .root g' h e l=>.chk (Nat.beq g g') (bif decide (tyP fs e=T) then
        (bif T.mem then mv T y fun z r=>bif nodupB (t :: r.map (·.1)) then
            .ret ((rk t,.root g (h + 1) e (l.set i.toNat (setP fs e (l.getD i.toNat (dflt e)) ⟨T,z⟩))) :: goneU r) else .fail
          else (match plainS y with
            | some ⟨T',z⟩=>if h':T'=T then .ret [(rk t,.root g (h + 1) e (l.set i.toNat (setP fs e (l.getD i.toNat (dflt e)) ⟨T,h' ▸ z⟩)))] else .fail
            | Option.none=>.fail))
        else .fail)
    | _=>.fail)
  | _=>.fail
def execLoad (cf:Cfg) (d:Option Nat) (T:Ty) (p:SV):M U:=match p with
  | .pbx b g fs=>.get (bk b) fun
    | .box g' B c=>.chk (Nat.beq g g') (match c.atP fs with
      | some c'=>bif decide (tyP fs B=T) && c'.hasTy T then wr cf d c' [] else .fail
      | Option.none=>.fail)
    | _=>.fail
  | .pix b g fs i=>.get (bk b) fun
    | .box g' B c=>.chk (Nat.beq g g') (match c.atP fs with
      | some (.val (.arr n e) l)=>bif decide (e=T) && decide (tyP fs B=.arr n e) then wr cf d (.val e (l.getD i.toNat (dflt e))) [] else .fail
      | _=>.fail)
    | _=>.fail
  | .pel t g i fs=>.get (rk t) fun
    | .root g' h e l=>.chk (Nat.beq g g') (match getP fs e (l.getD i.toNat (dflt e)) with
      | ⟨T',y⟩=>bif decide (T'=T) && T.ownable && T.flds && !T.isPU then wr cf d (bif T.mem then expS t g h i T' y fs 0 else .val T' y) [] else .fail)
    | _=>.fail
  | .val (.ptr e) x=>bif decide (e=T) then wr cf d (.val e x) [] else .fail
  | _=>.fail
def execAppend (cf:Cfg) (dst:Option Nat) (e:Ty) (s x:SV):M U:=match dst with
  | Option.none=>.fail
  | some d =>
    let fin (l:List (den e)) (gb:List (Nat × Nat)):M U :=
      (bif e.mem then mv (.sl e) x else fun f=>res cf 2 (.sl e) x fun l2=>f l2 []) fun l2 r =>
      bif nodupB ((gb ++ r).map (·.1)) && (e.ownable || e.isFr) && !e.isTup && e.zok then
        .chk (decide (l.length + l2.length<=lim)) (wrOwn cf dst (.sl e) (l ++ l2) (gb ++ r))
      else .fail
    match s with
    | .nil=>fin [] []
    | .ref t g _=>.get (rk t) fun
      | .root g' _ e' l=>if h:e'=e then .chk (Nat.beq g g') (fin (h ▸ l) [(t,g)]) else .fail
      | _=>.fail
    | .sub t g h i fs _=>.get (rk t) fun
      | .root g' h' e' l=>.chk (Nat.beq g g' && Nat.beq h h') (asTy (.sl e) (getP fs e' (l.getD i.toNat (dflt e'))) .fail fun y =>
          bif !e.mem && e.ownable && !e.isTup && (zeroSV e).isSome then
            res cf 2 (.sl e) x fun l2=>.chk (decide ((y:List (den e)).length + l2.length<=lim)) (.get (rk (t + 100000)) fun c =>
              wr cf (some d) (.sap t g h i fs e (y ++ l2) (c.gen + 1)) [(rk (t + 100000),.own (c.gen + 1))])
          else .fail)
      | _=>.fail
    | _=>.fail
/-- A list, part of which (from lo, at most m) is written over. -/
def copyL {α:Type} (l l2:List α) (lo m:Nat):List α:=l.take lo ++ l2.take (min l2.length m) ++ l.drop (lo + min l2.length m)
def copyM (cf:Cfg) (dst:Option Nat) (e:Ty) (a:SV) (l2:List (den e)):M U:=match a with
  | .ref t g _=>.get (rk t) fun
    | .root g' h e' l=>if q:e'=e then .chk (Nat.beq g g') (wr cf dst (.val (.int .i64) ((min l2.length l.length:Nat):Int)) [(rk t,.root g (h + 1) e (copyL (q ▸ l) l2 0 l.length))]) else .fail
    | _=>.fail
  | .vw t g lo m _=>.get (rk t) fun
    | .root g' h e' l=>if q:e'=e then .chk (Nat.beq g g') (wr cf dst (.val (.int .i64) ((min l2.length m.toNat:Nat):Int)) [(rk t,.root g (h + 1) e (copyL (q ▸ l) l2 lo.toNat m.toNat))]) else .fail
    | _=>.fail
  | _=>.fail
def strSlice (cf:Cfg) (d:Option Nat) (s:ByteArray) (lo hi:Int):M U :=
  .chk (decide (0<=lo) && decide (lo<=hi) && decide (hi<=(s.size:Int))) (wr cf d (.val .str (s.extract lo.toNat hi.toNat)) [])
/-- A pointer that points nowhere: a slot that gets it holds nothing known. -/
def isNilP:Operand->Bool
  | .const (.pointer Option.none)=>true
  | _=>false
def exec (cf:Cfg) (o:Oper):M U:=match o.op with
  | .move x=>opd x fun v=>wr cf o.dst v []
  | .assign x=>bif isNilP x then (match o.dst with | some d=>bif Nat.ble cf.prot d && Nat.blt d cf.nt then .ret [(sk d,.none)] else .fail | Option.none=>.fail) else opd x fun v=>wr cf o.dst v []
  | .nilCheck x=>opd x fun v=>(match v with
    | .pbx b g _=>.get (bk b) fun
      | .box g' _ _=>.chk (Nat.beq g g') (wr cf o.dst v [])
      | _=>.fail
    | .pix b g _ _=>.get (bk b) fun
      | .box g' _ _=>.chk (Nat.beq g g') (wr cf o.dst v [])
      | _=>.fail
    | .pel t g _ _=>.get (rk t) fun
      | .root g' _ _ _=>.chk (Nat.beq g g') (wr cf o.dst v [])
      | _=>.fail
    | .val (.ptr _) _=>wr cf o.dst v []
    | .val (.fn _ _) _=>wr cf o.dst v []
    | _=>.fail)
  | .pick c a b=>opd c fun
    | .val .bool t=>.br t (opd a fun v=>wr cf o.dst v []) (opd b fun v=>wr cf o.dst v [])
    | _=>.fail
  | .binOp op xt x y _=>opd x fun a=>opd y fun b=>(match plainS a,plainS b with
    | some s,some t=>binM (cf.ty xt) op s t fun r=>wrS cf o.dst r
    | _,_=>.fail)
  | .unOp op _ x=>opd x fun
    | .val .bool b=>(match op with | .not=>wr cf o.dst (.val .bool (!(b:Bool))) [] | _=>.fail)
    | .val (.int k) n=>(match op with
      | .neg=>wr cf o.dst (.val (.int k) (k.wrap (0 - (n:Int)))) []
      | .xor=>wr cf o.dst (.val (.int k) (bitI .xor k (if k.signed then -1 else k.max) n)) []
      | _=>.fail)
    | _=>.fail
  | .convert src dst x=>opd x fun v=>(match cf.ty dst,cf.ty src,v with
    | some (.int k),some _,.val (.int _) n=>wr cf o.dst (.val (.int k) (k.wrap n)) []
    | some .str,some .str,.val .str s=>wr cf o.dst (.val .str s) []
    | some .str,some (.sl (.int .u8)),v=>res cf 2 (.sl (.int .u8)) v fun l=>wr cf o.dst (.val .str (bytesOf l)) []
    | _,_,_=>.fail)
  | .extract x i=>opd x fun
    | .tup a=>(match a.nth i with | some v=>wr cf o.dst v [] | Option.none=>.fail)
    | .val (.tup f) x=>wr cf o.dst (.val (fld f i) (getF f x i)) []
    | _=>.fail
  | .field t x i=>opd x fun v=>(match cf.ty t,v.atP [i] with
    | some (.st f),some u=>bif v.hasTy (.st f) && Nat.blt i f.len then wr cf o.dst u [] else .fail
    | _,_=>.fail)
  | .alloc t=>(match cf.ty t,o.dst with
    | some T,some d=>(match zeroSV T with
      | some z=>.get (bk (8 * d)) fun c=>wr cf o.dst (.pbx (8 * d) (c.gen + 1) []) [(bk (8 * d),.box (c.gen + 1) T z)]
      | Option.none=>.fail)
    | _,_=>.fail)
  | .box t x=>opd x fun v=>(match cf.ty t,o.dst with
    | some T,some d=>bif v.hasTy T then .get (bk (8 * d)) fun c=>wr cf o.dst (.pbx (8 * d) (c.gen + 1) []) [(bk (8 * d),.box (c.gen + 1) T v)] else .fail
    | _,_=>.fail)
  | .build t ps=>opds (ps.toList.map (·.2)) fun vs=>(match cf.ty t,zeroSV (match cf.ty t with | some T=>T | Option.none=>.unit) with
    | some (.st F),some z=>(match putAll F (zipP (ps.toList.map (·.1)) vs) z with
      | some v=>bif v.hasTy (.st F) && (Ty.st F).listy then wr cf o.dst v [] else .fail
      | Option.none=>.fail)
    | _,_=>.fail)
  | .buildSlice t n ps=>opds (ps.toList.map (·.2)) fun vs=>(match cf.ty t with
    | some (.sl e)=>bif upFrom 0 (ps.toList.map (·.1)) && Nat.beq ps.size n && Nat.ble (n * e.sz) 4096 && (e.ownable || e.isFr) && !e.isTup && e.zok then
        (bif e.mem && vs.isVals && Nat.blt 0 n then res cf 64 (replT n e) vs fun x=>wr cf o.dst (.val (.sl e) (listD e n x)) []
        else bif e.mem then mv (replT n e) vs fun x r=>bif nodupB (r.map (·.1)) then wrOwn cf o.dst (.sl e) (listD e n x) r else .fail
        else res cf 64 (replT n e) vs fun x=>wrOwn cf o.dst (.sl e) (listD e n x) []) else .fail
    | _=>.fail)
  | .makeSlice t l c=>opd l fun
    | .val (.int .i64) n=>opd c fun
      | .val (.int .i64) m=>(match cf.ty t with
        | some (.sl e)=>(match zeroSV e with
          | some _=>bif (e.ownable || e.isFr) && !e.isTup then .chk (decide (0<=(n:Int)) && decide ((n:Int)<=(lim:Int)) && decide ((n:Int)=m)) (wrOwn cf o.dst (.sl e) (List.replicate (n:Int).toNat (dflt e)) []) else .fail
          | Option.none=>.fail)
        | _=>.fail)
      | _=>.fail
    | _=>.fail
  | .load t a=>opd a fun p=>(match cf.ty t with | some T=>execLoad cf o.dst T p | Option.none=>.fail)
  | .store t a x=>opd a fun p=>opd x fun y=>(match cf.ty t,o.dst with | some T,Option.none=>execStore cf T p y | _,_=>.fail)
  | .fieldAddr t x n=>opd x fun p=>(match cf.ty t with
    | some (.st f)=>bif Nat.blt n f.len && Nat.blt 0 (fld f n).sz then (match p with
      | .pbx b g fs=>.get (bk b) fun
        | .box g' B _=>.chk (Nat.beq g g') (bif decide (tyP fs B=.st f) then wr cf o.dst (.pbx b g (fs ++ [n])) [] else .fail)
        | _=>.fail
      | .pel s g i fs=>.get (rk s) fun
        | .root g' _ e _=>.chk (Nat.beq g g') (bif decide (tyP fs e=.st f) then wr cf o.dst (.pel s g i (fs ++ [n])) [] else .fail)
        | _=>.fail
      | .val (.ptr (.st F)) x=>if h:F=f then wr cf o.dst (.val (.ptr (fld f n)) (getF f (h ▸ x) n)) [] else .fail
      | _=>.fail) else .fail
    | _=>.fail)
  | .indexAddr t x ix=>opd x fun p=>opd ix fun
    | .val (.int _) i=>(match cf.ty t,p with
      | some (.sl e),.val (.sl E) l=>if h:E=e then .chk (bnds i (h ▸ l:List (den e)).length) (wr cf o.dst (.val (.ptr e) ((h ▸ l:List (den e)).getD (i:Int).toNat (dflt e))) []) else .fail
      | some (.sl e),.ref s g _=>.get (rk s) fun
        | .root g' _ e' l=>bif decide (e'=e) then .chk (Nat.beq g g') (.chk (bnds i l.length) (wr cf o.dst (.pel s g i []) [])) else .fail
        | _=>.fail
      | some (.sl e),.vw s g lo n _=>.get (rk s) fun
        | .root g' _ e' _=>bif decide (e'=e) then .chk (Nat.beq g g') (.chk (bnds i n) (wr cf o.dst (.pel s g (lo + i) []) [])) else .fail
        | _=>.fail
      | some (.arr n e),.pbx b g fs=>.get (bk b) fun
        | .box g' B _=>.chk (Nat.beq g g') (bif decide (tyP fs B=.arr n e) then .chk (bnds i (n:Int)) (wr cf o.dst (.pix b g fs i) []) else .fail)
        | _=>.fail
      | _,_=>.fail)
    | _=>.fail
  | .index t x ix=>opd x fun v=>opd ix fun
    | .val (.int _) i=>(match cf.ty t,v with
      | some .str,.val .str s=>.chk (bnds i ((s:ByteArray).size:Int)) (wr cf o.dst (.val (.int .u8) (byteAt s i)) [])
      | _,_=>.fail)
    | _=>.fail
  | .slice t x lo hi Option.none=>opd x fun v=>(match cf.ty t,v with
    | some .str,.val .str s=>optO 0 lo fun a=>optO ((s:ByteArray).size:Int) hi fun b=>strSlice cf o.dst s a b
    | some (.sl e),.val (.sl E) l=>if h:E=e then optO 0 lo fun a=>optO ((h ▸ l:List (den e)).length:Int) hi fun b =>
        .chk (decide (0<=a) && decide (a<=b) && decide (b<=((h ▸ l:List (den e)).length:Int))) (wr cf o.dst (.val (.sl e) (sliceL (h ▸ l:List (den e)) a b)) []) else .fail
    | some (.sl e),.ref s g _=>.get (rk s) fun
      | .root g' _ e' l=>bif decide (e'=e) then .chk (Nat.beq g g') (optO 0 lo fun a=>optO (l.length:Int) hi fun b =>
          .chk (decide (0<=a) && decide (a<=b) && decide (b<=(l.length:Int))) (wr cf o.dst (.vw s g a (b - a) e) [])) else .fail
      | _=>.fail
    | _,_=>.fail)
  | .lookup t m x false=>opd m fun
    | .mp t' g=>bif Nat.beq t t' then opd x fun
      | .val .str s=>.chk (decide ((s:ByteArray).size<=9223372036854775807)) (wr cf o.dst (.val .str (g s)) [])
      | _=>.fail else .fail
    | _=>.fail
  | .makeFunc (.func f) fi ca=>opds fi.toList fun a=>opds ca.toList fun b=>wr cf o.dst (.clo f a b) []
  | .call c=>(match c.callee with
    | .builtin .len=>(match c.args.toList,c.argTypes.toList with
      | [x],[t]=>opd x fun v=>bif lenTy (cf.ty t) v then lenM v fun n=>wr cf o.dst (.val (.int .i64) n) [] else .fail
      | _,_=>.fail)
    | .builtin .append=>(match c.args.toList,c.argTypes.toList with
      | [s,x],[ts,tx]=>opd s fun a=>opd x fun b=>(match cf.ty ts with
        | some (.sl e)=>bif Nat.beq ts tx then execAppend cf o.dst e a b else .fail
        | _=>.fail)
      | _,_=>.fail)
    | .builtin .copy=>(match c.args.toList,c.argTypes.toList with
      | [d,s],[t,_]=>opd d fun a=>opd s fun b=>(match cf.ty t with
        | some (.sl e)=>bif e.mem then .fail else res cf 2 (.sl e) b fun l2=>copyM cf o.dst e a l2
        | _=>.fail)
      | _,_=>.fail)
    | .builtin .min=>opds c.args.toList fun
      | .pair (.val (.int k) x) b=>(match intsOf k b with | some l=>wr cf o.dst (.val (.int k) (minL x l)) [] | Option.none=>.fail)
      | _=>.fail
    | .builtin .max=>opds c.args.toList fun
      | .pair (.val (.int k) x) b=>(match intsOf k b with | some l=>wr cf o.dst (.val (.int k) (maxL x l)) [] | Option.none=>.fail)
      | _=>.fail
    | .value (.func g)=>(match cf.fn g with
      | some sp=>opds c.args.toList fun vs=>callM cf o.dst sp vs
      | Option.none=>(match cf.fs g with
        | some sp=>opds c.args.toList fun vs=>callS cf o.dst sp vs
        | Option.none=>(match cf.mp g,c.args.toList with
          | some p,[]=>wr cf o.dst (.mp p.1 p.2) []
          | _,_=>.fail)))
    | .value (.tmp t)=>slot t fun
      | .val (.fn A R) F=>opds c.args.toList fun vs=>callM cf o.dst ⟨A,[],R,F⟩ vs
      | .clo g .unit ca=>(match cf.fs g with
        | some sp=>opds c.args.toList fun vs=>callS cf o.dst sp (appSV vs ca)
        | Option.none=>.fail)
      | _=>.fail
    | _=>.fail)
  | _=>.fail
def M.bind {α β:Type}:M α->(α->M β)->M β
  | .ret a,f=>f a
  | .get k g,f=>.get k fun c=>(g c).bind f
  | .chk b m,f=>.chk b (m.bind f)
  | .br b m n,f=>.br b (m.bind f) (n.bind f)
  | .fail,_=>.fail
  | .call A R F x g,f=>.call A R F x fun y=>(g y).bind f
def splitB:U->M U
  | [(k,.sv (.val .bool b))]=>.br b (.ret [(k,.sv (.val .bool true))]) (.ret [(k,.sv (.val .bool false))])
  | u=>.ret u
def isGuard (ops:Array Oper) (i:Nat):Bool:=ops.toList.any fun o=>match o.guard with | some (j,_)=>Nat.beq i j | Option.none=>false
def exec1 (cf:Cfg) (ops:Array Oper) (i:Nat) (o:Oper):M U :=
  let m:=bif isGuard ops i then (exec cf o).bind splitB else exec cf o
  match o.guard with
  | Option.none=>m
  | some (j,want)=>(match (ops[j]?).bind (·.dst) with
    | some t=>slot t fun
      | .val .bool b=>.br (b == want) m (wr cf o.dst .unit [])
      | .unit=>wr cf o.dst .unit []
      | _=>.fail
    | Option.none=>.fail)
abbrev Tr:=List (List Nat × List Nat)
def goOps {R:Type} (cf:Cfg) (ops:Array Oper):List Oper->Nat->St->Tr->(Tr->St->Option R)->Option R
  | [],_,s,tr,K=>K tr s
  | o :: r,i,s,tr,K=>(exec1 cf ops i o).go s [] fun rd u=>goOps cf ops r (i + 1) (upds s u) (tr ++ [(rd,u.map (·.1))]) K
def esOf (o:Oper):List Nat:=(o.after.toList.filter fun e=>Region.binds .any e).map (·.on)
def ancs:List Oper->List (List Nat)->List (List Nat)
  | [],acc=>acc
  | o :: r,acc=>ancs r (acc ++ [esOf o ++ (esOf o).flatMap fun j=>acc.getD j []])
/-- Every edge leads back. -/
def backB:List Oper->Nat->Bool
  | [],_=>true
  | o :: r,i=>(esOf o).all (fun j=>Nat.blt j i) && backB r (i + 1)
def disj (a b:List Nat):Bool:=a.all fun x=>b.all fun y=>!Nat.beq x y
def indep2 (x y:List Nat × List Nat):Bool:=disj x.2 y.1 && disj x.2 y.2 && disj x.1 y.2
def indepAll (an:List (List Nat)) (tr:Tr):Bool :=
  (List.range tr.length).all fun j=>(List.range j).all fun i =>
    ((an.getD j []).any (Nat.beq i)) || indep2 (tr.getD i ([],[])) (tr.getD j ([],[]))
def evR {R:Type} (cf:Cfg) (ops:Array Oper) (draw:Bool) (s:St) (K:St->Option R):Option R :=
  goOps cf ops ops.toList 0 s [] fun tr s' =>
    bif draw then (bif backB ops.toList 0 && indepAll (ancs ops.toList []) tr then K s' else Option.none) else K s'
def mkS:(s:Shp)->den s.ty->Nat->SV × U × Nat
  | .v T,x,d=>(.val T x,[],d)
  | .r e,l,d=>(.ref d 0 e,[(rk d,.root 0 0 e l)],d + 1)
  | .bx c,x,d=>let p:=mkS c x (d + 1);(.pbx d 0 [],(bk d,.box 0 c.ty p.1) :: p.2.1,p.2.2)
  | .cl f c,x,d=>let p:=mkS c x (d + 1);(.clo f .unit (.pair (.pbx d 0 []) .unit),(bk d,.box 0 c.ty p.1) :: p.2.1,p.2.2)
  | .unit,_,d=>(.unit,[],d)
  | .pair a b,x,d =>
    let p:=mkS a x.1 d
    let q:=mkS b x.2 p.2.2
    (.pair p.1 q.1,p.2.1 ++ q.2.1,q.2.2)
  | .st a,x,d=>let p:=mkS a x d;(.st p.1,p.2.1,p.2.2)
def mkL:(l:Lv)->den l.ty->U
  | [],_=>[]
  | (i,s) :: l,x=>let p:=mkS s x.1 (8 * i);(sk i,.sv p.1) :: (p.2.1 ++ mkL l x.2)
def st0:St:=fun _=>.none
def mkSt (l:Lv) (x:den l.ty):St:=upds st0 (mkL l x)
/-- Reads a canonical value off a state; the roots and boxes met: (new number, old number). -/
abbrev Ext (α:Type):=Option (α × List (Nat × Option Nat) × List (Nat × Nat) × Nat)
def extV (T:Ty) (v:SV) (d:Nat):Ext (den T):=match plainS v with
  | some ⟨T',x⟩=>if h:T'=T then some (h ▸ x,[],[],d) else Option.none
  | Option.none=>Option.none
def extR (s:St) (e:Ty) (v:SV) (d:Nat):Ext (List (den e)):=match v with
  | .nil=>some ([],[(d,Option.none)],[],d + 1)
  | .ref t g _=>(match s (rk t) with
    | .root g' _ e' l=>if h:e'=e then bif Nat.beq g g' then some ((h ▸ l:List (den e)),[(d,some t)],[],d + 1) else Option.none else Option.none
    | _=>Option.none)
  | _=>Option.none
def extB {α:Type} (s:St) (T:Ty) (v:SV) (d:Nat) (f:SV->Ext α):Ext α:=match v with
  | .pbx b g []=>(match s (bk b) with
    | .box g' B v=>bif Nat.beq g g' && decide (B=T) then (match f v with
      | some (x,rs,bs,d')=>some (x,rs,(d,b) :: bs,d')
      | Option.none=>Option.none) else Option.none
    | _=>Option.none)
  | _=>Option.none
/-- A closure over one box. -/
def cloB (f:Nat) (v:SV):SV:=match v with
  | .clo f' .unit (.pair p .unit)=>bif Nat.beq f f' then p else .unit
  | _=>.unit
def extU (v:SV) (d:Nat):Ext Unit:=match v with
  | .unit=>some ((),[],[],d)
  | _=>Option.none
def extP {α β:Type} (v:SV) (d:Nat) (f:SV->Nat->Ext α) (g:SV->Nat->Ext β):Ext (α × β):=match v with
  | .pair v w=>(match f v d with
    | some (x,rs,bs,d1)=>(match g w d1 with
      | some (y,rs',bs',d2)=>some ((x,y),rs ++ rs',bs ++ bs',d2)
      | Option.none=>Option.none)
    | Option.none=>Option.none)
  | _=>Option.none
def extT {α:Type} (v:SV) (f:SV->Ext α):Ext α:=match v with
  | .st v=>f v
  | .val T x=>(match stFld T x with
    | some v=>f v
    | Option.none=>Option.none)
  | _=>Option.none
def extS (s:St):(sh:Shp)->SV->Nat->Ext (den sh.ty)
  | .v T,v,d=>extV T v d
  | .r e,v,d=>extR s e v d
  | .bx c,v,d=>extB s c.ty v d fun v=>extS s c v (d + 1)
  | .cl f c,v,d=>extB s c.ty (cloB f v) d fun v=>extS s c v (d + 1)
  | .unit,v,d=>extU v d
  | .pair a b,v,d=>extP v d (fun v d=>extS s a v d) (fun v d=>extS s b v d)
  | .st a,v,d=>extT v fun v=>extS s a v d
def extL (s:St):(l:Lv)->Option (den l.ty × List (Nat × Option Nat) × List (Nat × Nat))
  | []=>some ((),[],[])
  | (i,sh) :: l=>(match s (sk i) with
    | .sv v=>(match extS s sh v (8 * i) with
      | some (x,rs,bs,d)=>bif Nat.ble d (8 * i + 8) then (match extL s l with
        | some (y,rs',bs')=>some ((x,y),rs ++ rs',bs ++ bs')
        | Option.none=>Option.none) else Option.none
      | Option.none=>Option.none)
    | _=>Option.none)
def cut0 (l:Lv) (s:St):Option (den l.ty) :=
  match extL s l with
  | some (x,rs,bs)=>bif nodupB (rs.filterMap (·.2)) && nodupB (bs.map (·.2)) && nodupB (l.map (·.1)) then some x else Option.none
  | Option.none=>Option.none
/-- What a slot holds, read as a plain value; the roots (with their numbers) that are read. -/
def frzS (s:St):Nat->(T:Ty)->SV->Option (den T × List (Nat × Nat))
  | 0,_,_=>Option.none
  | _ + 1,T,.val T' x=>if h:T'=T then some (h ▸ x,[]) else Option.none
  | _ + 1,.sl _,.nil=>some ([],[])
  | _ + 1,.sl e,.ref t g _=>(match s (rk t) with
    | .root g' _ e' l=>if h:e'=e then bif Nat.beq g g' then some ((h ▸ l:List (den e)),[(t,g)]) else Option.none else Option.none
    | _=>Option.none)
  | _ + 1,.sl e,.sub t g h i fs _=>(match s (rk t) with
    | .root g' h' e' l=>bif Nat.beq g g' && Nat.beq h h' then asTy (.sl e) (getP fs e' (l.getD i.toNat (dflt e'))) Option.none (fun y=>some (y,[(t,g)])) else Option.none
    | _=>Option.none)
  | _ + 1,.sl e,.vw t g lo n _=>(match s (rk t) with
    | .root g' _ e' l=>if hh:e'=e then bif Nat.beq g g' then some ((hh ▸ sliceL l lo (lo + n):List (den e)),[(t,g)]) else Option.none else Option.none
    | _=>Option.none)
  | n + 1,.st F,.st a=>frzS s n F a
  | _ + 1,.unit,.unit=>some ((),[])
  | n + 1,.pair A B,.pair a b=>(match frzS s n A a with
    | some (x,r)=>(match frzS s n B b with
      | some (y,r')=>some ((x,y),r ++ r')
      | Option.none=>Option.none)
    | Option.none=>Option.none)
  | _ + 1,_,_=>Option.none
def isV:SV->Bool
  | .val _ _=>true
  | _=>false
/-- Does a box's content hold a list where a plain value is wanted? -/
def needC:Shp->SV->Bool
  | .v _,v=>!isV v
  | .st a,.st v=>needC a v
  | .pair a b,.pair v w=>needC a v || needC b w
  | _,_=>false
/-- A box's content, its parts read that are to be plain. -/
def frzC (s:St):Shp->SV->Option (SV × List (Nat × Nat))
  | .v T,v=>bif isV v then some (v,[]) else (match frzS s 8 T v with
    | some (x,ts)=>some (.val T x,ts)
    | Option.none=>Option.none)
  | .st a,.st v=>(match frzC s a v with
    | some (v',ts)=>some (.st v',ts)
    | Option.none=>Option.none)
  | .pair a b,.pair v w=>(match frzC s a v with
    | some (v',ts)=>(match frzC s b w with
      | some (w',ts')=>some (.pair v' w',ts ++ ts')
      | Option.none=>Option.none)
    | Option.none=>Option.none)
  | _,v=>some (v,[])
/-- Slots that are to be plain: read now; their roots are given up. -/
def frzL (s:St):Lv->Option (U × List (Nat × Nat))
  | []=>some ([],[])
  | (i,sh) :: l=>(match sh,s (sk i) with
    | .v T,.sv v=>bif isV v then frzL s l else (match frzS s 8 T v with
      | some (x,ts)=>(match frzL s l with
        | some (u,ts')=>some ((sk i,.sv (.val T x)) :: u,ts ++ ts')
        | Option.none=>Option.none)
      | Option.none=>Option.none)
    | .bx c,.sv (.pbx b _ _)=>(match s (bk b) with
      | .box g B v=>bif needC c v then (match frzC s c v with
        | some (v',ts)=>bif v'.hasTy B then (match frzL s l with
          | some (u,ts')=>some ((bk b,.box g B v') :: u,ts ++ ts')
          | Option.none=>Option.none) else Option.none
        | Option.none=>Option.none) else frzL s l
      | _=>frzL s l)
    | _,_=>frzL s l)
def cutTo (l:Lv) (s:St):Option (den l.ty):=match frzL s l with
  | some (u,ts)=>cut0 l (upds (upds s (goneU ts)) u)
  | Option.none=>Option.none
abbrev Al:=List (Nat × Nat × Ty)
def alU (al:Al):U:=al.map fun p=>(sk p.1,.sv (.ref p.2.1 0 p.2.2))
def alOk (s:St) (rs:List (Nat × Option Nat)) (s1:St) (p:Nat × Nat × Ty):Bool:=match s (sk p.1) with
  | .sv (.ref t g _)=>(match s (rk t),s1 (rk p.2.1),rs.lookup p.2.1 with
    | .root g' _ _ _,.root g1 _ e1 _,some (some t')=>Nat.beq g g' && Nat.beq g1 0 && decide (e1=p.2.2) && Nat.beq t t'
    | _,_,_=>false)
  | _=>false
def mkStA (l:Lv) (al:Al) (x:den l.ty):St:=upds (mkSt l x) (alU al)
def cutA (l:Lv) (al:Al) (s:St):Option (den l.ty):=match frzL s l with
  | some (u,ts)=>(match extL (upds (upds s (goneU ts)) u) l with
    | some (x,rs,bs)=>bif nodupB (rs.filterMap (·.2)) && nodupB (bs.map (·.2)) && nodupB (l.map (·.1)) && al.all (alOk (upds (upds s (goneU ts)) u) rs (mkSt l x)) then some x else Option.none
    | Option.none=>Option.none)
  | Option.none=>Option.none
abbrev LoopS (R:Type):=St->(Nat->St->Option R)->(St->Option R)->Option R
abbrev SegS (R:Type):=St->(St->Option R)->(Nat->St->Option R)->(St->Option R)->Option R
/-- What is known by name: loops (by the first region of their body), the live slots at a block's end, segments (a seq's second part, by its first region), the live slots at a return. -/
structure Env (R:Type) where
  L:Nat->Option (LoopS R)
  X:Nat->Option Lv
  S:Nat->Option (SegS R)
  rv:Lv
def rid:Code->Nat
  | .region id _ _=>id
  | .seq a _=>rid a
  | .block _ c=>rid c
  | .loop c=>rid c
  | _=>0
def evC {R:Type} (cf:Cfg) (en:Env R):Code->St->(St->Option R)->(Nat->St->Option R)->(St->Option R)->Option R
  | .skip,s,kn,_,_=>kn s
  | .region _ ops draw,s,kn,_,_=>evR cf ops draw s kn
  | .seq a b,s,kn,kx,kr=>evC cf en a s (match en.S (rid b) with
    | some J=>fun s'=>J s' kn kx kr
    | Option.none=>fun s'=>evC cf en b s' kn kx kr) kx kr
  | .cond c x y,s,kn,kx,kr=>(match c with
    | .tmp t=>(match s (sk t) with
      | .sv (.val .bool b)=>if (b:Bool)=true then (match en.S (rid x) with | some J=>J s kn kx kr | Option.none=>evC cf en x s kn kx kr) else (match en.S (rid y) with | some J=>J s kn kx kr | Option.none=>evC cf en y s kn kx kr)
      | _=>Option.none)
    | .const (.bool b)=>if b=true then (match en.S (rid x) with | some J=>J s kn kx kr | Option.none=>evC cf en x s kn kx kr) else (match en.S (rid y) with | some J=>J s kn kx kr | Option.none=>evC cf en y s kn kx kr)
    | _=>Option.none)
  | .block id c,s,kn,kx,kr=>evC cf en c s kn (fun i s'=>bif Nat.beq i id then kn s' else kx i s') kr
  | .loop c,s,_,kx,kr=>(match en.L (rid c) with
    | some f=>f s kx kr
    | Option.none=>Option.none)
  | .exit id,s,_,kx,_=>(match en.X id with
    | some l=>(match cutTo l s with | some x=>kx id (mkSt l x) | Option.none=>Option.none)
    | Option.none=>kx id s)
  | .ret,s,_,_,kr=>(match cutTo en.rv s with | some x=>kr (mkSt en.rv x) | Option.none=>Option.none)
  | _,_,_,_,_=>Option.none
/-- A loop at whose head some slots lead to a root that another slot owns. -/
def mkLoopA {R:Type} (l:Lv) (al:Al) (f:den l.ty->(Nat->St->Option R)->(St->Option R)->Option R):LoopS R:=fun s kx kr =>
  match cutA l al s with | some x=>f x kx kr | Option.none=>Option.none
/-- A segment: the state is cut ahead of it and behind it. -/
def mkSeg {R:Type} (l ln:Lv) (f:den l.ty->(den ln.ty->Option R)->(Nat->St->Option R)->(St->Option R)->Option R):SegS R:=fun s kn kx kr =>
  match cutTo l s with | some x=>f x (fun y=>kn (mkSt ln y)) kx kr | Option.none=>Option.none
def cutK {R:Type} (ln:Lv) (k:den ln.ty->Option R) (s:St):Option R:=match cutTo ln s with | some y=>k y | Option.none=>Option.none
def argL:(T:Ty)->List Bool->den T->Nat->U
  | .pair A B,mu,x,i=>(bif mu.headD false then
      (let p:=own A x.1 (8 * i) (fun _=>0);(sk i,.sv p.1) :: p.2.1) else [(sk i,.sv (.val A x.1))]) ++ argL B mu.tail x.2 (i + 1)
  | _,_,_,_=>[]
def resSV (cf:Cfg) {α:Type}:List ResultVar->(SV->M α)->M α
  | [],f=>f .unit
  | .tmp t :: r,f=>slot t fun v=>(match v with | .tup _=>.fail | v=>resSV cf r fun w=>f (.pair v w))
  | .cell a t :: r,f=>slot a fun
    | .pbx b g []=>.get (bk b) fun
      | .box g' B v=>.chk (Nat.beq g g') (bif decide (cf.ty t=some B) then resSV cf r fun w=>f (.pair v w) else .fail)
      | _=>.fail
    | _=>.fail
def listM {α:Type} (T:Ty) (v:SV) (f:den T->List (Nat × Nat)->M α):M α:=match T,f with
  | .tup F,f=>bif Nat.beq v.len 1 then .fail else mv F v f
  | T,f=>(match v with
    | .pair a .unit=>mv T a f
    | _=>.fail)
def outsM {α:Type}:List Bool->Nat->(SV->M α)->M α
  | [],_,f=>f .unit
  | m :: mu,i,f=>bif m then slot i fun v=>(match v with | .tup _=>.fail | v=>outsM mu (i + 1) fun w=>f (.pair v w)) else outsM mu (i + 1) f
def finM (cf:Cfg) (rs:List ResultVar) (pas:Ty) (mu:List Bool) (ret:Ty):M (den ret) :=
  resSV cf rs fun v =>
    bif mu.any id then (match ret with
      | .pair r o=>if h:outT pas mu=o then bif r.mem || r.isPU || r.isTup then .fail else
          listM r v fun x _=>outsM mu 0 fun w=>mv (outT pas mu) w fun y ts=>bif nodupB (ts.map (·.1)) then .ret (x,(h ▸ y:den o)) else .fail
        else .fail
      | _=>.fail)
    else listM ret v fun x ts=>bif nodupB (ts.map (·.1)) && !ret.isPU then .ret x else .fail
/-- What an entry asks of the parameters' types. -/
def entB:Ty->List Bool->Bool
  | .pair A B,m :: mu=>(!m || (A.ownable && Nat.ble (nroots A) 8 && !A.isTup && !A.isPU)) && entB B mu
  | .unit,[]=>true
  | _,_=>false
def evFn (cf:Cfg) (pas:Ty) (mu:List Bool) (ret:Ty) (en:Env (den ret)) (rs:List ResultVar) (c:Code) (xs:den pas):Option (den ret) :=
  evC cf en c (upds st0 (argL pas mu xs 0)) (fun s=>(finM cf rs pas mu ret).go s [] fun _ y=>some y) (fun _ _=>Option.none) (fun s=>(finM cf rs pas mu ret).go s [] fun _ y=>some y)
def kcan:Shp->Nat->KS × Nat
  | .v _,d=>(.v,d)
  | .r _,d=>(.r d 1,d + 1)
  | .st a,d=>(.st (kcan a d).1,(kcan a d).2)
  | .pair a b,d=>(.pair (kcan a d).1 (kcan b (kcan a d).2).1,(kcan b (kcan a d).2).2)
  | _,d=>(.unit,d)
def kzL:Lv->List (Nat × Nat × KS)
  | []=>[]
  | (i,.bx c) :: l=>(8 * i,1,(kcan c (8 * i + 1)).1) :: kzL l
  | (i,.cl _ c) :: l=>(8 * i,1,(kcan c (8 * i + 1)).1) :: kzL l
  | (i,sh) :: l=>(0,0,(kcan sh (8 * i)).1) :: kzL l
def KS.keys:KS->List Nat
  | .r t _=>[rk t]
  | .pair a b=>a.keys ++ b.keys
  | .st a=>a.keys
  | _=>[]
def keysL:Lv->List (Nat × Nat × KS)->List Nat
  | (_,.bx _) :: l,(b,_,k) :: ks=>bk b :: k.keys ++ keysL l ks
  | (_,.cl _ _) :: l,(b,_,k) :: ks=>bk b :: k.keys ++ keysL l ks
  | _ :: l,(_,_,k) :: ks=>k.keys ++ keysL l ks
  | _,_=>[]
def idxs:Nat->Lv->Bool
  | _,[]=>true
  | i,p :: l=>Nat.beq p.1 i && idxs (i + 1) l
def slotsU:Lv->SV->U
  | (i,_) :: l,.pair v w=>(sk i,.sv v) :: slotsU l w
  | _,_=>[]
/-- The state at a function's entry. -/
def entSt (ps:Lv) (x:den ps.ty):St:=upds (upds st0 (slotsU ps (putL ps (kzL ps) x).1)) (putL ps (kzL ps) x).2
def entSB (ps:Lv):Bool:=idxs 0 ps && ps.all (fun z=>z.2.okO) && nodupB (keysL ps (kzL ps))
def outsV {α:Type}:Lv->(SV->M α)->M α
  | [],f=>f .unit
  | (i,_) :: l,f=>slot i fun v=>(match v with | .tup _=>.fail | v=>outsV l fun w=>f (.pair v w))
def finS (cf:Cfg) (rs:List ResultVar) (ps rl:Lv):M (den rl.ty × den (outL ps).ty) :=
  resSV cf rs fun v=>rdL rl v (8 * cf.nt) fun x _ gs od d1=>outsV (outL ps) fun u=>rdL (outL ps) u d1 fun z _ gs' od' _ =>
    bif nodupB ((od ++ od') ++ (gs ++ gs').map fun p=>rk p.1) then .ret (x,z) else .fail
def evFnS (cf:Cfg) (ps rl:Lv) (en:Env (den rl.ty × den (outL ps).ty)) (rs:List ResultVar) (c:Code) (xs:den ps.ty):Option (den rl.ty × den (outL ps).ty) :=
  evC cf en c (entSt ps xs) (fun s=>(finS cf rs ps rl).go s [] fun _ y=>some y) (fun _ _=>Option.none) (fun s=>(finS cf rs ps rl).go s [] fun _ y=>some y)
end Go.Proofs.YtefmjjpdflpnaaaGreat.E
namespace Go.Proofs.YtefmjjpdflpnaaaGreat.E
open Go Go.RowKit
set_option linter.unusedVariables false
set_option linter.unusedSimpArgs false
def seg {α:Type} (l:List α) (o n:Nat):List α:=(l.drop o).take n
def valOf (T:Ty) (cs:List Value):Value:=match T with
  | .st _=>.agg cs.toArray
  | .arr _ _=>.agg cs.toArray
  | _=>cs.headD undef
/-- A formula whose tree of blocks is owned. -/
inductive TCF (w:World):List Value->Frm->List Nat->Prop
  | nil (c:Int):TCF w [.int .u8 c,.slice none 0 0] (.mk c []) []
  | node (c:Int) (b o n k:Nat) (arr:Array Value) (ty:TypeId) (bss:List (List Nat)) (ps:List Frm) (hn:n=ps.length) (hh:w.heap[b]?=some (.cells arr ty (0,0))) (hk:n<=k) (ho:o + k * 2<=arr.size) (hl:bss.length=n)
      (h:∀ (i:Nat) y bi,ps[i]?=some y->bss[i]?=some bi->TCF w (seg arr.toList (o + i * 2) 2) y bi):TCF w [.int .u8 c,.slice (some ⟨b,o,none⟩) n k] (.mk c ps) (b :: bss.flatten)
/-- A formula that may be read: its blocks are among S. -/
inductive RXF (w:World) (S:Nat->Prop):List Value->Frm->Prop
  | nil (c:Int) (a:Option Addr) (k:Nat):RXF w S [.int .u8 c,.slice a 0 k] (.mk c [])
  | node (c:Int) (b o n k:Nat) (arr:Array Value) (ty:TypeId) (fz:Nat × Nat) (ps:List Frm) (hn:n=ps.length) (hk:n<=k) (hS:S b) (hh:w.heap[b]?=some (.cells arr ty fz)) (ho:o + n * 2<=arr.size)
      (h:∀ (i:Nat) y,ps[i]?=some y->RXF w S (seg arr.toList (o + i * 2) 2) y):RXF w S [.int .u8 c,.slice (some ⟨b,o,none⟩) n k] (.mk c ps)
theorem TCF_len {w:World} {cs:List Value} {x:Frm} {bs:List Nat} (h:TCF w cs x bs):cs.length=2:=by cases h <;> rfl
theorem RXF_len {w:World} {S:Nat->Prop} {cs:List Value} {x:Frm} (h:RXF w S cs x):cs.length=2:=by cases h <;> rfl
theorem TCF_congr {w w':World} {cs:List Value} {x:Frm} {bs:List Nat} (h:TCF w cs x bs):(∀ b ∈ bs,w'.heap[b]?=w.heap[b]?)->TCF w' cs x bs:=by
  induction h with
  | nil c=>intro _;exact .nil c
  | node c b o n k arr ty bss ps hn hh hk ho hl h ih =>
    intro hb
    exact .node c b o n k arr ty bss ps hn (by rw [hb b List.mem_cons_self];exact hh) hk ho hl fun i y bi hy hi=>ih i y bi hy hi fun b' hm=>hb b' (List.mem_cons_of_mem _ (List.mem_flatten.2 ⟨bi,List.mem_of_getElem? hi,hm⟩))
theorem RXF_of_TCF {w:World} {S:Nat->Prop} {cs:List Value} {x:Frm} {bs:List Nat} (h:TCF w cs x bs):(∀ b ∈ bs,S b)->RXF w S cs x:=by
  induction h with
  | nil c=>intro _;exact .nil c none 0
  | node c b o n k arr ty bss ps hn hh hk ho hl h ih =>
    intro hS
    refine .node c b o n k arr ty (0,0) ps hn hk (hS b List.mem_cons_self) hh (by omega) fun i y hy=>?_
    have hi:i < bss.length:=by rw [hl,hn];exact (List.getElem?_eq_some_iff.1 hy).1
    exact ih i y bss[i] hy (List.getElem?_eq_getElem hi) fun b' hm=>hS b' (List.mem_cons_of_mem _ (List.mem_flatten.2 ⟨bss[i],List.getElem_mem hi,hm⟩))
theorem RXF_congr {w w':World} {S S':Nat->Prop} {cs:List Value} {x:Frm} (hS:∀ b,S b->b < w.heap.size->S' b/\w'.heap[b]?=w.heap[b]?) (h:RXF w S cs x):RXF w' S' cs x:=by
  induction h with
  | nil c a k=>exact .nil c a k
  | node c b o n k arr ty fz ps hn hk hb hh ho h ih =>
    have hlt:=(Array.getElem?_eq_some_iff.1 hh).1
    exact .node c b o n k arr ty fz ps hn hk (hS b hb hlt).1 (by rw [(hS b hb hlt).2];exact hh) ho ih
theorem TCF_lt {w:World} {cs:List Value} {x:Frm} {bs:List Nat} (h:TCF w cs x bs):∀ b ∈ bs,b < w.heap.size:=by
  induction h with
  | nil c=>intro b hb;cases hb
  | node c b o n k arr ty bss ps hn hh hk ho hl h ih =>
    intro b' hm
    rcases List.mem_cons.1 hm with rfl | hm
    · exact (Array.getElem?_eq_some_iff.1 hh).1
    · obtain ⟨bi,hbi,hm⟩:=List.mem_flatten.1 hm
      obtain ⟨i,hi⟩:=List.getElem?_of_mem hbi
      have hlt:=(List.getElem?_eq_some_iff.1 hi).1
      exact ih i (ps[i]'(by omega)) bi (List.getElem?_eq_getElem (by omega)) hi b' hm
/-- The cells of an owned tree; bs: its blocks. -/
def TC:(T:Ty)->World->List Value->den T->List Nat->Prop
  | .int k,_,cs,x,bs=>cs=[.int k x]/\bs=[]
  | .bool,_,cs,x,bs=>cs=[.bool x]/\bs=[]
  | .str,_,cs,x,bs=>cs=[.string x]/\bs=[]
  | .unit,_,cs,_,bs=>cs=[]/\bs=[]
  | .pair a b,w,cs,x,bs=>∃ c1 c2 b1 b2,cs=c1 ++ c2/\bs=b1 ++ b2/\TC a w c1 x.1 b1/\TC b w c2 x.2 b2
  | .st f,w,cs,x,bs=>TC f w cs x bs
  | .tup _,_,_,_,_=>False
  | .arr n e,w,cs,x,bs=>bs=[]/\(x:List (den e)).length=n/\∃ css:List (List Value),cs=css.flatten/\css.length=n/\∀ (i:Nat) c y,css[i]?=some c->(x:List (den e))[i]?=some y->TC e w c y []
  | .sl e,w,cs,x,bs=>(cs=[.slice none 0 0]/\(x:List (den e))=[]/\bs=[]) ∨
      ∃ b o n c arr ty bss,cs=[.slice (some ⟨b,o,none⟩) n c]/\bs=b :: List.flatten bss/\n=(x:List (den e)).length/\w.heap[b]?=some (.cells arr ty (0,0)) ∧
        n<=c/\o + c * e.sz<=arr.size/\bss.length=n/\∀ (i:Nat) y bi,(x:List (den e))[i]?=some y->bss[i]?=some bi->TC e w (seg arr.toList (o + i * e.sz) e.sz) y bi
  | .ptr _,_,_,_,_=>False
  | .fn _ _,_,_,_,_=>False
  | .frm,w,cs,x,bs=>TCF w cs x bs
/-- A value, or a tuple of values, whose trees are owned. 'm': read the type as a list of values. -/
def TV:(T:Ty)->Bool->World->List Value->den T->List Nat->Prop
  | .pair a b,true,w,vs,x,bs=>∃ v r b1 b2,vs=v :: r/\bs=b1 ++ b2/\TV a false w [v] x.1 b1/\TV b true w r x.2 b2
  | .unit,true,_,vs,_,bs=>vs=[]/\bs=[]
  | .tup f,false,w,vs,x,bs=>∃ us,vs=[.tuple us.toArray]/\TV f true w us x bs
  | T,false,w,vs,x,bs=>∃ cs,vs=[valOf T cs]/\TC T w cs x bs
  | _,true,_,_,_,_=>False
/-- What a call hands back. -/
def Ret (R:Ty) (y:den R) (w:World) (v:Value) (w':World):Prop :=
  ∃ bs,TV R false w' [v] y bs/\bs.Nodup/\(∀ b ∈ bs,w.heap.size<=b/\b < w'.heap.size)/\Below w.heap.size w w'
/-- A call of function f with these arguments ends in G. -/
def CF (P:Program) (f:FuncId) (args:Array Value) (w:World) (G:Value->World->Prop):Prop :=
  ∀ (o:Oper) (a:Act) (next:Act->World->Prop) (Q:Exit->Act->World->Prop),(∀ v w',G v w'->next (a.put o.dst v) w')->o.upon P a next Q ((callFunc f args).run P w)
theorem CF.mono {P:Program} {f:FuncId} {args:Array Value} {w:World} {G G':Value->World->Prop} (h:CF P f args w G) (hg:∀ v w',G v w'->G' v w'):CF P f args w G' :=
  fun o a next Q hn=>h o a next Q fun v w' g=>hn v w' (hg v w' g)
/-- The cells (m = false), or the values (m = true: the type is a list of types), of a value that may be read: its blocks are among S. -/
def RX (P:Program):(T:Ty)->Bool->World->(Nat->Prop)->List Value->den T->Prop
  | .int k,false,_,_,cs,x=>cs=[.int k x]
  | .bool,false,_,_,cs,x=>cs=[.bool x]
  | .str,false,_,_,cs,x=>cs=[.string x]
  | .unit,_,_,_,cs,_=>cs=[]
  | .pair a b,false,w,S,cs,x=>∃ c1 c2,cs=c1 ++ c2/\RX P a false w S c1 x.1/\RX P b false w S c2 x.2
  | .pair a b,true,w,S,vs,x=>∃ c r,vs=valOf a c :: r/\RX P a false w S c x.1/\RX P b true w S r x.2
  | .st f,false,w,S,cs,x=>RX P f false w S cs x
  | .arr n e,false,w,S,cs,x=>(x:List (den e)).length=n/\∃ css:List (List Value),cs=css.flatten/\css.length=n/\∀ (i:Nat) c y,css[i]?=some c->(x:List (den e))[i]?=some y->RX P e false w S c y
  | .sl e,false,w,S,cs,x=>∃ a n c,cs=[.slice a n c]/\n=(x:List (den e)).length/\n<=c ∧
      ((x:List (den e))=[]\/∃ b o arr ty fz,a=some ⟨b,o,none⟩/\S b/\w.heap[b]?=some (.cells arr ty fz)/\o + n * e.sz<=arr.size ∧
        ∀ (i:Nat) y,(x:List (den e))[i]?=some y->RX P e false w S (seg arr.toList (o + i * e.sz) e.sz) y)
  | .ptr e,false,w,S,cs,x=>∃ b o arr ty fz,cs=[.pointer (some ⟨b,o,none⟩)]/\S b/\w.heap[b]?=some (.cells arr ty fz)/\o + e.sz<=arr.size/\RX P e false w S (seg arr.toList o e.sz) x
  | .fn A R,false,w,S,cs,g=>∃ f fi ca,cs=[.func (.func f) fi ca]/\(∀ b,S b->b < w.heap.size) ∧
      ∀ w',w.heap.size<=w'.heap.size->(∀ b,S b->w'.heap[b]?=w.heap[b]?)->∀ vs x y,RX P A true w' (fun b=>b < w'.heap.size) vs x->g x=some y->CF P f (fi ++ vs.toArray ++ ca) w' (Ret R y w')
  | .frm,false,w,S,cs,x=>RXF w S cs x
  | _,_,_,_,_,_=>False
theorem seg_len {α:Type} {l:List α} {o n:Nat} (h:o + n<=l.length):(seg l o n).length=n:=by
  simp only [seg,List.length_take,List.length_drop];omega
theorem flatten_len {α:Type} {n k:Nat}:∀ (l:List (List α)),l.length=n->(∀ (i:Nat) c,l[i]?=some c->c.length=k)->l.flatten.length=n * k:=by
  induction n with
  | zero=>intro l h _;simp [List.length_eq_zero_iff.1 h]
  | succ n ih =>
    intro l h hk
    cases l with
    | nil=>simp at h
    | cons a l =>
      rw [List.flatten_cons,List.length_append,ih l (by simpa using h) (fun i c hc=>hk (i + 1) c (by simpa using hc)),hk 0 a (by simp),Nat.succ_mul];omega
theorem some_of_len {α β:Type} {l:List α} {m:List β} (h:l.length=m.length) {i:Nat} {c:α} (hc:l[i]?=some c):∃ y,m[i]?=some y:=by
  have:=(List.getElem?_eq_some_iff.1 hc).1
  exact ⟨m[i],by simp [<-h,this]⟩
theorem TC_len:∀ (T:Ty) (w:World) (cs:List Value) (x:den T) (bs:List Nat),TC T w cs x bs->cs.length=T.sz
  | .int _,_,_,_,_,h=>by rw [h.1];rfl
  | .bool,_,_,_,_,h=>by rw [h.1];rfl
  | .str,_,_,_,_,h=>by rw [h.1];rfl
  | .unit,_,_,_,_,h=>by rw [h.1];rfl
  | .pair a b,w,cs,x,bs,h=>by
    obtain ⟨c1,c2,b1,b2,rfl,rfl,h1,h2⟩:=h
    rw [List.length_append,TC_len a _ _ _ _ h1,TC_len b _ _ _ _ h2];rfl
  | .st f,w,cs,x,bs,h=>TC_len f w cs x bs h
  | .tup _,_,_,_,_,h=>h.elim
  | .arr n e,w,cs,x,bs,h=>by
    obtain ⟨_,hx,css,rfl,hl,hc⟩:=h
    refine flatten_len css hl fun i c hi=>?_
    obtain ⟨y,hy⟩:=some_of_len (hl.trans hx.symm) hi
    exact TC_len e _ _ _ _ (hc i c y hi hy)
  | .sl e,w,cs,x,bs,h=>by
    rcases h with ⟨rfl,_⟩ | ⟨b,o,n,c,arr,ty,bss,rfl,_⟩ <;> rfl
  | .ptr _,_,_,_,_,h=>h.elim
  | .fn _ _,_,_,_,_,h=>h.elim
  | .frm,_,_,_,_,h=>TCF_len h
theorem RX_len (P:Program):∀ (T:Ty) (w:World) (S:Nat->Prop) (cs:List Value) (x:den T),RX P T false w S cs x->cs.length=T.sz
  | .int _,_,_,_,_,h=>by unfold RX at h;rw [h];rfl
  | .bool,_,_,_,_,h=>by unfold RX at h;rw [h];rfl
  | .str,_,_,_,_,h=>by unfold RX at h;rw [h];rfl
  | .unit,_,_,_,_,h=>by unfold RX at h;rw [h];rfl
  | .pair a b,w,S,cs,x,h=>by
    obtain ⟨c1,c2,rfl,h1,h2⟩:=h
    rw [List.length_append,RX_len P a _ _ _ _ h1,RX_len P b _ _ _ _ h2];rfl
  | .st f,w,S,cs,x,h=>RX_len P f w S cs x h
  | .tup _,_,_,_,_,h=>by unfold RX at h;exact h.elim
  | .arr n e,w,S,cs,x,h=>by
    obtain ⟨hx,css,rfl,hl,hc⟩:=h
    refine flatten_len css hl fun i c hi=>?_
    obtain ⟨y,hy⟩:=some_of_len (hl.trans hx.symm) hi
    exact RX_len P e _ _ _ _ (hc i c y hi hy)
  | .sl e,w,S,cs,x,h=>by
    obtain ⟨a,n,c,rfl,_⟩:=h;rfl
  | .ptr e,w,S,cs,x,h=>by
    obtain ⟨b,o,arr,ty,fz,rfl,_⟩:=h;rfl
  | .fn _ _,w,S,cs,x,h=>by
    obtain ⟨f,fi,ca,rfl,_⟩:=h;rfl
  | .frm,w,S,cs,x,h=>RXF_len h
/-- Where the blocks of a tree are as they were, the tree is. -/
theorem TC_congr:∀ (T:Ty) {w w':World} {cs:List Value} {x:den T} {bs:List Nat},(∀ b ∈ bs,w'.heap[b]?=w.heap[b]?)->TC T w cs x bs->TC T w' cs x bs
  | .int _,_,_,_,_,_,_,h=>h
  | .bool,_,_,_,_,_,_,h=>h
  | .str,_,_,_,_,_,_,h=>h
  | .unit,_,_,_,_,_,_,h=>h
  | .pair a b,w,w',cs,x,bs,hb,h=>by
    obtain ⟨c1,c2,b1,b2,rfl,rfl,h1,h2⟩:=h
    exact ⟨c1,c2,b1,b2,rfl,rfl,TC_congr a (fun b hm=>hb b (List.mem_append_left _ hm)) h1,TC_congr b (fun b hm=>hb b (List.mem_append_right _ hm)) h2⟩
  | .st f,w,w',cs,x,bs,hb,h=>TC_congr f (cs:=cs) (x:=x) hb h
  | .tup _,_,_,_,_,_,_,h=>h.elim
  | .arr n e,w,w',cs,x,bs,hb,h=>by
    obtain ⟨hb0,hx,css,hcs,hl,hc⟩:=h
    exact ⟨hb0,hx,css,hcs,hl,fun i c y hi hy=>TC_congr e (fun b hm=>by cases hm) (hc i c y hi hy)⟩
  | .sl e,w,w',cs,x,bs,hb,h=>by
    rcases h with h | ⟨b,o,n,c,arr,ty,bss,hcs,hbs,hn,hh,hnc,ho,hl,hc⟩
    · exact .inl h
    · refine .inr ⟨b,o,n,c,arr,ty,bss,hcs,hbs,hn,by rw [hb b (by rw [hbs];exact List.mem_cons_self)];exact hh,hnc,ho,hl,fun i y bi hy hi=>?_⟩
      exact TC_congr e (fun b' hm=>hb b' (by rw [hbs];exact List.mem_cons_of_mem _ (List.mem_flatten.2 ⟨bi,List.mem_of_getElem? hi,hm⟩))) (hc i y bi hy hi)
  | .ptr _,_,_,_,_,_,_,h=>h.elim
  | .fn _ _,_,_,_,_,_,_,h=>h.elim
  | .frm,_,_,_,_,_,hb,h=>TCF_congr h hb
/-- The blocks of a tree are blocks of the heap. -/
theorem TC_lt:∀ (T:Ty) {w:World} {cs:List Value} {x:den T} {bs:List Nat},TC T w cs x bs->∀ b ∈ bs,b < w.heap.size
  | .int _,_,_,_,_,h=>by rw [h.2];simp
  | .bool,_,_,_,_,h=>by rw [h.2];simp
  | .str,_,_,_,_,h=>by rw [h.2];simp
  | .unit,_,_,_,_,h=>by rw [h.2];simp
  | .pair a b,w,cs,x,bs,h=>by
    obtain ⟨c1,c2,b1,b2,rfl,rfl,h1,h2⟩:=h
    intro b hm
    rcases List.mem_append.1 hm with hm | hm
    · exact TC_lt a h1 b hm
    · exact TC_lt _ h2 b hm
  | .st f,w,cs,x,bs,h=>TC_lt f (cs:=cs) (x:=x) h
  | .tup _,_,_,_,_,h=>h.elim
  | .arr n e,w,cs,x,bs,h=>by rw [h.1];simp
  | .sl e,w,cs,x,bs,h=>by
    rcases h with ⟨_,_,rfl⟩ | ⟨b,o,n,c,arr,ty,bss,hcs,rfl,hn,hh,hnc,ho,hl,hc⟩
    · simp
    · intro b' hm
      rcases List.mem_cons.1 hm with rfl | hm
      · exact (Array.getElem?_eq_some_iff.1 hh).1
      · obtain ⟨bi,hbi,hm⟩:=List.mem_flatten.1 hm
        obtain ⟨i,hi⟩:=List.getElem?_of_mem hbi
        obtain ⟨y,hy⟩:=some_of_len (hl.trans hn) hi
        exact TC_lt e (hc i y bi hy hi) b' hm
  | .ptr _,_,_,_,_,h=>h.elim
  | .fn _ _,_,_,_,_,h=>h.elim
  | .frm,_,_,_,_,h=>TCF_lt h
/-- A value that leads to no memory: both readings are one, wherever. -/
theorem TC_of_RX (P:Program):∀ (T:Ty) {w w':World} {S:Nat->Prop} {cs:List Value} {x:den T},T.mem=false->RX P T false w S cs x->TC T w' cs x []
  | .int _,_,_,_,_,_,_,h=>⟨h,rfl⟩
  | .bool,_,_,_,_,_,_,h=>⟨h,rfl⟩
  | .str,_,_,_,_,_,_,h=>⟨h,rfl⟩
  | .unit,_,_,_,_,_,_,h=>⟨h,rfl⟩
  | .pair a b,w,w',S,cs,x,hm,h=>by
    obtain ⟨c1,c2,rfl,h1,h2⟩:=h
    simp only [Ty.mem,Bool.or_eq_false_iff] at hm
    exact ⟨c1,c2,[],[],rfl,rfl,TC_of_RX P a hm.1 h1,TC_of_RX P b hm.2 h2⟩
  | .st f,w,w',S,cs,x,hm,h=>TC_of_RX P f (cs:=cs) (x:=x) hm h
  | .tup _,_,_,_,_,_,_,h=>by unfold RX at h;exact h.elim
  | .arr n e,w,w',S,cs,x,hm,h=>by
    obtain ⟨hx,css,hcs,hl,hc⟩:=h
    exact ⟨rfl,hx,css,hcs,hl,fun i c y hi hy=>TC_of_RX P e hm (hc i c y hi hy)⟩
  | .sl e,_,_,_,_,_,hm,_=>by simp [Ty.mem] at hm
  | .ptr _,_,_,_,_,_,hm,_=>by simp [Ty.mem] at hm
  | .fn _ _,_,_,_,_,_,hm,_=>by simp [Ty.mem] at hm
  | .frm,_,_,_,_,_,hm,_=>by simp [Ty.mem] at hm
theorem RX_of_TC (P:Program):∀ (T:Ty) {w:World} {S:Nat->Prop} {cs:List Value} {x:den T} {bs:List Nat},TC T w cs x bs->(∀ b ∈ bs,S b)->RX P T false w S cs x
  | .int _,_,_,_,_,_,h,_=>h.1
  | .bool,_,_,_,_,_,h,_=>h.1
  | .str,_,_,_,_,_,h,_=>h.1
  | .unit,_,_,_,_,_,h,_=>h.1
  | .pair a b,w,S,cs,x,bs,h,hS=>by
    obtain ⟨c1,c2,b1,b2,rfl,rfl,h1,h2⟩:=h
    exact ⟨c1,c2,rfl,RX_of_TC P a h1 fun b hm=>hS b (List.mem_append_left _ hm),RX_of_TC P b h2 fun b hm=>hS b (List.mem_append_right _ hm)⟩
  | .st f,w,S,cs,x,bs,h,hS=>RX_of_TC P f (cs:=cs) (x:=x) h hS
  | .tup _,_,_,_,_,_,h,_=>h.elim
  | .arr n e,w,S,cs,x,bs,h,hS=>by
    obtain ⟨hb0,hx,css,hcs,hl,hc⟩:=h
    exact ⟨hx,css,hcs,hl,fun i c y hi hy=>RX_of_TC P e (hc i c y hi hy) fun b hm=>by cases hm⟩
  | .sl e,w,S,cs,x,bs,h,hS=>by
    rcases h with ⟨rfl,rfl,_⟩ | ⟨b,o,n,c,arr,ty,bss,hcs,rfl,hn,hh,hnc,ho,hl,hc⟩
    · exact ⟨none,0,0,rfl,rfl,Nat.le_refl _,.inl rfl⟩
    · refine ⟨some ⟨b,o,none⟩,n,c,hcs,hn,hnc,.inr ⟨b,o,arr,ty,(0,0),rfl,hS b List.mem_cons_self,hh,?_,fun i y hy=>?_⟩⟩
      · have:=Nat.mul_le_mul_right e.sz hnc;omega
      · obtain ⟨bi,hbi⟩:=some_of_len (hl.trans hn).symm hy
        exact RX_of_TC P e (hc i y bi hy hbi) fun b' hm=>hS b' (List.mem_cons_of_mem _ (List.mem_flatten.2 ⟨bi,List.mem_of_getElem? hbi,hm⟩))
  | .ptr _,_,_,_,_,_,h,_=>h.elim
  | .fn _ _,_,_,_,_,_,h,_=>h.elim
  | .frm,_,_,_,_,_,h,hS=>RXF_of_TCF h hS
theorem RX_congr (P:Program):∀ (T:Ty) (m:Bool) {w w':World} {S S':Nat->Prop} {cs:List Value} {x:den T},w.heap.size<=w'.heap.size->(∀ b,S b->b < w.heap.size->S' b/\w'.heap[b]?=w.heap[b]?)->(∀ b,S' b->b < w'.heap.size)->RX P T m w S cs x->RX P T m w' S' cs x
  | .int _,m,_,_,_,_,_,_,_,_,_,h=>by cases m <;> exact h
  | .bool,m,_,_,_,_,_,_,_,_,_,h=>by cases m <;> exact h
  | .str,m,_,_,_,_,_,_,_,_,_,h=>by cases m <;> exact h
  | .unit,m,_,_,_,_,_,_,_,_,_,h=>by cases m <;> exact h
  | .pair a b,m,w,w',S,S',cs,x,hw,hS,hl,h=>by
    cases m
    · obtain ⟨c1,c2,rfl,h1,h2⟩:=h
      exact ⟨c1,c2,rfl,RX_congr P a false hw hS hl h1,RX_congr P b false hw hS hl h2⟩
    · obtain ⟨c,r,rfl,h1,h2⟩:=h
      exact ⟨c,r,rfl,RX_congr P a false hw hS hl h1,RX_congr P b true hw hS hl h2⟩
  | .st f,m,w,w',S,S',cs,x,hw,hS,hl,h=>by
    cases m
    · exact RX_congr P f false (cs:=cs) (x:=x) hw hS hl h
    · exact h
  | .tup _,m,_,_,_,_,_,_,_,_,_,h=>by cases m <;> exact h
  | .arr n e,m,w,w',S,S',cs,x,hw,hS,hl,h=>by
    cases m
    · obtain ⟨hx,css,hcs,hl',hc⟩:=h
      exact ⟨hx,css,hcs,hl',fun i c y hi hy=>RX_congr P e false hw hS hl (hc i c y hi hy)⟩
    · exact h
  | .sl e,m,w,w',S,S',cs,x,hw,hS,hl,h=>by
    cases m
    · obtain ⟨a,n,c,hcs,hn,hnc,h⟩:=h
      refine ⟨a,n,c,hcs,hn,hnc,?_⟩
      rcases h with h | ⟨b,o,arr,ty,fz,rfl,hb,hh,ho,hc⟩
      · exact .inl h
      · have hlt:=(Array.getElem?_eq_some_iff.1 hh).1
        exact .inr ⟨b,o,arr,ty,fz,rfl,(hS b hb hlt).1,by rw [(hS b hb hlt).2];exact hh,ho,fun i y hy=>RX_congr P e false hw hS hl (hc i y hy)⟩
    · exact h
  | .ptr e,m,w,w',S,S',cs,x,hw,hS,hl,h=>by
    cases m
    · obtain ⟨b,o,arr,ty,fz,rfl,hb,hh,ho,hc⟩:=h
      have hlt:=(Array.getElem?_eq_some_iff.1 hh).1
      exact ⟨b,o,arr,ty,fz,rfl,(hS b hb hlt).1,by rw [(hS b hb hlt).2];exact hh,ho,RX_congr P e false hw hS hl hc⟩
    · exact h
  | .fn A R,m,w,w',S,S',cs,x,hw,hS,hl,h=>by
    cases m
    · obtain ⟨f,fi,ca,rfl,hlt,hc⟩:=h
      refine ⟨f,fi,ca,rfl,hl,fun w'' hw'' ha vs x' y hx hy=>hc w'' (Nat.le_trans hw hw'') (fun b hb=>?_) vs x' y hx hy⟩
      have:=hS b hb (hlt b hb)
      rw [ha b this.1,this.2]
    · exact h
  | .frm,m,_,_,_,_,_,_,_,hS,_,h=>by
    cases m
    · exact RXF_congr hS h
    · exact h
theorem RXF_of_sl {P:Program} {w:World} {S:Nat->Prop} {ys:List Value} {z:den (.sl (.st .frm))} (c:Int) (h:RX P (.sl (.st .frm)) false w S ys z):RXF w S (.int .u8 c :: ys) (.mk c z):=by
  obtain ⟨a,n,k,rfl,hn,hk,h⟩:=h
  rcases h with hz | ⟨b,o,arr,ty,fz,rfl,hS,hh,ho,hq⟩
  · have hz:z=[]:=hz
    subst hz
    have:n=0:=hn
    subst this
    exact .nil c a k
  · exact .node c b o n k arr ty fz z hn hk hS hh ho hq
theorem TCF_of_sl {w:World} {ys:List Value} {z:den (.sl (.st .frm))} {bs:List Nat} (c:Int) (h:TC (.sl (.st .frm)) w ys z bs):TCF w (.int .u8 c :: ys) (.mk c z) bs:=by
  rcases h with ⟨rfl,hz,rfl⟩ | ⟨b,o,n,k,arr,ty,bss,rfl,rfl,hn,hh,hk,ho,hl,hq⟩
  · have hz:z=[]:=hz
    subst hz
    exact .nil c
  · exact .node c b o n k arr ty bss z hn hh hk ho hl hq
theorem RXF_of_frF {P:Program} {w:World} {S:Nat->Prop} {cs:List Value} {x:den frF} (h:RX P frF false w S cs x):RXF w S cs (toFrm x):=by
  obtain ⟨c1,c2,rfl,h1,c3,c4,rfl,h2,h3⟩:=h
  have h1:c1=[.int .u8 x.1]:=h1
  have h3:c4=[]:=h3
  subst h1;subst h3
  simpa [toFrm] using RXF_of_sl x.1 h2
theorem TCF_of_frF {w:World} {cs:List Value} {x:den frF} {bs:List Nat} (h:TC frF w cs x bs):TCF w cs (toFrm x) bs:=by
  obtain ⟨c1,c2,b1,b2,rfl,rfl,h1,c3,c4,b3,b4,rfl,rfl,h2,h3⟩:=h
  obtain ⟨rfl,rfl⟩:=h1
  obtain ⟨rfl,rfl⟩:=h3
  simpa [toFrm] using TCF_of_sl x.1 h2
end Go.Proofs.YtefmjjpdflpnaaaGreat.E
namespace Go.Proofs.YtefmjjpdflpnaaaGreat.E
open Go Go.RowKit
set_option linter.unusedVariables false
set_option linter.unusedSimpArgs false
/-- Where the roots and boxes lie: by key, the header of a root, its blocks, the block of a box. -/
structure Gh where
  hd:Nat->Value
  bl:Nat->List Nat
  bx:Nat->Nat
  s0:Nat->Prop
def valS (v:SV) (cs:List Value):Value:=match v with
  | .val T _=>valOf T cs
  | .st _=>.agg cs.toArray
  | _=>cs.headD undef
def HdrAt (w:World) (hd:Value) (e:Ty) (i:Int) (fs:List Nat) (v:Value):Prop :=
  ∃ b o n c arr ty fz,hd=.slice (some ⟨b,o,none⟩) n c/\w.heap[b]?=some (.cells arr ty fz)/\arr[o + i.toNat * e.sz + offP fs e]?=some v
def PelAt (hd:Value) (e:Ty) (i:Int) (fs:List Nat) (v:Value):Prop :=
  ∃ b o n c,hd=.slice (some ⟨b,o,none⟩) n c/\v=.pointer (some ⟨b,o + i.toNat * e.sz + offP fs e,none⟩)
def VwAt (hd:Value) (e:Ty) (lo n:Int) (v:Value):Prop :=
  ∃ aa len cap aa' c',hd=.slice aa len cap/\v=.slice aa' n.toNat c'/\n.toNat<=c'/\(n.toNat=0\/∃ b o,aa=some ⟨b,o,none⟩/\aa'=some ⟨b,o + lo.toNat * e.sz,none⟩)
/-- A map (of strings) that answers as g does. -/
def MapR (P:Program) (t:TypeId) (g:ByteArray->ByteArray) (b:Nat) (w:World):Prop:=∀ w':World,w'.heap[b]?=w.heap[b]?->∀ s:ByteArray,s.size<=9223372036854775807->(Instr.lookup t (.map (some b)) (.string s) false).run P w'=.ok (.string (g s)) w'
def SX (P:Program) (st:St) (G:Gh) (w:World) (S:Nat->Prop):SV->Bool->List Value->Prop
  | .val T x,false,cs=>RX P T false w S cs x
  | .nil,false,cs=>cs=[.slice none 0 0]
  | .ref t g e,false,cs=>∃ v,cs=[v]/\v.oneCell'=true/\g<=(st (rk t)).gen/\∀ h e' l,st (rk t)=.root g h e' l->v=G.hd (rk t)/\e'=e
  | .sub t g h i fs e,false,cs=>∃ v,cs=[v]/\v.oneCell'=true/\g<=(st (rk t)).gen/\(∀ h' e' l,st (rk t)=.root g h' e' l->h<=h') ∧
      ∀ e' l,st (rk t)=.root g h e' l->0<=i/\i < (l.length:Int)/\(∃ y,getP fs e' (l.getD i.toNat (dflt e'))=⟨.sl e,y⟩)/\HdrAt w (G.hd (rk t)) e' i fs v
  | .vw t g lo n e,false,cs=>∃ v,cs=[v]/\v.oneCell'=true/\g<=(st (rk t)).gen/\∀ h e' l,st (rk t)=.root g h e' l->e'=e/\0<=lo/\0<=n/\lo + n<=(l.length:Int)/\VwAt (G.hd (rk t)) e lo n v
  | .sap t g h i fs e l gd,false,cs=>∃ v,cs=[v]/\v.oneCell'=true/\g<=(st (rk t)).gen/\gd<=(st (rk (t + 100000))).gen/\(∀ h' e' l',st (rk t)=.root g h' e' l'->h<=h') ∧
      ∀ e' l',st (rk t)=.root g h e' l'->st (rk (t + 100000))=.own gd->0<=i/\i < (l'.length:Int)/\(∃ y,getP fs e' (l'.getD i.toNat (dflt e'))=⟨.sl e,y⟩) ∧
        ∃ bs,bs.Nodup/\TC (.sl e) w [v] l bs/\∀ b ∈ bs,b ∈ G.bl (rk (t + 100000))\/(b ∈ G.bl (rk t)/\∃ o n c,HdrAt w (G.hd (rk t)) e' i fs (.slice (some ⟨b,o,none⟩) n c))
  | .pel t g i fs,false,cs=>∃ v,cs=[v]/\v.oneCell'=true/\g<=(st (rk t)).gen/\∀ h e l,st (rk t)=.root g h e l->0<=i/\i < (l.length:Int)/\PelAt (G.hd (rk t)) e i fs v
  | .pbx b g fs,false,cs=>∃ v,cs=[v]/\v.oneCell'=true/\g<=(st (bk b)).gen/\∀ T c,st (bk b)=.box g T c->v=.pointer (some ⟨G.bx (bk b),offP fs T,none⟩)
  | .pix b g fs i,false,cs=>∃ v,cs=[v]/\v.oneCell'=true/\g<=(st (bk b)).gen/\∀ T c,st (bk b)=.box g T c →
      ∃ n e,tyP fs T=.arr n e/\0<=i/\i < (n:Int)/\v=.pointer (some ⟨G.bx (bk b),offP fs T + i.toNat * e.sz,none⟩)
  | .unit,_,cs=>cs=[]
  | .pair a b,false,cs=>∃ c1 c2,cs=c1 ++ c2/\SX P st G w S a false c1/\SX P st G w S b false c2
  | .pair a b,true,vs=>∃ c r,vs=valS a c :: r/\SX P st G w S a false c/\SX P st G w S b true r
  | .st a,false,cs=>SX P st G w S a false cs
  | .clo f fi ca,false,cs=>∃ vs us,cs=[.func (.func f) vs.toArray us.toArray]/\SX P st G w S fi true vs/\SX P st G w S ca true us
  | .mp t g,false,cs=>∃ b,cs=[.map (some b)]/\S b/\b < w.heap.size/\MapR P t g b w
  | _,_,_=>False
/-- What a slot holds. -/
def SW (P:Program) (st:St) (G:Gh) (w:World) (S:Nat->Prop) (v:SV) (x:Value):Prop:=match v with
  | .tup a=>∃ vs,x=.tuple vs.toArray/\SX P st G w S a true vs
  | v=>∃ c,x=valS v c/\SX P st G w S v false c
/-- How one key may change. -/
structure KStep (st:St) (G:Gh) (w:World) (st':St) (G':Gh) (w':World) (k:Nat):Prop where
  gen:(st k).gen<=(st' k).gen
  root:∀ g h e l,st' k=.root g h e l->g<=(st k).gen->∃ h0 l0,st k=.root g h0 e l0/\G'.hd k=G.hd k/\l.length=l0.length/\h0<=h ∧
    (h=h0->l=l0/\(∀ ga,st' (k + 300000)=.own ga->ga<=(st (k + 300000)).gen->G'.bl k=G.bl k/\∀ b ∈ G.bl k,w'.heap[b]?=w.heap[b]?)/\∀ b o n c,G.hd k=.slice (some ⟨b,o,none⟩) n c->w'.heap[b]?=w.heap[b]?)
  box:∀ g T c,st' k=.box g T c->g<=(st k).gen->∃ c0,st k=.box g T c0/\G'.bx k=G.bx k
  own:∀ g,st' k=.own g->g<=(st k).gen->st k=.own g/\G'.bl k=G.bl k/\∀ b ∈ G.bl k,w'.heap[b]?=w.heap[b]?
section
variable {P:Program} {st st':St} {G G':Gh} {w w':World} {S S':Nat->Prop}
theorem SX.tr (hw:w.heap.size<=w'.heap.size) (hS:∀ b,S b->b < w.heap.size->S' b/\w'.heap[b]?=w.heap[b]?) (hl:∀ b,S' b->b < w'.heap.size)
    (hk:∀ k,KStep st G w st' G' w' k):∀ (v:SV) (m:Bool) {cs:List Value},SX P st G w S v m cs->SX P st' G' w' S' v m cs
  | .val T x,false,_,h=>RX_congr P T false hw hS hl h
  | .val _ _,true,_,h=>h
  | .nil,m,_,h=>by cases m <;> exact h
  | .ref t g e,true,_,h=>h
  | .ref t g e,false,cs,h=>by
    obtain ⟨v,rfl,ho,hg,hv⟩:=h
    refine ⟨v,rfl,ho,Nat.le_trans hg (hk _).gen,fun h e' l hr=>?_⟩
    obtain ⟨h0,l0,h1,h2,_⟩:=(hk _).root _ _ _ _ hr hg
    rw [h2];exact hv _ _ _ h1
  | .sub t g h i fs e,true,_,hh=>hh
  | .sub t g h i fs e,false,cs,hh=>by
    obtain ⟨v,rfl,ho,hg,hh,hv⟩:=hh
    refine ⟨v,rfl,ho,Nat.le_trans hg (hk _).gen,fun h' e' l hr=>?_,fun e' l hr=>?_⟩
    · obtain ⟨h0,l0,h1,h2,h3,h4,_⟩:=(hk _).root _ _ _ _ hr hg
      exact Nat.le_trans (hh _ _ _ h1) h4
    · obtain ⟨h0,l0,h1,h2,h3,h4,h5⟩:=(hk _).root _ _ _ _ hr hg
      have he:h=h0:=Nat.le_antisymm (hh _ _ _ h1) h4
      subst he
      obtain ⟨rfl,_,h6⟩:=h5 rfl
      obtain ⟨a1,a2,a3,b,o,n,c,arr,ty,fz,e1,e2,e3⟩:=hv _ _ h1
      exact ⟨a1,a2,a3,b,o,n,c,arr,ty,fz,by rw [h2];exact e1,by rw [h6 b o n c e1];exact e2,e3⟩
  | .vw t g lo n e,true,_,h=>h
  | .vw t g lo n e,false,cs,h=>by
    obtain ⟨v,rfl,ho,hg,hv⟩:=h
    refine ⟨v,rfl,ho,Nat.le_trans hg (hk _).gen,fun h e l hr=>?_⟩
    obtain ⟨h0,l0,h1,h2,h3,_⟩:=(hk _).root _ _ _ _ hr hg
    rw [h2,h3];exact hv _ _ _ h1
  | .sap _ _ _ _ _ _ _ _,true,_,h=>h
  | .sap t g h i fs e l gd,false,cs,hh=>by
    obtain ⟨v,rfl,ho,hg,hgd,hh,hv⟩:=hh
    refine ⟨v,rfl,ho,Nat.le_trans hg (hk _).gen,Nat.le_trans hgd (hk _).gen,fun h' e' l hr=>?_,fun e' l' hr hd=>?_⟩
    · obtain ⟨h0,l0,h1,h2,h3,h4,_⟩:=(hk _).root _ _ _ _ hr hg
      exact Nat.le_trans (hh _ _ _ h1) h4
    · obtain ⟨h0,l0,h1,h2,h3,h4,h5⟩:=(hk _).root _ _ _ _ hr hg
      have he:h=h0:=Nat.le_antisymm (hh _ _ _ h1) h4
      subst he
      obtain ⟨rfl,h9,h6⟩:=h5 rfl
      have e9:rk (t + 100000)=rk t + 300000:=by unfold rk;omega
      obtain ⟨h7,h8⟩:=h9 gd (by rw [<-e9];exact hd) (by rw [<-e9];exact hgd)
      obtain ⟨k1,k2,k3⟩:=(hk _).own _ hd hgd
      obtain ⟨a1,a2,a3,bs,hn,htc,hb⟩:=hv _ _ h1 k1
      refine ⟨a1,a2,a3,bs,hn,TC_congr _ (fun b hb'=>(hb b hb').elim (k3 b) (fun q=>h8 b q.1)) htc,fun b hb'=>?_⟩
      rcases hb b hb' with q | ⟨q,o,n,c,b',o',n',c',arr,ty,fz,e1,e2,e3⟩
      · left;rw [k2];exact q
      · right;rw [h7]
        exact ⟨q,o,n,c,b',o',n',c',arr,ty,fz,by rw [h2];exact e1,by rw [h6 b' o' n' c' e1];exact e2,e3⟩
  | .pel t g i fs,true,_,h=>h
  | .pel t g i fs,false,cs,h=>by
    obtain ⟨v,rfl,ho,hg,hv⟩:=h
    refine ⟨v,rfl,ho,Nat.le_trans hg (hk _).gen,fun h e l hr=>?_⟩
    obtain ⟨h0,l0,h1,h2,h3,_⟩:=(hk _).root _ _ _ _ hr hg
    rw [h2,h3];exact hv _ _ _ h1
  | .pbx b g fs,true,_,h=>h
  | .pbx b g fs,false,cs,h=>by
    obtain ⟨v,rfl,ho,hg,hv⟩:=h
    refine ⟨v,rfl,ho,Nat.le_trans hg (hk _).gen,fun T c hr=>?_⟩
    obtain ⟨c0,h1,h2⟩:=(hk _).box _ _ _ hr hg
    rw [h2];exact hv _ _ h1
  | .pix b g fs i,true,_,h=>h
  | .pix b g fs i,false,cs,h=>by
    obtain ⟨v,rfl,ho,hg,hv⟩:=h
    refine ⟨v,rfl,ho,Nat.le_trans hg (hk _).gen,fun T c hr=>?_⟩
    obtain ⟨c0,h1,h2⟩:=(hk _).box _ _ _ hr hg
    rw [h2];exact hv _ _ h1
  | .unit,m,_,h=>by cases m <;> exact h
  | .pair a b,false,cs,h=>by
    obtain ⟨c1,c2,rfl,h1,h2⟩:=h
    exact ⟨c1,c2,rfl,SX.tr hw hS hl hk a false h1,SX.tr hw hS hl hk b false h2⟩
  | .pair a b,true,vs,h=>by
    obtain ⟨c,r,rfl,h1,h2⟩:=h
    exact ⟨c,r,rfl,SX.tr hw hS hl hk a false h1,SX.tr hw hS hl hk b true h2⟩
  | .st a,false,_,h=>SX.tr hw hS hl hk a false h
  | .st a,true,_,h=>h
  | .tup _,m,_,h=>by cases m <;> exact h
  | .clo f fi ca,true,_,h=>h
  | .clo f fi ca,false,cs,h=>by
    obtain ⟨vs,us,rfl,h1,h2⟩:=h
    exact ⟨vs,us,rfl,SX.tr hw hS hl hk fi true h1,SX.tr hw hS hl hk ca true h2⟩
  | .mp t g,true,_,h=>h
  | .mp t g,false,cs,h=>by
    obtain ⟨b,rfl,h1,h2,h3⟩:=h
    obtain ⟨h4,h5⟩:=hS b h1 h2
    exact ⟨b,rfl,h4,Nat.lt_of_lt_of_le h2 hw,fun w2 hw2=>h3 w2 (hw2.trans h5)⟩
theorem SW.tr (hw:w.heap.size<=w'.heap.size) (hS:∀ b,S b->b < w.heap.size->S' b/\w'.heap[b]?=w.heap[b]?) (hl:∀ b,S' b->b < w'.heap.size)
    (hk:∀ k,KStep st G w st' G' w' k) {v:SV} {x:Value} (h:SW P st G w S v x):SW P st' G' w' S' v x:=by
  unfold SW at *
  split at h
  · obtain ⟨vs,rfl,h⟩:=h;exact ⟨vs,rfl,SX.tr hw hS hl hk _ _ h⟩
  · obtain ⟨c,rfl,h⟩:=h;exact ⟨c,rfl,SX.tr hw hS hl hk _ _ h⟩
theorem SX_len:∀ (v:SV) (T:Ty) {cs:List Value},v.hasTy T=true->SX P st G w S v false cs->cs.length=T.sz
  | .val T' x,T,cs,ht,h=>by
    simp only [SV.hasTy,decide_eq_true_eq] at ht;subst ht;exact RX_len P _ _ _ _ _ h
  | .nil,T,cs,ht,h=>by cases T <;> simp_all [SV.hasTy,SX,Ty.sz]
  | .ref _ _ _,T,cs,ht,h=>by obtain ⟨v,rfl,_⟩:=h;cases T <;> simp_all [SV.hasTy,Ty.sz]
  | .sub _ _ _ _ _ _,T,cs,ht,h=>by obtain ⟨v,rfl,_⟩:=h;cases T <;> simp_all [SV.hasTy,Ty.sz]
  | .vw _ _ _ _ _,T,cs,ht,h=>by obtain ⟨v,rfl,_⟩:=h;cases T <;> simp_all [SV.hasTy,Ty.sz]
  | .sap _ _ _ _ _ _ _ _,T,cs,ht,h=>by obtain ⟨v,rfl,_⟩:=h;cases T <;> simp_all [SV.hasTy,Ty.sz]
  | .pel _ _ _ _,T,cs,ht,h=>by obtain ⟨v,rfl,_⟩:=h;cases T <;> simp_all [SV.hasTy,Ty.sz]
  | .pbx _ _ _,T,cs,ht,h=>by obtain ⟨v,rfl,_⟩:=h;cases T <;> simp_all [SV.hasTy,Ty.sz]
  | .pix _ _ _ _,T,cs,ht,h=>by obtain ⟨v,rfl,_⟩:=h;cases T <;> simp_all [SV.hasTy,Ty.sz]
  | .unit,T,cs,ht,h=>by cases T <;> simp_all [SV.hasTy,SX,Ty.sz]
  | .pair a b,T,cs,ht,h=>by
    obtain ⟨c1,c2,rfl,h1,h2⟩:=h
    cases T <;> simp only [SV.hasTy,Bool.and_eq_true,Bool.false_eq_true] at ht
    rw [List.length_append,SX_len a _ ht.1 h1,SX_len b _ ht.2 h2];rfl
  | .st a,T,cs,ht,h=>by
    cases T <;> simp only [SV.hasTy,Bool.false_eq_true] at ht
    rename_i f
    exact SX_len a f ht h
  | .tup _,T,cs,ht,h=>h.elim
  | .clo _ _ _,T,cs,ht,h=>by obtain ⟨vs,us,rfl,_⟩:=h;cases T <;> simp_all [SV.hasTy,Ty.sz]
  | .mp _ _,T,cs,ht,h=>by cases T <;> simp [SV.hasTy] at ht
end
def ownB (st:St) (G:Gh) (k:Nat):List Nat:=match st k with
  | .root _ _ _ _=>G.bl k
  | .box _ _ _=>[G.bx k]
  | .own _=>G.bl k
  | _=>[]
/-- Blocks that nobody in the state owns. -/
def Fz (st:St) (G:Gh) (w:World) (b:Nat):Prop:=b < w.heap.size/\(∀ k,b ∉ ownB st G k)/\G.s0 b
/-- What stands fixed while a function runs. -/
structure Cx where
  P:Program
  w0:World
  mt:List Nat
  args:List Value
  pr:Nat
  nt:Nat
  s0:Nat->Prop
structure InvM (C:Cx) (st:St) (w:World) (G:Gh):Prop where
  rt:∀ k g h e l,st k=.root g h e l->TC (.sl e) w [G.hd k] l (G.bl k)
  sc:∀ i,(∃ v,st (sk i)=.sv v)\/st (sk i)=.none
  bx:∀ k g T v,st k=.box g T v->v.hasTy T=true/\∃ arr ty,w.heap[G.bx k]?=some (.cells arr ty (0,0))/\SX C.P st G w (Fz st G w) v false arr.toList
  nd:∀ k,(ownB st G k).Nodup
  dj:∀ k k' b,b ∈ ownB st G k->b ∈ ownB st G k'->k=k'
  lt:∀ k b,b ∈ ownB st G k->b < w.heap.size/\(C.w0.heap.size<=b\/b ∈ C.mt)
  os:w.os=C.w0.os
  tape:w.tape=C.w0.tape
  output:w.output=C.w0.output
  size:C.w0.heap.size<=w.heap.size
  block:∀ b,b < C.w0.heap.size->b ∉ C.mt->w.heap[b]?=C.w0.heap[b]?
  s0:G.s0=C.s0
  m0:∀ b,C.w0.heap.size<=b\/b ∈ C.mt->G.s0 b
structure Inv (C:Cx) (st:St) (a:Act) (w:World) (G:Gh):Prop extends InvM C st w G where
  sl:∀ i v,st (sk i)=.sv v->SW C.P st G w (Fz st G w) v (a.tmps.getD i undef)
  df:a.defers=[]
  sz:a.tmps.size=C.nt
  pa:∀ i,i < C.pr->a.tmps.getD i undef=C.args.getD i undef
/-- A step of memory: the keys K are touched, the blocks D may have changed. -/
structure Step0 (st:St) (G:Gh) (w:World) (st':St) (G':Gh) (w':World) (K:List Nat) (D:Nat->Prop):Prop where
  os:w'.os=w.os
  tape:w'.tape=w.tape
  output:w'.output=w.output
  size:w.heap.size<=w'.heap.size
  block:∀ b,b < w.heap.size->¬ D b->w'.heap[b]?=w.heap[b]?
  own:∀ b,D b->∃ k ∈ K,b ∈ ownB st G k
  out:∀ k,k ∉ K->st' k=st k/\G'.hd k=G.hd k/\G'.bl k=G.bl k/\G'.bx k=G.bx k
  nosk:∀ i,sk i ∉ K
  s0:G'.s0=G.s0
  ks:∀ k ∈ K,KStep st G w st' G' w' k
  sub:∀ k ∈ K,∀ b ∈ ownB st' G' k,(∃ k' ∈ K,b ∈ ownB st G k')\/w.heap.size<=b
  lt:∀ k ∈ K,∀ b ∈ ownB st' G' k,b < w'.heap.size
  nd:∀ k ∈ K,(ownB st' G' k).Nodup
  dj:∀ k ∈ K,∀ k' ∈ K,∀ b,b ∈ ownB st' G' k->b ∈ ownB st' G' k'->k=k'
structure Step (C:Cx) (st:St) (G:Gh) (w:World) (st':St) (G':Gh) (w':World) (K:List Nat) (D:Nat->Prop):Prop extends Step0 st G w st' G' w' K D where
  rt:∀ k ∈ K,∀ g h e l,st' k=.root g h e l->TC (.sl e) w' [G'.hd k] l (G'.bl k)
  bx:∀ k ∈ K,∀ g T v,st' k=.box g T v->v.hasTy T=true/\∃ arr ty,w'.heap[G'.bx k]?=some (.cells arr ty (0,0))/\SX C.P st' G' w' (Fz st' G' w') v false arr.toList
section
variable {C:Cx} {st st':St} {G G':Gh} {w w':World} {K:List Nat} {D:Nat->Prop}
theorem Step0.ownB_out (h:Step0 st G w st' G' w' K D) {k:Nat} (hk:k ∉ K):ownB st' G' k=ownB st G k:=by
  obtain ⟨h1,_,h3,h4⟩:=h.out k hk
  unfold ownB;rw [h1,h3,h4]
theorem Step0.fz (I:InvM C st w G) (h:Step0 st G w st' G' w' K D) {b:Nat} (hb:Fz st G w b):Fz st' G' w' b/\w'.heap[b]?=w.heap[b]?:=by
  refine ⟨⟨Nat.lt_of_lt_of_le hb.1 h.size,fun k hm=>?_,by rw [h.s0];exact hb.2.2⟩,h.block b hb.1 fun hd=>?_⟩
  · by_cases hk:k ∈ K
    · rcases h.sub k hk b hm with ⟨k',_,hm'⟩ | hge
      · exact hb.2.1 k' hm'
      · have:=hb.1;omega
    · rw [h.ownB_out hk] at hm;exact hb.2.1 k hm
  · obtain ⟨k,_,hm⟩:=h.own b hd;exact hb.2.1 k hm
theorem Step0.keep (I:InvM C st w G) (h:Step0 st G w st' G' w' K D) {k:Nat} (hk:k ∉ K) {b:Nat} (hb:b ∈ ownB st G k):w'.heap[b]?=w.heap[b]? :=
  h.block b (I.lt k b hb).1 fun hd=>by
    obtain ⟨k',hk',hm⟩:=h.own b hd
    exact hk (I.dj k k' b hb hm ▸ hk')
theorem hd_mem {w:World} {e:Ty} {hd:Value} {l:List (den e)} {bs:List Nat} (h:TC (.sl e) w [hd] l bs) {b o n c:Nat} (hh:hd=.slice (some ⟨b,o,none⟩) n c):b ∈ bs:=by
  rcases h with ⟨h1,_,_⟩ | ⟨b',o',n',c',arr,ty,bss,h1,h2,_⟩
  · rw [hh] at h1;simp at h1
  · rw [hh] at h1;simp at h1
    rw [h1.1.1,h2];exact List.mem_cons_self
theorem Step0.kstep (I:InvM C st w G) (h:Step0 st G w st' G' w' K D) (k:Nat):KStep st G w st' G' w' k:=by
  by_cases hk:k ∈ K
  · exact h.ks k hk
  · obtain ⟨h1,h2,h3,h4⟩:=h.out k hk
    refine ⟨by rw [h1];exact Nat.le_refl _,fun g hh e l hr _=>?_,fun g T c hr _=>⟨c,by rw [<-h1];exact hr,h4⟩,fun g hr _=>?_⟩
    · rw [h1] at hr
      refine ⟨hh,l,hr,h2,rfl,Nat.le_refl _,fun _=>⟨rfl,fun _ _ _=>⟨h3,fun b hb=>h.keep I hk (k:=k) ?_⟩,fun b o n c hb=>h.keep I hk (k:=k) ?_⟩⟩
      · unfold ownB;rw [hr];exact hb
      · unfold ownB;rw [hr]
        exact hd_mem (I.rt _ _ _ _ _ hr) hb
    · rw [h1] at hr
      exact ⟨hr,h3,fun b hb=>h.keep I hk (k:=k) (by unfold ownB;rw [hr];exact hb)⟩
theorem Step.inv {a:Act} (I:Inv C st a w G) (h:Step C st G w st' G' w' K D):Inv C st' a w' G':=by
  have hfz:=fun b (hb:Fz st G w b) (_:b < w.heap.size)=>h.toStep0.fz I.toInvM hb
  have hl:∀ b,Fz st' G' w' b->b < w'.heap.size:=fun b hb=>hb.1
  have hks:=h.toStep0.kstep I.toInvM
  refine { sc := fun i => by rw [(h.out _ (h.nosk i)).1]; exact I.sc i, rt := fun k g hh e l hr => ?_, bx := fun k g T v hr => ?_, nd := fun k => ?_, dj := fun k k' b h1 h2 => ?_, lt := fun k b hb => ?_, os := h.os.trans I.os, tape := h.tape.trans I.tape,
           output:=h.output.trans I.output,size:=Nat.le_trans I.size h.size,block:=fun b hb hm=>?_,sl:=fun i v hv=>?_,df:=I.df,sz:=I.sz,pa:=I.pa,s0:=h.s0.trans I.s0,m0:=fun b hb=>by rw [h.s0];exact I.m0 b hb }
  · by_cases hk:k ∈ K
    · exact h.rt k hk _ _ _ _ hr
    · obtain ⟨h1,h2,h3,h4⟩:=h.out k hk
      rw [h1] at hr;rw [h2,h3]
      refine TC_congr _ (fun b hb=>h.toStep0.keep I.toInvM hk (k:=k) ?_) (I.rt _ _ _ _ _ hr)
      unfold ownB;rw [hr];exact hb
  · by_cases hk:k ∈ K
    · exact h.bx k hk _ _ _ hr
    · obtain ⟨h1,h2,h3,h4⟩:=h.out k hk
      rw [h1] at hr;rw [h4]
      obtain ⟨ht,arr,ty,ha,hs⟩:=I.bx _ _ _ _ hr
      refine ⟨ht,arr,ty,?_,SX.tr h.size hfz hl hks _ _ hs⟩
      rw [h.toStep0.keep I.toInvM hk (k:=k)];exact ha
      unfold ownB;rw [hr];simp
  · by_cases hk:k ∈ K
    · exact h.nd k hk
    · rw [h.toStep0.ownB_out hk];exact I.nd k
  · by_cases hk:k ∈ K
    · by_cases hk':k' ∈ K
      · exact h.dj k hk k' hk' b h1 h2
      · rw [h.toStep0.ownB_out hk'] at h2
        rcases h.sub k hk b h1 with ⟨k2,hk2,h3⟩ | hge
        · exact absurd (I.dj _ _ _ h3 h2 ▸ hk2) hk'
        · have:=(I.lt _ _ h2).1;omega
    · rw [h.toStep0.ownB_out hk] at h1
      by_cases hk':k' ∈ K
      · rcases h.sub k' hk' b h2 with ⟨k2,hk2,h3⟩ | hge
        · exact absurd (I.dj _ _ _ h3 h1 ▸ hk2) hk
        · have:=(I.lt _ _ h1).1;omega
      · rw [h.toStep0.ownB_out hk'] at h2;exact I.dj _ _ _ h1 h2
  · by_cases hk:k ∈ K
    · refine ⟨h.lt k hk b hb,?_⟩
      rcases h.sub k hk b hb with ⟨k2,_,h3⟩ | hge
      · exact (I.lt _ _ h3).2
      · exact .inl (Nat.le_trans I.size hge)
    · rw [h.toStep0.ownB_out hk] at hb
      exact ⟨Nat.lt_of_lt_of_le (I.lt _ _ hb).1 h.size,(I.lt _ _ hb).2⟩
  · rw [<-I.block b hb hm]
    refine h.block b (Nat.lt_of_lt_of_le hb I.size) fun hd=>?_
    obtain ⟨k,_,h1⟩:=h.own b hd
    rcases (I.lt _ _ h1).2 with h2 | h2
    · omega
    · exact hm h2
  · rw [(h.out _ (h.nosk i)).1] at hv
    exact SW.tr h.size hfz hl hks (I.sl i v hv)
theorem KStep.refl (st:St) (G:Gh) (w:World) (k:Nat):KStep st G w st G w k :=
  ⟨Nat.le_refl _,fun g h e l hr _=>⟨h,l,hr,rfl,rfl,Nat.le_refl _,fun _=>⟨rfl,fun _ _ _=>⟨rfl,fun _ _=>rfl⟩,fun _ _ _ _ _=>rfl⟩⟩,fun g T c hr _=>⟨c,hr,rfl⟩,fun g hr _=>⟨hr,rfl,fun _ _=>rfl⟩⟩
theorem upd_same (s:St) (k:Nat) (c:Cell):upd s k c k=c:=by simp [upd]
theorem upd_ne (s:St) {k j:Nat} (c:Cell) (h:j ≠ k):upd s k c j=s j:=by
  have:Nat.beq j k=false:=by
    cases hb:Nat.beq j k
    · rfl
    · exact absurd (Nat.eq_of_beq_eq_true hb) h
  simp [upd,this]
theorem sk_ne_rk (i t:Nat):sk i ≠ rk t:=by unfold sk rk;omega
theorem sk_ne_bk (i t:Nat):sk i ≠ bk t:=by unfold sk bk;omega
theorem rk_ne_bk (i t:Nat):rk i ≠ bk t:=by unfold rk bk;omega
theorem sk_inj {i j:Nat} (h:sk i=sk j):i=j:=by unfold sk at h;omega
theorem rk_inj {i j:Nat} (h:rk i=rk j):i=j:=by unfold rk at h;omega
theorem bk_inj {i j:Nat} (h:bk i=bk j):i=j:=by unfold bk at h;omega
theorem InvM.own_sk (I:InvM C st w G) (i:Nat):ownB st G (sk i)=[]:=by
  unfold ownB
  rcases I.sc i with ⟨v,h⟩ | h <;> rw [h]
/-- Slots alone have changed. -/
structure SlotStep (st st':St):Prop where
  out:∀ k,(∀ i,k ≠ sk i)->st' k=st k
  sc:∀ i,(∃ v,st' (sk i)=.sv v)\/st' (sk i)=.none
theorem SlotStep.own (I:InvM C st w G) (h:SlotStep st st') (k:Nat):ownB st' G k=ownB st G k:=by
  by_cases hk:∃ i,k=sk i
  · obtain ⟨i,rfl⟩:=hk
    rw [I.own_sk];unfold ownB
    rcases h.sc i with ⟨v,h⟩ | h <;> rw [h]
  · unfold ownB;rw [h.out k fun i hi=>hk ⟨i,hi⟩]
theorem SlotStep.fz (I:InvM C st w G) (h:SlotStep st st'):Fz st' G w=Fz st G w:=by
  funext b;unfold Fz;simp only [h.own I]
theorem SlotStep.ks (I:InvM C st w G) (h:SlotStep st st') (k:Nat):KStep st G w st' G w k:=by
  by_cases hk:∃ i,k=sk i
  · obtain ⟨i,rfl⟩:=hk
    have h0:(st (sk i)).gen=0:=by rcases I.sc i with ⟨v,h⟩ | h <;> rw [h] <;> rfl
    refine ⟨by rw [h0];exact Nat.zero_le _,fun g hh e l hr _=>?_,fun g T c hr _=>?_,fun g hr _=>?_⟩
    · rcases h.sc i with ⟨v,h⟩ | h <;> rw [h] at hr <;> cases hr
    · rcases h.sc i with ⟨v,h⟩ | h <;> rw [h] at hr <;> cases hr
    · rcases h.sc i with ⟨v,h⟩ | h <;> rw [h] at hr <;> cases hr
  · have e:=h.out k fun i hi=>hk ⟨i,hi⟩
    refine ⟨by rw [e];exact Nat.le_refl _,fun g hh e' l hr _=>⟨hh,l,by rw [<-e];exact hr,rfl,rfl,Nat.le_refl _,fun _=>⟨rfl,fun _ _ _=>⟨rfl,fun _ _=>rfl⟩,fun _ _ _ _ _=>rfl⟩⟩,fun g T c hr _=>⟨c,by rw [<-e];exact hr,rfl⟩,fun g hr _=>⟨by rw [<-e];exact hr,rfl,fun _ _=>rfl⟩⟩
theorem SlotStep.sw (I:InvM C st w G) (h:SlotStep st st') {v:SV} {x:Value} (hx:SW C.P st G w (Fz st G w) v x):SW C.P st' G w (Fz st' G w) v x :=
  SW.tr (Nat.le_refl _) (fun b hb _=>⟨by rw [h.fz I];exact hb,rfl⟩) (fun b hb=>hb.1) (h.ks I) hx
theorem SlotStep.sx (I:InvM C st w G) (h:SlotStep st st') {v:SV} {m:Bool} {x:List Value} (hx:SX C.P st G w (Fz st G w) v m x):SX C.P st' G w (Fz st' G w) v m x :=
  SX.tr (Nat.le_refl _) (fun b hb _=>⟨by rw [h.fz I];exact hb,rfl⟩) (fun b hb=>hb.1) (h.ks I) _ _ hx
theorem SlotStep.invM (I:InvM C st w G) (h:SlotStep st st'):InvM C st' w G:=by
  have hr:∀ k g hh e l,st' k=.root g hh e l->st k=.root g hh e l:=fun k g hh e l hr=>by
    by_cases hk:∃ i,k=sk i
    · obtain ⟨i,rfl⟩:=hk
      rcases h.sc i with ⟨v,h⟩ | h <;> rw [h] at hr <;> cases hr
    · rw [<-h.out k fun i hi=>hk ⟨i,hi⟩];exact hr
  have hb:∀ k g T v,st' k=.box g T v->st k=.box g T v:=fun k g T v hr=>by
    by_cases hk:∃ i,k=sk i
    · obtain ⟨i,rfl⟩:=hk
      rcases h.sc i with ⟨v,h⟩ | h <;> rw [h] at hr <;> cases hr
    · rw [<-h.out k fun i hi=>hk ⟨i,hi⟩];exact hr
  refine ⟨fun k g hh e l e'=>I.rt k g hh e l (hr _ _ _ _ _ e'),h.sc,fun k g T v e'=>?_,fun k=>by rw [h.own I];exact I.nd k,fun k k' b h1 h2=>?_,fun k b h1=>?_,I.os,I.tape,I.output,I.size,I.block,I.s0,I.m0⟩
  · obtain ⟨h0,arr,ty,h1,h2⟩:=I.bx k g T v (hb _ _ _ _ e')
    exact ⟨h0,arr,ty,h1,h.sx I h2⟩
  · rw [h.own I] at h1 h2;exact I.dj k k' b h1 h2
  · rw [h.own I] at h1;exact I.lt k b h1
theorem upd_slotStep (I:InvM C st w G) (d:Nat) (c:Cell) (hc:(∃ v,c=.sv v)\/c=.none):SlotStep st (upd st (sk d) c) :=
  ⟨fun k hk=>upd_ne _ _ (hk d),fun i=>by
    by_cases hi:i=d
    · subst hi;rw [upd_same];exact hc
    · rw [upd_ne _ _ (fun e=>hi (sk_inj e))];exact I.sc i⟩
theorem put_getD (a:Act) (d i:Nat) (x:Value):(a.put (some d) x).tmps.getD i undef=if i=d/\d < a.tmps.size then x else a.tmps.getD i undef:=by
  simp only [Act.put,Array.getD_eq_getD_getElem?,Array.getElem?_setIfInBounds]
  by_cases h:d=i
  · subst h
    by_cases h2:d < a.tmps.size <;> simp [h2]
  · rw [if_neg h,if_neg (by omega)]
theorem Inv.put {a:Act} (I:Inv C st a w G) {d:Nat} (hd:C.pr<=d) {v:SV} {x:Value} (hx:SW C.P st G w (Fz st G w) v x) (hlt:d < C.nt):Inv C (upd st (sk d) (.sv v)) (a.put (some d) x) w G:=by
  have h:=upd_slotStep I.toInvM d (.sv v) (.inl ⟨v,rfl⟩)
  refine { toInvM:=h.invM I.toInvM,sl:=fun i u hu=>?_,df:=I.df,sz:=by simp [Act.put,I.sz],pa:=fun i hi=>?_ }
  · rw [put_getD]
    by_cases hi:i=d
    · subst hi
      rw [upd_same] at hu;injection hu with hu;subst hu
      rw [if_pos ⟨rfl,by rw [I.sz];exact hlt⟩];exact h.sw I.toInvM hx
    · rw [if_neg (fun e=>hi e.1)]
      rw [upd_ne _ _ (fun e=>hi (sk_inj e))] at hu
      exact h.sw I.toInvM (I.sl i u hu)
  · rw [put_getD,if_neg (by omega)];exact I.pa i hi
theorem Inv.putNone {a:Act} (I:Inv C st a w G) {d:Nat} (hd:C.pr<=d) (x:Value):Inv C (upd st (sk d) .none) (a.put (some d) x) w G:=by
  have h:=upd_slotStep I.toInvM d .none (.inr rfl)
  refine { toInvM:=h.invM I.toInvM,sl:=fun i u hu=>?_,df:=I.df,sz:=by simp [Act.put,I.sz],pa:=fun i hi=>?_ }
  · rw [put_getD]
    by_cases hi:i=d
    · subst hi
      rw [upd_same] at hu;cases hu
    · rw [if_neg (fun e=>hi e.1)]
      rw [upd_ne _ _ (fun e=>hi (sk_inj e))] at hu
      exact h.sw I.toInvM (I.sl i u hu)
  · rw [put_getD,if_neg (by omega)];exact I.pa i hi
end
end Go.Proofs.YtefmjjpdflpnaaaGreat.E
