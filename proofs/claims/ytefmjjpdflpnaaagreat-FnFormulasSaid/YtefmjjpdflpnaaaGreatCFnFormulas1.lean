/-
  The evaluator's reading of operands and its quiet operations (numbers, strings, tuples) are sound. Conditions: those of each theorem.
-/
import Derived.Test.YtefmjjpdflpnaaaGreatCFnFormulas0
namespace Go.Proofs.YtefmjjpdflpnaaaGreat.E
open Go Go.RowKit
set_option linter.unusedVariables false
set_option linter.unusedSimpArgs false
def Rn {α:Type} (m:M α) (st:St) (a:α):Prop:=∃ rd,m.run st=some (rd,a)
section
variable {α:Type} {st:St} {u:α}
theorem Rn_ret {a:α}:Rn (.ret a) st u ↔ a=u:=by simp [Rn,M.run]
theorem Rn_get {k:Nat} {f:Cell->M α}:Rn (.get k f) st u ↔ Rn (f (st k)) st u:=by
  constructor
  · rintro ⟨rd,h⟩
    simp only [M.run,Option.map_eq_some_iff] at h
    obtain ⟨⟨rd',u'⟩,h,e⟩:=h
    injection e with e1 e2;subst e2
    exact ⟨rd',h⟩
  · rintro ⟨rd,h⟩
    exact ⟨k :: rd,by simp [M.run,h]⟩
theorem Rn_chk {b:Bool} {m:M α}:Rn (.chk b m) st u ↔ b=true/\Rn m st u:=by cases b <;> simp [Rn,M.run]
theorem Rn_br {b:Bool} {m n:M α}:Rn (.br b m n) st u ↔ (b=true/\Rn m st u)\/(b=false/\Rn n st u):=by cases b <;> simp [Rn,M.run]
theorem Rn_fail:Rn (.fail:M α) st u ↔ False:=by simp [Rn,M.run]
theorem Rn_call {A R:Ty} {F:den A->Option (den R)} {x:den A} {f:den R->M α}:Rn (.call A R F x f) st u ↔ ∃ y,F x=some y/\Rn (f y) st u:=by
  constructor
  · rintro ⟨rd,h⟩
    simp only [M.run,Option.bind_eq_some_iff] at h
    obtain ⟨y,h1,h2⟩:=h
    exact ⟨y,h1,rd,h2⟩
  · rintro ⟨y,h1,rd,h2⟩
    exact ⟨rd,by simp [M.run,h1,h2]⟩
theorem Rn_bif {b:Bool} {m n:M α}:Rn (bif b then m else n) st u ↔ (b=true/\Rn m st u)\/(b=false/\Rn n st u):=by cases b <;> simp
end
def zc:Ty->List Value
  | .int k=>[.int k 0]
  | .bool=>[.bool false]
  | .str=>[.string ByteArray.empty]
  | .pair a b=>zc a ++ zc b
  | .st f=>zc f
  | .sl _=>[.slice none 0 0]
  | .frm=>[.int .u8 0,.slice none 0 0]
  | .arr n e=>(List.replicate n (zc e)).flatten
  | _=>[]
def UnOk (ty:Nat->Option Ty):TypeDesc->Ty->Prop
  | .int k,.int k'=>k=k'
  | .bool,.bool=>True
  | .string,.str=>True
  | .struct fs,.st f=>fs.size=f.len/\∀ n F,fs[n]?=some F->F.offset=off f n/\ty F.type=some (fld f n)/\F.name ≠ "_"
  | .slice et,.sl e=>ty et=some e\/(e=.st .frm/\ty et=some frU)
  | .array n et,.arr m e=>n=m/\ty et=some e
  | .pointer _,.ptr _=>True
  | .func _ _ _,.fn _ _=>True
  | _,_=>False
structure TyOk (P:Program) (ty:Nat->Option Ty) (t:Nat) (T:Ty):Prop where
  info:∃ i,P.info? t=some i/\i.size=T.sz/\i.bytes<=100/\0 < i.bytes/\(T.zok=true->i.zero=some (valOf T (zc T)))
  und:∃ d,P.underlying t=some d/\UnOk ty d T
  held:P.stoodInHeld t=false
theorem zok_of {T:Ty} {z:SV} (h:zeroSV T=some z):T.zok=true:=by simp [Ty.zok,h]
/-- A slice's elements: their type. -/
theorem TyOk.el {P:Program} {ty:Nat->Option Ty} (hO:∀ t T,ty t=some T->TyOk P ty t T) {et:Nat} {e:Ty} (h:ty et=some e\/(e=.st .frm/\ty et=some frU)):TyOk P ty et e:=by
  rcases h with h | ⟨rfl,h⟩
  · exact hO _ _ h
  · obtain ⟨⟨i,h1,h2,h3,h4,h5⟩,⟨d,h6,h7⟩,h8⟩:=hO _ _ h
    refine ⟨⟨i,h1,h2,h3,h4,fun _=>h5 (by decide)⟩,⟨d,h6,?_⟩,h8⟩
    cases d <;> simp only [UnOk,frU,frF] at h7
    rename_i fs
    refine ⟨h7.1,fun n F hF=>?_⟩
    obtain ⟨k1,k2,k3⟩:=h7.2 n F hF
    match n with
    | 0=>exact ⟨k1,k2,k3⟩
    | 1=>exact ⟨k1,k2,k3⟩
    | n + 2 =>
      have:=(Array.getElem?_eq_some_iff.1 hF).1
      have h9:fs.size=2:=h7.1
      omega
def FnOkP (P:Program) (f:Nat) (A R:Ty) (F:den A->Option (den R)):Prop :=
  ∀ (w:World) (vs:List Value) (x:den A) (y:den R),RX P A true w (fun b=>b < w.heap.size) vs x->F x=some y->CF P f vs.toArray w (Ret R y w)
/-- The arguments of a call that may change some of them: those are trees, whose blocks bs are. -/
def AX (P:Program):(T:Ty)->List Bool->World->(Nat->Prop)->List Value->den T->List Nat->Prop
  | .pair A B,mu,w,S,vs,x,bs=>∃ c r b1 b2,vs=valOf A c :: r/\bs=b1 ++ b2/\(if mu.headD false=true then TC A w c x.1 b1 else b1=[]/\RX P A false w S c x.1)/\AX P B mu.tail w S r x.2 b2
  | .unit,_,_,_,vs,_,bs=>vs=[]/\bs=[]
  | _,_,_,_,_,_,_=>False
/-- What such a call has left in them. -/
def OX:(T:Ty)->(mu:List Bool)->World->List Value->den (outT T mu)->List Nat->Prop
  | .pair A B,true :: mu,w,vs,x,bs=>∃ c r b1 b2,vs=valOf A c :: r/\bs=b1 ++ b2/\TC A w c x.1 b1/\OX B mu w r x.2 b2
  | .pair _ B,false :: mu,w,vs,x,bs=>OX B mu w vs.tail x bs
  | _,_,_,_,_,bs=>bs=[]
structure RetM (R:Ty) (A:Ty) (mu:List Bool) (y:den R) (z:den (outT A mu)) (vs:List Value) (bs:List Nat) (w:World) (v:Value) (w':World):Prop where
  val:∃ c,v=valOf R c/\TC R w' c y []
  out:∃ bs',OX A mu w' vs z bs'/\bs'.Nodup/\(∀ b ∈ bs',(b ∈ bs\/w.heap.size<=b)/\b < w'.heap.size)
  os:w'.os=w.os
  tape:w'.tape=w.tape
  output:w'.output=w.output
  size:w.heap.size<=w'.heap.size
  block:∀ b,b < w.heap.size->b ∉ bs->w'.heap[b]?=w.heap[b]?
def FnOkM (P:Program) (f:Nat) (A:Ty) (mu:List Bool) (R:Ty) (F:den A->Option (den R × den (outT A mu))):Prop :=
  ∀ (w:World) (vs:List Value) (x:den A) (y:den R) (z:den (outT A mu)) (bs:List Nat),AX P A mu w (fun b=>b < w.heap.size/\b ∉ bs) vs x bs->bs.Nodup->F x=some (y,z) →
    CF P f vs.toArray w (RetM R A mu y z vs bs w)
structure FnOk (P:Program) (f:Nat) (sp:FnSpec):Prop where
  plain:sp.mu.any id=false->FnOkP P f sp.pas sp.ret sp.F
  muts:sp.mu.any id=true->∀ R (h:sp.ret=.pair R (outT sp.pas sp.mu)),FnOkM P f sp.pas sp.mu R (fun x=>(h ▸ sp.F x:Option (den (.pair R (outT sp.pas sp.mu)))))
/-- The cells of a value by its shape, without boxes; bs: the blocks that it owns, S: those that it may read. -/
def XI (P:Program):(sh:Shp)->World->(Nat->Prop)->List Value->den sh.ty->List Nat->Prop
  | .v T,w,S,cs,x,bs=>bs=[]/\RX P T false w S cs x
  | .r e,w,_,cs,x,bs=>TC (.sl e) w cs x bs
  | .bx _,_,_,_,_,_=>False
  | .cl _ _,_,_,_,_,_=>False
  | .unit,_,_,cs,_,bs=>cs=[]/\bs=[]
  | .pair a b,w,S,cs,x,bs=>∃ c1 c2 b1 b2,cs=c1 ++ c2/\bs=b1 ++ b2/\XI P a w S c1 x.1 b1/\XI P b w S c2 x.2 b2
  | .st a,w,S,cs,x,bs=>XI P a w S cs x bs
def XO (P:Program):(sh:Shp)->World->(Nat->Prop)->List Value->den sh.ty->List Nat->Prop
  | .bx c,w,S,cs,x,bs=>∃ b b1 arr ty,cs=[.pointer (some ⟨b,0,none⟩)]/\bs=b :: b1/\w.heap[b]?=some (.cells arr ty (0,0))/\XI P c w S arr.toList x b1
  | .cl f c,w,S,cs,x,bs=>∃ b b1 arr ty,cs=[.func (.func f) #[] #[.pointer (some ⟨b,0,none⟩)]]/\bs=b :: b1/\w.heap[b]?=some (.cells arr ty (0,0))/\XI P c w S arr.toList x b1
  | sh,w,S,cs,x,bs=>XI P sh w S cs x bs
def XL (P:Program):(l:Lv)->World->(Nat->Prop)->List Value->den l.ty->List Nat->Prop
  | [],_,_,vs,_,bs=>vs=[]/\bs=[]
  | (_,sh) :: l,w,S,vs,x,bs=>∃ c r b1 b2,vs=valOf sh.ty c :: r/\bs=b1 ++ b2/\XO P sh w S c x.1 b1/\XL P l w S r x.2 b2
/-- The values of the boxes among the arguments. -/
def outV:Lv->List Value->List Value
  | (_,.bx _) :: l,v :: vs=>v :: outV l vs
  | (_,.cl _ _) :: l,v :: vs=>v :: outV l vs
  | _ :: l,_ :: vs=>outV l vs
  | _,_=>[]
def retV (rs:List Value):Value:=if h:rs.length=1 then rs[0] else .tuple rs.toArray
structure ShRet (P:Program) (sp:ShSpec) (vs:List Value) (y:den sp.rl.ty) (z:den (outL sp.ps).ty) (bs:List Nat) (S:Nat->Prop) (w:World) (v:Value) (w':World):Prop where
  ex:∃ rs bsr bso,v=retV rs/\XL P sp.rl w' (fun b=>b < w'.heap.size/\(S b\/w.heap.size<=b\/b ∈ bs)/\b ∉ bsr ++ bso) rs y bsr ∧
    XL P (outL sp.ps) w' (fun b=>b < w'.heap.size/\(S b\/w.heap.size<=b\/b ∈ bs)/\b ∉ bsr ++ bso) (outV sp.ps vs) z bso/\(bsr ++ bso).Nodup/\∀ b ∈ bsr ++ bso,(b ∈ bs\/w.heap.size<=b)/\b < w'.heap.size
  os:w'.os=w.os
  tape:w'.tape=w.tape
  output:w'.output=w.output
  size:w.heap.size<=w'.heap.size
  block:∀ b,b < w.heap.size->b ∉ bs->w'.heap[b]?=w.heap[b]?
/-- What a function with such a contract does: for any blocks S that may be read. -/
def ShOk (P:Program) (f:Nat) (sp:ShSpec):Prop :=
  ∀ (w:World) (vs:List Value) (x:den sp.ps.ty) (y:den sp.rl.ty) (z:den (outL sp.ps).ty) (bs:List Nat) (S:Nat->Prop),XL P sp.ps w S vs x bs->bs.Nodup →
    (∀ b,S b->b < w.heap.size/\b ∉ bs)->(∀ b ∈ bs,b < w.heap.size)->sp.F x=some (y,z)->CF P f vs.toArray w (ShRet P sp vs y z bs S w)
/-- A function without parameters that hands back a new map, which answers as g does. -/
def MpOk (P:Program) (f:Nat) (t:TypeId) (g:ByteArray->ByteArray):Prop:=∀ w:World,CF P f #[] w fun v w'=>Below w.heap.size w w'/\∃ b,v=.map (some b)/\w.heap.size<=b/\b < w'.heap.size/\MapR P t g b w'
structure CfgOk (C:Cx) (cf:Cfg):Prop where
  prot:cf.prot=C.pr
  nt:cf.nt=C.nt
  ty:∀ t T,cf.ty t=some T->TyOk C.P cf.ty t T
  fn:∀ f sp,cf.fn f=some sp->FnOk C.P f sp
  fs:∀ f sp,cf.fs f=some sp->ShOk C.P f sp
  mp:∀ f p,cf.mp f=some p->MpOk C.P f p.1 p.2
section
variable {C:Cx} {cf:Cfg} {st:St} {a:Act} {w:World} {G:Gh} {α:Type} {u:α}
theorem slot_run (I:Inv C st a w G) {i:Nat} {f:SV->M α} (h:Rn (slot i f) st u):∃ v,st (sk i)=.sv v/\SW C.P st G w (Fz st G w) v (a.tmps.getD i undef)/\Rn (f v) st u:=by
  unfold slot at h
  rw [Rn_get] at h
  split at h
  · rename_i v hv;exact ⟨v,hv,I.sl i v hv,h⟩
  · exact (Rn_fail.1 h).elim
theorem constS_sw {v:Value} {s:SV} (h:constS v=some s):SW C.P st G w (Fz st G w) s v:=by
  unfold constS at h
  split at h <;> first | (cases h;exact ⟨[_],rfl,rfl⟩) | cases h
theorem opd_run (I:Inv C st a w G) {o:Operand} {f:SV->M α} (h:Rn (opd o f) st u):∃ v,SW C.P st G w (Fz st G w) v (a.eval o)/\Rn (f v) st u:=by
  unfold opd at h
  split at h
  · obtain ⟨v,_,h1,h2⟩:=slot_run I h;exact ⟨v,h1,h2⟩
  · split at h
    · rename_i s hs;exact ⟨s,constS_sw hs,h⟩
    · exact (Rn_fail.1 h).elim
  · exact ⟨_,(show SW C.P st G w (Fz st G w) (.clo _ .unit .unit) _ from ⟨[.func (.func _) #[] #[]],rfl,[],[],rfl,rfl,rfl⟩),h⟩
  · exact (Rn_fail.1 h).elim
/-- A value that is no tuple: its cells. -/
theorem SW_cells {P:Program} {S:Nat->Prop} {v:SV} {x:Value} (h:SW P st G w S v x) (hv:∀ b,v ≠ .tup b):∃ c,x=valS v c/\SX P st G w S v false c:=by
  unfold SW at h
  split at h
  · exact absurd rfl (hv _)
  · exact h
theorem SW_of {P:Program} {S:Nat->Prop} {v:SV} {c:List Value} (h:SX P st G w S v false c):SW P st G w S v (valS v c):=by
  unfold SW
  split
  · exact h.elim
  · exact ⟨c,rfl,h⟩
theorem opds_run (I:Inv C st a w G):∀ {os:List Operand} {f:SV->M α},Rn (opds os f) st u->∃ v,SX C.P st G w (Fz st G w) v true (os.map a.eval)/\Rn (f v) st u
  | [],f,h=>⟨.unit,rfl,h⟩
  | o :: os,f,h=>by
    unfold opds at h
    obtain ⟨v,hv,h⟩:=opd_run I h
    obtain ⟨r,hr,h⟩:=opds_run I h
    split at h
    · exact (Rn_fail.1 h).elim
    · rename_i hn
      obtain ⟨c,hx,hc⟩:=SW_cells hv hn
      refine ⟨.pair v r,⟨c,_,?_,hc,hr⟩,h⟩
      rw [List.map_cons,hx]
theorem upds_slot (d:Nat) (c:Cell):∀ (more:U) (s:St),(∀ p ∈ more,p.1 ≠ sk d)->upds (upd s (sk d) c) more=upd (upds s more) (sk d) c
  | [],s,_=>rfl
  | (k,x) :: r,s,h=>by
    show upds (upd (upd s (sk d) c) k x) r=_
    have hk:k ≠ sk d:=h (k,x) List.mem_cons_self
    have e:upd (upd s (sk d) c) k x=upd (upd s k x) (sk d) c:=by
      funext j
      by_cases h1:j=k
      · subst h1;rw [upd_same,upd_ne _ _ hk,upd_same]
      · rw [upd_ne _ _ h1]
        by_cases h2:j=sk d
        · subst h2;rw [upd_same,upd_same]
        · rw [upd_ne _ _ h2,upd_ne _ _ h2,upd_ne _ _ h1]
    rw [e]
    exact upds_slot d c r _ fun p hp=>h p (List.mem_cons_of_mem _ hp)
theorem wr_sound (O:CfgOk C cf) {dst:Option Nat} {v:SV} {more:U} {us:U} (h:Rn (wr cf dst v more) st us) {x:Value} {w':World} {G':Gh}
    (I:Inv C (upds st more) a w' G') (hm:∀ p ∈ more,∀ i,p.1 ≠ sk i) (hx:SW C.P (upds st more) G' w' (Fz (upds st more) G' w') v x):Inv C (upds st us) (a.put dst x) w' G':=by
  unfold wr at h
  cases dst with
  | none=>rw [Rn_ret] at h;subst h;exact I
  | some d =>
    rw [Rn_bif] at h
    rcases h with ⟨hb,h⟩ | ⟨_,h⟩
    · rw [Rn_ret] at h;subst h
      simp only [Bool.and_eq_true] at hb
      show Inv C (upds (upd st (sk d) (.sv v)) more) _ _ _
      rw [upds_slot d _ more st fun p hp=>hm p hp d]
      exact I.put (by rw [<-O.prot];exact Nat.le_of_ble_eq_true hb.1) hx (by rw [<-O.nt];exact Nat.le_of_ble_eq_true hb.2)
    · exact (Rn_fail.1 h).elim
theorem wr_sound0 (O:CfgOk C cf) {dst:Option Nat} {v:SV} {us:U} (h:Rn (wr cf dst v []) st us) {x:Value} (I:Inv C st a w G) (hx:SW C.P st G w (Fz st G w) v x):Inv C (upds st us) (a.put dst x) w G :=
  wr_sound O h I (fun _ hp=>by cases hp) hx
theorem wp_value {o:Oper} {P:Program} {next:Act->World->Prop} {Q:Exit->Act->World->Prop} {v:Value} {w':World} (h:(execOp a.eval o).run P w=.ok (.value v) w') (hn:next (a.put o.dst v) w'):o.wp P a w next Q:=by
  unfold Oper.wp;rw [h];exact hn
theorem plainS_sx {P:Program} {S:Nat->Prop}:∀ (v:SV) {T:Ty} {x:den T} {cs:List Value},plainS v=some ⟨T,x⟩->SX P st G w S v false cs->RX P T false w S cs x
  | .val T' x',T,x,cs,h,hs=>by
    simp only [plainS,Option.some.injEq,Sigma.mk.injEq] at h
    obtain ⟨rfl,h⟩:=h;cases h;exact hs
  | .unit,T,x,cs,h,hs=>by
    simp only [plainS,Option.some.injEq,Sigma.mk.injEq] at h
    obtain ⟨rfl,h⟩:=h;cases h;exact hs
  | .pair a b,T,x,cs,h,hs=>by
    obtain ⟨c1,c2,rfl,h1,h2⟩:=hs
    unfold plainS at h
    cases ha:plainS a with
    | none=>rw [ha] at h;cases h
    | some p =>
      obtain ⟨A,xa⟩:=p
      rw [ha] at h;simp only at h
      cases hb:plainS b with
      | none=>rw [hb] at h;cases h
      | some q =>
        obtain ⟨B,xb⟩:=q
        rw [hb] at h
        simp only [Option.some.injEq,Sigma.mk.injEq] at h
        obtain ⟨rfl,h⟩:=h;cases h
        exact ⟨c1,c2,rfl,plainS_sx a ha h1,plainS_sx b hb h2⟩
  | .st a,T,x,cs,h,hs=>by
    unfold plainS at h
    cases ha:plainS a with
    | none=>rw [ha] at h;cases h
    | some p =>
      obtain ⟨A,xa⟩:=p
      rw [ha] at h
      simp only [Option.some.injEq,Sigma.mk.injEq] at h
      obtain ⟨rfl,h⟩:=h;cases h
      exact plainS_sx a (T:=A) (x:=xa) ha (cs:=cs) hs
  | .nil,_,_,_,h,_=>by simp [plainS] at h
  | .ref _ _ _,_,_,_,h,_=>by simp [plainS] at h
  | .sub _ _ _ _ _ _,_,_,_,h,_=>by simp [plainS] at h
  | .vw _ _ _ _ _,_,_,_,h,_=>by simp [plainS] at h
  | .sap _ _ _ _ _ _ _ _,_,_,_,h,_=>by simp [plainS] at h
  | .mp _ _,_,_,_,h,_=>by simp [plainS] at h
  | .pel _ _ _ _,_,_,_,h,_=>by simp [plainS] at h
  | .pbx _ _ _,_,_,_,h,_=>by simp [plainS] at h
  | .pix _ _ _ _,_,_,_,h,_=>by simp [plainS] at h
  | .tup _,_,_,_,h,_=>by simp [plainS] at h
  | .clo _ _ _,_,_,_,h,_=>by simp [plainS] at h
theorem plainS_valS:∀ (v:SV) {T:Ty} {x:den T} {cs:List Value},plainS v=some ⟨T,x⟩->valS v cs=valOf T cs:=by
  intro v T x cs h
  cases v with
  | val T' x'=>simp only [plainS,Option.some.injEq,Sigma.mk.injEq] at h;obtain ⟨rfl,h⟩:=h;rfl
  | unit=>simp only [plainS,Option.some.injEq,Sigma.mk.injEq] at h;obtain ⟨rfl,h⟩:=h;rfl
  | pair a b =>
    unfold plainS at h
    cases ha:plainS a with
    | none=>rw [ha] at h;cases h
    | some p =>
      rw [ha] at h
      cases hb:plainS b with
      | none=>rw [hb] at h;cases h
      | some q=>rw [hb] at h;simp only [Option.some.injEq,Sigma.mk.injEq] at h;obtain ⟨rfl,h⟩:=h;rfl
  | st a =>
    unfold plainS at h
    cases ha:plainS a with
    | none=>rw [ha] at h;cases h
    | some p=>rw [ha] at h;simp only [Option.some.injEq,Sigma.mk.injEq] at h;obtain ⟨rfl,h⟩:=h;rfl
  | _=>simp [plainS] at h
theorem plain_val {P:Program} {S:Nat->Prop} {v:SV} {T:Ty} {x:den T} {y:Value} (h:plainS v=some ⟨T,x⟩) (hs:SW P st G w S v y):∃ c,y=valOf T c/\RX P T false w S c x:=by
  obtain ⟨c,rfl,hc⟩:=SW_cells hs (fun b e=>by subst e;simp [plainS] at h)
  exact ⟨c,plainS_valS v h,plainS_sx v h hc⟩
theorem beq_dec (a b:Int):(a == b)=decide (a=b):=by
  by_cases h:a=b <;> simp [h]
theorem bne_dec (a b:Int):(a != b)=!decide (a=b):=by
  by_cases h:a=b <;> simp [h]
theorem Sem_bind_run {α β:Type} {P:Program}:∀ (m:Sem α) (f:α->Sem β) (w:World),(m.bind f).run P w=match m.run P w with | .ok x w'=>(f x).run P w' | .halt h w'=>.halt h w':=by
  intro m f w
  exact Sem.run_bind' P m f w
theorem eqGuard_run {P:Program} {op:BinOp} {t:TypeId} {x y:Operand} {p q:Value} (hp:∀ c,p ≠ .agg c) (hn:p ≠ .nilIface):(eqGuard op t x y p q).run P w=.ok () w:=by
  unfold eqGuard
  cases p <;> first | exact absurd rfl hn | exact absurd rfl (hp _) | (cases op <;> rfl)
theorem pure_run {β:Type} {P:Program} (x:β) (w:World):(pure x:Sem β).run P w=.ok x w:=rfl
def isAggT:Ty->Bool
  | .st _=>true
  | .arr _ _=>true
  | _=>false
section types
variable {P:Program} {ty:Nat->Option Ty} {t:Nat} {T:Ty}
theorem TyOk.isAgg (h:TyOk P ty t T) (w:World):(isAgg t).run P w=.ok (isAggT T) w:=by
  obtain ⟨d,hd,hu⟩:=h.und
  unfold Go.isAgg
  simp only [Sem.run_bind,run_underlying hd,Result.andThen_ok]
  cases d <;> cases T <;> first | exact hu.elim | rfl
theorem TyOk.cellsOf (h:TyOk P ty t T):P.cellsOf t=T.sz:=by
  obtain ⟨i,hi,hs,_⟩:=h.info
  simp [Program.cellsOf,hi,hs]
theorem TyOk.sizeOf (h:TyOk P ty t T) (w:World):(Go.sizeOf t).run P w=.ok T.sz w:=by
  obtain ⟨i,hi,hs,_⟩:=h.info
  simp [Go.sizeOf,Go.typeInfo,run_program,hi,hs]
theorem TyOk.single (h:TyOk P ty t T) (hn:isAggT T=false):T.sz=1:=by
  obtain ⟨d,hd,hu⟩:=h.und
  cases d <;> cases T <;> first | exact hu.elim | rfl | cases hn
theorem valOf_agg {T:Ty} {c:List Value} (h:isAggT T=true):valOf T c=.agg c.toArray:=by cases T <;> first | rfl | cases h
theorem valOf_one {T:Ty} {c:List Value} (h:isAggT T=false):valOf T c=c.headD undef:=by cases T <;> first | rfl | cases h
theorem extract_seg {xs:Array Value} {o n:Nat}:xs.extract o (o + n)=(seg xs.toList o n).toArray:=by
  apply Array.ext'
  simp [seg,Nat.add_sub_cancel_left,List.extract_eq_take_drop]
theorem TyOk.part (h:TyOk P ty t T) {xs:Array Value} {o:Nat} {c:List Value} (hc:seg xs.toList o T.sz=c) (hl:c.length=T.sz) (w:World):(part t xs o).run P w=.ok (valOf T c) w:=by
  unfold Go.part
  simp only [Sem.run_bind,h.isAgg,Result.andThen_ok]
  cases ha:isAggT T
  · simp only [Bool.false_eq_true,if_false]
    have h1:=h.single ha
    rw [h1] at hc hl
    rw [valOf_one ha]
    obtain ⟨v,rfl⟩:=List.length_eq_one_iff.1 hl
    have:xs[o]?=some v:=by
      have e:(seg xs.toList o 1)[0]?=some v:=by rw [hc];rfl
      simpa [seg] using e
    rw [this];rfl
  · simp only [if_true,Sem.run_bind,h.sizeOf,Result.andThen_ok,pure_run]
    rw [valOf_agg ha,extract_seg,hc]
end types
theorem eqFields_flat {P:Program} {ty:Nat->Option Ty} (hO:∀ t T,ty t=some T->TyOk P ty t T) {w:World} {d:Nat}
    (ih:∀ (T:Ty) (t:Nat) (c c':List Value) (x y:den T),T.dep<=d->T.flat=true->T.listy=true->ty t=some T->TC T w c x []->TC T w c' y []->(Op.equalIn d t (valOf T c) (valOf T c')).run P w=.ok (eqD T x y) w) :
    ∀ (F:Ty) (fs:List Field) (xs ys:Array Value) (base:Nat) (c c':List Value) (x y:den F),F.isList=true->F.flat=true->F.listy=true->F.dep<=d->fs.length=F.len →
      (∀ n f,fs[n]?=some f->f.offset=base + off F n/\ty f.type=some (fld F n)/\f.name ≠ "_")->seg xs.toList base F.sz=c->seg ys.toList base F.sz=c'->TC F w c x []->TC F w c' y [] →
      (Op.eqFields d xs ys fs).run P w=.ok (eqD F x y) w
  | .unit,fs,xs,ys,base,c,c',x,y,_,_,_,_,hl,_,_,_,_,_=>by
    have:fs=[]:=List.length_eq_zero_iff.1 hl
    subst this;rfl
  | .pair A B,fs,xs,ys,base,c,c',x,y,hi,hf,hly,hd,hl,hfs,hc,hc',hx,hy=>by
    obtain ⟨c1,c2,b1,b2,hc12,hb,h1,h2⟩:=hx
    obtain ⟨d1,d2,e1,e2,hd12,he,k1,k2⟩:=hy
    obtain ⟨rfl,rfl⟩:=List.append_eq_nil_iff.1 hb.symm
    obtain ⟨rfl,rfl⟩:=List.append_eq_nil_iff.1 he.symm
    simp only [Ty.flat,Bool.and_eq_true] at hf
    simp only [Ty.listy,Bool.and_eq_true] at hly
    cases fs with
    | nil=>simp [Ty.len] at hl
    | cons f fs =>
      obtain ⟨f1,f2,f3⟩:=hfs 0 f rfl
      have hl1:=TC_len _ _ _ _ _ h1
      have hl2:=TC_len _ _ _ _ _ k1
      have s1:seg xs.toList base A.sz=c1:=by
        have:(seg xs.toList base (A.sz + B.sz)).take A.sz=c1:=by rw [show A.sz + B.sz=(Ty.pair A B).sz from rfl,hc,hc12,<-hl1];simp
        rw [<-this];simp [seg,List.take_take]
      have s2:seg xs.toList (base + A.sz) B.sz=c2:=by
        have:(seg xs.toList base (A.sz + B.sz)).drop A.sz=c2:=by rw [show A.sz + B.sz=(Ty.pair A B).sz from rfl,hc,hc12,<-hl1];simp
        rw [<-this];simp [seg,List.drop_take,List.drop_drop]
      have t1:seg ys.toList base A.sz=d1:=by
        have:(seg ys.toList base (A.sz + B.sz)).take A.sz=d1:=by rw [show A.sz + B.sz=(Ty.pair A B).sz from rfl,hc',hd12,<-hl2];simp
        rw [<-this];simp [seg,List.take_take]
      have t2:seg ys.toList (base + A.sz) B.sz=d2:=by
        have:(seg ys.toList base (A.sz + B.sz)).drop A.sz=d2:=by rw [show A.sz + B.sz=(Ty.pair A B).sz from rfl,hc',hd12,<-hl2];simp
        rw [<-this];simp [seg,List.drop_take,List.drop_drop]
      have hA:ty f.type=some A:=f2
      have o0:f.offset=base:=by rw [f1];rfl
      have hda:A.dep<=d:=Nat.le_trans (Nat.le_max_left _ _) hd
      have hdb:B.dep<=d:=Nat.le_trans (Nat.le_max_right _ _) hd
      have pa:=(hO _ _ hA).part (xs:=xs) (o:=base) s1 hl1 w
      have pb:=(hO _ _ hA).part (xs:=ys) (o:=base) t1 hl2 w
      have pe:=ih A f.type c1 d1 x.1 y.1 hda hf.1 hly.1 hA h1 k1
      have pr:=eqFields_flat hO ih B fs xs ys (base + A.sz) c2 d2 x.2 y.2 hi hf.2 hly.2 hdb (by simpa [Ty.len] using hl) (fun n g hg=>by
        obtain ⟨g1,g2,g3⟩:=hfs (n + 1) g (by simpa using hg)
        exact ⟨by rw [g1];simp only [off];omega,g2,g3⟩) s2 t2 h2 k2
      rw [Op.eqFields,if_pos f3,o0]
      simp only [Sem.run_bind,pa,pb,pe,Result.andThen_ok]
      show _=Result.ok (eqD A x.1 y.1 && eqD B x.2 y.2) w
      cases eqD A x.1 y.1
      · simp
      · simpa using pr
  | .int _,_,_,_,_,_,_,_,_,hi,_,_,_,_,_,_,_,_,_=>by cases hi
  | .bool,_,_,_,_,_,_,_,_,hi,_,_,_,_,_,_,_,_,_=>by cases hi
  | .str,_,_,_,_,_,_,_,_,hi,_,_,_,_,_,_,_,_,_=>by cases hi
  | .st _,_,_,_,_,_,_,_,_,hi,_,_,_,_,_,_,_,_,_=>by cases hi
  | .tup _,_,_,_,_,_,_,_,_,hi,_,_,_,_,_,_,_,_,_=>by cases hi
  | .sl _,_,_,_,_,_,_,_,_,hi,_,_,_,_,_,_,_,_,_=>by cases hi
  | .arr _ _,_,_,_,_,_,_,_,_,hi,_,_,_,_,_,_,_,_,_=>by cases hi
  | .ptr _,_,_,_,_,_,_,_,_,hi,_,_,_,_,_,_,_,_,_=>by cases hi
  | .fn _ _,_,_,_,_,_,_,_,_,hi,_,_,_,_,_,_,_,_,_=>by cases hi
  | .frm,_,_,_,_,_,_,_,_,hi,_,_,_,_,_,_,_,_,_=>by cases hi
theorem dep_pos:∀ T:Ty,0 < T.dep
  | .pair a b=>Nat.lt_of_lt_of_le (dep_pos a) (Nat.le_max_left _ _)
  | .st f=>Nat.succ_pos _
  | .int _=>Nat.one_pos | .bool=>Nat.one_pos | .str=>Nat.one_pos | .unit=>Nat.one_pos | .tup _=>Nat.one_pos | .sl _=>Nat.one_pos | .arr _ _=>Nat.one_pos | .ptr _=>Nat.one_pos | .fn _ _=>Nat.one_pos | .frm=>Nat.one_pos
theorem equalIn_flat {P:Program} {ty:Nat->Option Ty} (hO:∀ t T,ty t=some T->TyOk P ty t T) {w:World}:∀ (d:Nat) (T:Ty) (t:Nat) (c c':List Value) (x y:den T),T.dep<=d->T.flat=true->T.listy=true →
    ty t=some T->TC T w c x []->TC T w c' y []->(Op.equalIn d t (valOf T c) (valOf T c')).run P w=.ok (eqD T x y) w
  | 0,T,_,_,_,_,_,hd,_,_,_,_,_=>absurd (dep_pos T) (by omega)
  | d + 1,T,t,c,c',x,y,hd,hf,hly,ht,hx,hy=>by
    have ho:=hO t T ht
    obtain ⟨ud,hu,huo⟩:=ho.und
    cases T <;> cases ud <;> simp only [UnOk] at huo <;> simp only [Ty.flat,Bool.false_eq_true] at hf
    · obtain ⟨rfl,_⟩:=hx;obtain ⟨rfl,_⟩:=hy
      simp only [valOf,List.headD_cons];rw [run_equalIn_int w d t _ _ _ _ hu,beq_dec];rfl
    · obtain ⟨rfl,_⟩:=hx;obtain ⟨rfl,_⟩:=hy
      simp only [valOf,List.headD_cons];rw [run_equalIn_bool' w d t _ _ hu];rfl
    · obtain ⟨rfl,_⟩:=hx;obtain ⟨rfl,_⟩:=hy
      simp only [valOf,List.headD_cons];rw [run_equalIn_string w d t _ _ hu];rfl
    · rename_i F fs
      have hfo:P.fieldsOf t=fs:=by simp [Program.fieldsOf,hu]
      simp only [Ty.listy,Bool.and_eq_true] at hly
      show (Op.equalIn (d + 1) t (.agg c.toArray) (.agg c'.toArray)).run P w=_
      rw [run_equalIn_struct w d t _ _ (by rw [hfo];exact hu) ho.held,hfo]
      have hl1:=TC_len _ _ _ _ _ hx
      have hl2:=TC_len _ _ _ _ _ hy
      refine eqFields_flat hO (fun T t c c' x y h1 h2 h3 h4 h5 h6=>equalIn_flat hO d T t c c' x y h1 h2 h3 h4 h5 h6) F fs.toList _ _ 0 c c' x y hly.1 hf hly.2 (Nat.le_of_succ_le_succ hd) (by simpa using huo.1) (fun n f hn=>?_) ?_ ?_ hx hy
      · have:=huo.2 n f (by simpa using hn)
        exact ⟨by rw [this.1,Nat.zero_add],this.2⟩
      · simp [seg,List.take_of_length_le (Nat.le_of_eq (show c.length=F.sz from hl1))]
      · simp [seg,List.take_of_length_le (Nat.le_of_eq (show c'.length=F.sz from hl2))]
theorem flat_mem:∀ T:Ty,T.flat=true->T.mem=false
  | .int _,_=>rfl
  | .bool,_=>rfl
  | .str,_=>rfl
  | .unit,_=>rfl
  | .pair a b,h=>by
    simp only [Ty.flat,Bool.and_eq_true] at h
    simp [Ty.mem,flat_mem a h.1,flat_mem b h.2]
  | .st f,h=>flat_mem f h
  | .tup _,h=>by cases h
  | .sl _,h=>by cases h
  | .arr _ _,h=>by cases h
  | .ptr _,h=>by cases h
  | .fn _ _,h=>by cases h
  | .frm,h=>by cases h
theorem eqGuardFields {P:Program} {ty:Nat->Option Ty} (d:Nat) (ih:∀ (T:Ty) (t:Nat),T.flat=true->T.listy=true->T.dep<=d->ty t=some T->P.eqGuardType d t=false) :
    ∀ (F:Ty) (fs:List Field),F.isList=true->F.flat=true->F.listy=true->F.dep<=d->fs.length=F.len->(∀ n f,fs[n]?=some f->ty f.type=some (fld F n))->(fs.any fun f=>f.name != "_" && P.eqGuardType d f.type)=false
  | .unit,fs,_,_,_,_,hl,_=>by rw [List.length_eq_zero_iff.1 hl];rfl
  | .pair A B,fs,hi,hf,hly,hd,hl,h=>by
    simp only [Ty.flat,Bool.and_eq_true] at hf
    simp only [Ty.listy,Bool.and_eq_true] at hly
    cases fs with
    | nil=>simp [Ty.len] at hl
    | cons f fs =>
      have h1:=ih A f.type hf.1 hly.1 (Nat.le_trans (Nat.le_max_left _ _) hd) (h 0 f rfl)
      have h2:=eqGuardFields d ih B fs hi hf.2 hly.2 (Nat.le_trans (Nat.le_max_right _ _) hd) (by simpa [Ty.len] using hl) (fun n g hg=>h (n + 1) g (by simpa using hg))
      rw [List.any_cons,h1,h2];simp
  | .int _,_,hi,_,_,_,_,_=>by cases hi
  | .bool,_,hi,_,_,_,_,_=>by cases hi
  | .str,_,hi,_,_,_,_,_=>by cases hi
  | .st _,_,hi,_,_,_,_,_=>by cases hi
  | .tup _,_,hi,_,_,_,_,_=>by cases hi
  | .sl _,_,hi,_,_,_,_,_=>by cases hi
  | .arr _ _,_,hi,_,_,_,_,_=>by cases hi
  | .ptr _,_,hi,_,_,_,_,_=>by cases hi
  | .fn _ _,_,hi,_,_,_,_,_=>by cases hi
  | .frm,_,hi,_,_,_,_,_=>by cases hi
theorem eqGuard_flat {P:Program} {ty:Nat->Option Ty} (hO:∀ t T,ty t=some T->TyOk P ty t T):∀ (d:Nat) (T:Ty) (t:Nat),T.flat=true->T.listy=true->T.dep<=d->ty t=some T->P.eqGuardType d t=false
  | 0,T,_,_,_,hd,_=>absurd (dep_pos T) (by omega)
  | d + 1,T,t,hf,hly,hd,ht=>by
    have ho:=hO t T ht
    obtain ⟨ud,hu,huo⟩:=ho.und
    unfold Program.eqGuardType
    rw [hu]
    cases T <;> cases ud <;> simp only [UnOk] at huo <;> simp only [Ty.flat,Bool.false_eq_true] at hf <;> try rfl
    rename_i F fs
    simp only [Ty.listy,Bool.and_eq_true] at hly
    show (fs.any fun f=>f.name != "_" && P.eqGuardType d f.type)=false
    rw [<-Array.any_toList]
    exact eqGuardFields d (fun T t h1 h2 h3 h4=>eqGuard_flat hO d T t h1 h2 h3 h4) F fs.toList hly.1 hf hly.2 (Nat.le_of_succ_le_succ hd) (by simpa using huo.1) (fun n f hn=>(huo.2 n f (by simpa using hn)).2.1)
theorem depth_big (P:Program):90<=P.depth:=by unfold Program.depth Made.depth;omega
theorem bin_run {P:Program} {ty:Nat->Option Ty} (hO:∀ t T,ty t=some T->TyOk P ty t T) {S:Nat->Prop} {op:BinOp} {xt:Nat} {x y:Operand} {s t:Sg} {c d:List Value} {f:Sg->M α}
    (hs:RX P s.1 false w S c s.2) (ht:RX P t.1 false w S d t.2) (h:Rn (binM (ty xt) op s t f) st u) :
    ∃ r c',Rn (f r) st u/\RX P r.1 false w S c' r.2/\(Sem.bind (eqGuard op xt x y (valOf s.1 c) (valOf t.1 d)) fun _=>binOp op xt (valOf s.1 c) (valOf t.1 d)).run P w=.ok (valOf r.1 c') w:=by
  unfold binM at h
  split at h
  · rename_i k a k' b
    unfold RX at hs ht;subst hs;subst ht
    simp only [valOf,List.headD_cons]
    rw [Sem_bind_run,eqGuard_run (by intro c;simp) (by simp)]
    cases op <;> simp only [Rn_chk] at h
    case shl =>
      exact ⟨_,[_],h.2,rfl,by simp only [binOp,Op.shift];rw [if_neg (by have:=of_decide_eq_true h.1;omega)];rfl⟩
    case shr =>
      exact ⟨_,[_],h.2,rfl,by simp only [binOp,Op.shift];rw [if_neg (by have:=of_decide_eq_true h.1;omega)];rfl⟩
    all_goals
      split at h
      case isFalse=>exact (Rn_fail.1 h).elim
      rename_i e;subst e
      try simp only [Rn_chk,Bool.not_eq_true',decide_eq_false_iff_not] at h
    all_goals first
      | exact ⟨_,[_],h.2,rfl,by simp only [binOp,ne_eq,not_true_eq_false,if_false,Op.intDiv,h.1];rfl⟩
      | (refine ⟨_, [_], h, rfl, ?_⟩
         simp only [binOp,ne_eq,not_true_eq_false,if_false,Op.intArith,Op.intBits,Op.intCmp,beq_dec,bne_dec]
         first
           | rfl
           | (simp only [bitI,gI_eq];rfl))
  · rename_i a b
    unfold RX at hs ht;subst hs;subst ht
    simp only [valOf,List.headD_cons]
    rw [Sem_bind_run,eqGuard_run (by intro c;simp) (by simp)]
    split at h
    · rw [Rn_chk] at h
      refine ⟨_,[_],h.2,rfl,?_⟩
      have:=of_decide_eq_true h.1
      simp only [binOp,Op.stringOp]
      rw [if_neg (by simp [IntKind.max,IntKind.signed,IntKind.bits];omega)];rfl
    · rw [Rn_bif] at h
      rcases h with ⟨hc,h⟩ | ⟨_,h⟩
      · refine ⟨_,[_],h,rfl,?_⟩
        cases op <;> simp only [isCmp,Bool.false_eq_true] at hc <;> rfl
      · exact (Rn_fail.1 h).elim
  · rename_i a b
    unfold RX at hs ht;subst hs;subst ht
    simp only [valOf,List.headD_cons]
    rw [Sem_bind_run,eqGuard_run (by intro c;simp) (by simp)]
    rw [Rn_bif] at h
    rcases h with ⟨hb,h⟩ | ⟨_,h⟩
    case inr=>exact (Rn_fail.1 h).elim
    have hty:=of_decide_eq_true hb
    obtain ⟨ud,hu,huo⟩:=(hO _ _ hty).und
    cases ud <;> simp only [UnOk] at huo
    have he:(Op.equal xt (.bool a) (.bool b)).run P w=.ok (a == b) w:=run_equalIn_bool' w 9999 xt a b hu
    split at h
    · refine ⟨_,[_],h,rfl,?_⟩
      simp only [binOp]
      show (Sem.bind (Op.equal xt (.bool a) (.bool b)) fun r=>(pure (Value.bool r):Sem Value)).run P w=_
      rw [Sem_bind_run,he];rfl
    · refine ⟨_,[_],h,rfl,?_⟩
      simp only [binOp]
      show (Sem.bind (Op.equal xt (.bool a) (.bool b)) fun r=>(pure (Value.bool (!r)):Sem Value)).run P w=_
      rw [Sem_bind_run,he];rfl
    · exact (Rn_fail.1 h).elim
  · rename_i F a G b
    split at h
    case isFalse=>exact (Rn_fail.1 h).elim
    rename_i e;subst e
    rw [Rn_bif] at h
    rcases h with ⟨hb,h⟩ | ⟨_,h⟩
    case inr=>exact (Rn_fail.1 h).elim
    simp only [Bool.and_eq_true,decide_eq_true_eq] at hb
    obtain ⟨⟨⟨⟨hf,hl⟩,hly⟩,hd⟩,hty⟩:=hb
    have hd:G.dep < 90:=Nat.le_of_ble_eq_true hd
    have hx:=TC_of_RX P (.st G) (w':=w) (show (Ty.st G).mem=false from flat_mem G hf) hs
    have hy:=TC_of_RX P (.st G) (w':=w) (show (Ty.st G).mem=false from flat_mem G hf) ht
    have hly':(Ty.st G).listy=true:=by simp [Ty.listy,hl,hly]
    have hg:(eqGuard op xt x y (.agg c.toArray) (.agg d.toArray)).run P w=.ok () w:=run_eqGuard_agg w op xt x y _ _ (eqGuard_flat hO P.depth (.st G) xt hf hly' (Nat.le_trans hd (depth_big P)) hty)
    have he:(Op.equalIn 10000 xt (.agg c.toArray) (.agg d.toArray)).run P w=.ok (eqD (.st G) a b) w:=equalIn_flat hO 10000 (.st G) xt c d a b (by show G.dep + 1<=_;omega) hf hly' hty hx hy
    show ∃ r c',_/\_/\(Sem.bind (eqGuard op xt x y (.agg c.toArray) (.agg d.toArray)) fun _=>binOp op xt (.agg c.toArray) (.agg d.toArray)).run P w=_
    rw [Sem_bind_run,hg]
    split at h
    · refine ⟨_,[_],h,rfl,?_⟩
      show (binOp .eql xt (.agg c.toArray) (.agg d.toArray)).run P w=_
      rw [run_eql_struct,he];rfl
    · refine ⟨_,[_],h,rfl,?_⟩
      show (binOp .neq xt (.agg c.toArray) (.agg d.toArray)).run P w=_
      rw [run_neq_struct,he];rfl
    · exact (Rn_fail.1 h).elim
  · exact (Rn_fail.1 h).elim
end
end Go.Proofs.YtefmjjpdflpnaaaGreat.E
namespace Go.Proofs.YtefmjjpdflpnaaaGreat.E
open Go Go.RowKit
set_option linter.unusedVariables false
set_option linter.unusedSimpArgs false
theorem seg_zero {α:Type} (l:List α) (o:Nat):seg l o 0=[]:=by simp [seg]
theorem seg_app1 {α:Type} (a b:List α):seg (a ++ b) 0 a.length=a:=by simp [seg]
theorem seg_app2 {α:Type} (a b:List α) (o n:Nat):seg (a ++ b) (a.length + o) n=seg b o n:=by
  simp only [seg,List.drop_append]
  rw [List.drop_of_length_le (by omega)]
  simp
theorem seg_all {α:Type} {l:List α} {n:Nat} (h:l.length=n):seg l 0 n=l:=by simp [seg,<-h]
theorem seg_seg {α:Type} (l:List α) {o n p k:Nat} (h:p + k<=n):seg (seg l o n) p k=seg l (o + p) k:=by
  simp only [seg,List.drop_take,List.drop_drop,List.take_take]
  congr 1;omega
theorem seg_one {α:Type} {l:List α} {o:Nat} {v:α} (h:l[o]?=some v):seg l o 1=[v]:=by
  obtain ⟨hl,hv⟩:=List.getElem?_eq_some_iff.1 h
  simp only [seg]
  rw [List.drop_eq_getElem_cons hl,hv];rfl
theorem of_seg_one {α:Type} {l:List α} {o:Nat} {v:α} (h:seg l o 1=[v]):l[o]?=some v:=by
  have:(seg l o 1)[0]?=some v:=by rw [h];rfl
  simpa [seg] using this
theorem off_le:∀ (f:Ty) (n:Nat),off f n + (fld f n).sz<=f.sz
  | .pair a b,0=>by simp [off,fld,Ty.sz]
  | .pair a b,n + 1=>by have:=off_le b n;simp only [off,fld,Ty.sz];omega
  | .int _,n=>by cases n <;> simp [off,fld,Ty.sz]
  | .bool,n=>by cases n <;> simp [off,fld,Ty.sz]
  | .str,n=>by cases n <;> simp [off,fld,Ty.sz]
  | .unit,n=>by cases n <;> simp [off,fld,Ty.sz]
  | .st _,n=>by cases n <;> simp [off,fld,Ty.sz]
  | .tup _,n=>by cases n <;> simp [off,fld,Ty.sz]
  | .sl _,n=>by cases n <;> simp [off,fld,Ty.sz]
  | .arr _ _,n=>by cases n <;> simp [off,fld,Ty.sz]
  | .ptr _,n=>by cases n <;> simp [off,fld,Ty.sz]
  | .fn _ _,n=>by cases n <;> simp [off,fld,Ty.sz]
  | .frm,0=>by simp [off,fld,Ty.sz]
  | .frm,1=>by simp [off,fld,Ty.sz]
  | .frm,n + 2=>by simp [off,fld,Ty.sz]
theorem offP_le:∀ (fs:List Nat) (T:Ty),offP fs T + (tyP fs T).sz<=T.sz
  | [],T=>by simp [offP,tyP]
  | n :: r,.st f=>by
    have h1:=off_le f n
    have h2:=offP_le r (fld f n)
    simp only [offP,tyP,Ty.sz];omega
  | _ :: _,.int _=>by simp [offP,tyP,Ty.sz]
  | _ :: _,.bool=>by simp [offP,tyP,Ty.sz]
  | _ :: _,.str=>by simp [offP,tyP,Ty.sz]
  | _ :: _,.unit=>by simp [offP,tyP,Ty.sz]
  | _ :: _,.pair _ _=>by simp [offP,tyP,Ty.sz]
  | _ :: _,.tup _=>by simp [offP,tyP,Ty.sz]
  | _ :: _,.sl _=>by simp [offP,tyP,Ty.sz]
  | _ :: _,.arr _ _=>by simp [offP,tyP,Ty.sz]
  | _ :: _,.ptr _=>by simp [offP,tyP,Ty.sz]
  | _ :: _,.fn _ _=>by simp [offP,tyP,Ty.sz]
  | _ :: _,.frm=>by simp [offP,tyP,Ty.sz]
theorem getP_ty:∀ (fs:List Nat) (T:Ty) (x:den T),(getP fs T x).1=tyP fs T
  | [],T,x=>rfl
  | n :: r,.st f,x=>getP_ty r (fld f n) (getF f x n)
  | _ :: _,.int _,_=>rfl | _ :: _,.bool,_=>rfl | _ :: _,.str,_=>rfl | _ :: _,.unit,_=>rfl | _ :: _,.pair _ _,_=>rfl | _ :: _,.tup _,_=>rfl
  | _ :: _,.sl _,_=>rfl | _ :: _,.arr _ _,_=>rfl | _ :: _,.ptr _,_=>rfl | _ :: _,.fn _ _,_=>rfl | _ :: _,.frm,_=>rfl
theorem TC_unit {w:World} {cs:List Value} {o:Nat} {x:Unit}:TC .unit w (seg cs o Ty.unit.sz) x []:=⟨by simp [Ty.sz,seg],rfl⟩
theorem TC_fld {w:World}:∀ (f:Ty) {cs:List Value} {x:den f} {bs:List Nat} (n:Nat),TC f w cs x bs->∃ bs',TC (fld f n) w (seg cs (off f n) (fld f n).sz) (getF f x n) bs'/\∀ b ∈ bs',b ∈ bs
  | .pair a b,cs,x,bs,0,h=>by
    obtain ⟨c1,c2,b1,b2,rfl,rfl,h1,h2⟩:=h
    refine ⟨b1,?_,fun b hb=>List.mem_append_left _ hb⟩
    simp only [off,fld,getF]
    rw [<-TC_len _ _ _ _ _ h1,seg_app1];exact h1
  | .pair a b,cs,x,bs,n + 1,h=>by
    obtain ⟨c1,c2,b1,b2,rfl,rfl,h1,h2⟩:=h
    obtain ⟨bs',h3,h4⟩:=TC_fld b n h2
    refine ⟨bs',?_,fun b hb=>List.mem_append_right _ (h4 b hb)⟩
    simp only [off,fld,getF]
    rw [<-TC_len _ _ _ _ _ h1,seg_app2];exact h3
  | .int _,cs,x,bs,n,h=>⟨[],by cases n <;> exact TC_unit,fun _ hb=>by cases hb⟩
  | .bool,cs,x,bs,n,h=>⟨[],by cases n <;> exact TC_unit,fun _ hb=>by cases hb⟩
  | .str,cs,x,bs,n,h=>⟨[],by cases n <;> exact TC_unit,fun _ hb=>by cases hb⟩
  | .unit,cs,x,bs,n,h=>⟨[],by cases n <;> exact TC_unit,fun _ hb=>by cases hb⟩
  | .st _,cs,x,bs,n,h=>⟨[],by cases n <;> exact TC_unit,fun _ hb=>by cases hb⟩
  | .tup _,cs,x,bs,n,h=>h.elim
  | .sl _,cs,x,bs,n,h=>⟨[],by cases n <;> exact TC_unit,fun _ hb=>by cases hb⟩
  | .arr _ _,cs,x,bs,n,h=>⟨[],by cases n <;> exact TC_unit,fun _ hb=>by cases hb⟩
  | .ptr _,cs,x,bs,n,h=>h.elim
  | .fn _ _,cs,x,bs,n,h=>h.elim
  | .frm,cs,x,bs,0,h=>by
    refine ⟨[],?_,fun _ hb=>by cases hb⟩
    have h:TCF w cs x bs:=h
    cases h <;> exact ⟨rfl,rfl⟩
  | .frm,cs,x,bs,1,h=>by
    have h:TCF w cs x bs:=h
    cases h with
    | nil c=>exact ⟨[],.inl ⟨rfl,rfl,rfl⟩,fun _ hb=>hb⟩
    | node c b o n k arr ty bss ps hn hh hk ho hl hq=>exact ⟨_,.inr ⟨b,o,n,k,arr,ty,bss,rfl,rfl,hn,hh,hk,ho,hl,hq⟩,fun _ hb=>hb⟩
  | .frm,cs,x,bs,n + 2,h=>⟨[],TC_unit,fun _ hb=>by cases hb⟩
theorem TC_path {w:World}:∀ (fs:List Nat) (T:Ty) {cs:List Value} {x:den T} {bs:List Nat},TC T w cs x bs →
    ∃ bs',TC (getP fs T x).1 w (seg cs (offP fs T) (getP fs T x).1.sz) (getP fs T x).2 bs'/\∀ b ∈ bs',b ∈ bs
  | [],T,cs,x,bs,h=>⟨bs,by simp only [getP,offP];rw [seg_all (TC_len _ _ _ _ _ h)];exact h,fun _ hb=>hb⟩
  | n :: r,.st f,cs,x,bs,h=>by
    obtain ⟨b1,h1,h2⟩:=TC_fld f n (cs:=cs) (x:=x) h
    obtain ⟨b2,h3,h4⟩:=TC_path r (fld f n) h1
    refine ⟨b2,?_,fun b hb=>h2 b (h4 b hb)⟩
    simp only [getP,offP]
    rw [seg_seg _ (by rw [getP_ty];exact offP_le r (fld f n))] at h3
    exact h3
  | _ :: _,.int _,_,_,_,_=>⟨[],TC_unit,fun _ hb=>by cases hb⟩
  | _ :: _,.bool,_,_,_,_=>⟨[],TC_unit,fun _ hb=>by cases hb⟩
  | _ :: _,.str,_,_,_,_=>⟨[],TC_unit,fun _ hb=>by cases hb⟩
  | _ :: _,.unit,_,_,_,_=>⟨[],TC_unit,fun _ hb=>by cases hb⟩
  | _ :: _,.pair _ _,_,_,_,_=>⟨[],TC_unit,fun _ hb=>by cases hb⟩
  | _ :: _,.tup _,_,_,_,_=>⟨[],TC_unit,fun _ hb=>by cases hb⟩
  | _ :: _,.sl _,_,_,_,_=>⟨[],TC_unit,fun _ hb=>by cases hb⟩
  | _ :: _,.arr _ _,_,_,_,_=>⟨[],TC_unit,fun _ hb=>by cases hb⟩
  | _ :: _,.ptr _,_,_,_,h=>h.elim
  | _ :: _,.fn _ _,_,_,_,h=>h.elim
  | _ :: _,.frm,_,_,_,_=>⟨[],TC_unit,fun _ hb=>by cases hb⟩
theorem RX_unit {P:Program} {w:World} {S:Nat->Prop} {cs:List Value} {o:Nat} {x:Unit}:RX P .unit false w S (seg cs o Ty.unit.sz) x:=by show seg cs o 0=[];exact seg_zero _ _
theorem RX_fld {P:Program} {w:World} {S:Nat->Prop}:∀ (f:Ty) {cs:List Value} {x:den f} (n:Nat),RX P f false w S cs x->RX P (fld f n) false w S (seg cs (off f n) (fld f n).sz) (getF f x n)
  | .pair a b,cs,x,0,h=>by
    obtain ⟨c1,c2,rfl,h1,h2⟩:=h
    simp only [off,fld,getF]
    rw [<-RX_len P _ _ _ _ _ h1,seg_app1];exact h1
  | .pair a b,cs,x,n + 1,h=>by
    obtain ⟨c1,c2,rfl,h1,h2⟩:=h
    simp only [off,fld,getF]
    rw [<-RX_len P _ _ _ _ _ h1,seg_app2];exact RX_fld b n h2
  | .int _,cs,x,n,h=>by cases n <;> exact RX_unit
  | .bool,cs,x,n,h=>by cases n <;> exact RX_unit
  | .str,cs,x,n,h=>by cases n <;> exact RX_unit
  | .unit,cs,x,n,h=>by cases n <;> exact RX_unit
  | .st _,cs,x,n,h=>by cases n <;> exact RX_unit
  | .tup _,cs,x,n,h=>by cases n <;> exact RX_unit
  | .sl _,cs,x,n,h=>by cases n <;> exact RX_unit
  | .arr _ _,cs,x,n,h=>by cases n <;> exact RX_unit
  | .ptr _,cs,x,n,h=>by cases n <;> exact RX_unit
  | .fn _ _,cs,x,n,h=>by cases n <;> exact RX_unit
  | .frm,cs,x,0,h=>by
    have h:RXF w S cs x:=h
    cases h <;> rfl
  | .frm,cs,x,1,h=>by
    have h:RXF w S cs x:=h
    cases h with
    | nil c a k=>exact ⟨a,0,k,rfl,rfl,Nat.zero_le _,.inl rfl⟩
    | node c b o n k arr ty fz ps hn hk hS hh ho hq=>exact ⟨some ⟨b,o,none⟩,n,k,rfl,hn,hk,.inr ⟨b,o,arr,ty,fz,rfl,hS,hh,ho,hq⟩⟩
  | .frm,cs,x,n + 2,h=>RX_unit
section
variable {P:Program} {st:St} {G:Gh} {w:World} {S:Nat->Prop}
theorem SX_nth:∀ (a:SV) (f:Ty) {cs:List Value} (n:Nat) {v:SV},a.hasTy f=true->SX P st G w S a false cs->a.nth n=some v->v.hasTy (fld f n)=true/\SX P st G w S v false (seg cs (off f n) (fld f n).sz)
  | .pair a b,f,cs,n,v,ht,h,hn=>by
    obtain ⟨c1,c2,rfl,h1,h2⟩:=h
    cases f <;> simp only [SV.hasTy,Bool.and_eq_true,Bool.false_eq_true] at ht
    rename_i A B
    cases n with
    | zero =>
      simp only [SV.nth,Option.some.injEq] at hn;subst hn
      simp only [off,fld]
      rw [<-SX_len a A ht.1 h1,seg_app1];exact ⟨ht.1,h1⟩
    | succ n =>
      simp only [SV.nth] at hn
      simp only [off,fld]
      rw [<-SX_len a A ht.1 h1,seg_app2];exact SX_nth b B n ht.2 h2 hn
  | .val _ _,_,_,_,_,_,_,hn=>by simp [SV.nth] at hn
  | .nil,_,_,_,_,_,_,hn=>by simp [SV.nth] at hn
  | .ref _ _ _,_,_,_,_,_,_,hn=>by simp [SV.nth] at hn
  | .sub _ _ _ _ _ _,_,_,_,_,_,_,hn=>by simp [SV.nth] at hn
  | .vw _ _ _ _ _,_,_,_,_,_,_,hn=>by simp [SV.nth] at hn
  | .sap _ _ _ _ _ _ _ _,_,_,_,_,_,_,hn=>by simp [SV.nth] at hn
  | .mp _ _,_,_,_,_,_,_,hn=>by simp [SV.nth] at hn
  | .pel _ _ _ _,_,_,_,_,_,_,hn=>by simp [SV.nth] at hn
  | .pbx _ _ _,_,_,_,_,_,_,hn=>by simp [SV.nth] at hn
  | .pix _ _ _ _,_,_,_,_,_,_,hn=>by simp [SV.nth] at hn
  | .unit,_,_,_,_,_,_,hn=>by simp [SV.nth] at hn
  | .st _,_,_,_,_,_,_,hn=>by simp [SV.nth] at hn
  | .tup _,_,_,_,_,_,_,hn=>by simp [SV.nth] at hn
  | .clo _ _ _,_,_,_,_,_,_,hn=>by simp [SV.nth] at hn
theorem SX_atP:∀ (fs:List Nat) (v:SV) (T:Ty) {cs:List Value} {v':SV},v.hasTy T=true->SX P st G w S v false cs->v.atP fs=some v'->v'.hasTy (tyP fs T)=true/\SX P st G w S v' false (seg cs (offP fs T) (tyP fs T).sz)
  | [],v,T,cs,v',ht,h,ha=>by
    simp only [SV.atP,Option.some.injEq] at ha;subst ha
    exact ⟨ht,by simp only [offP,tyP];rw [seg_all (SX_len v T ht h)];exact h⟩
  | n :: r,.val T' x,T,cs,v',ht,h,ha=>by
    cases T' <;> simp only [SV.atP] at ha <;> try cases ha
    rename_i f
    simp only [SV.hasTy,decide_eq_true_eq] at ht;subst ht
    have h1:=RX_fld f n (cs:=cs) (x:=x) h
    obtain ⟨h2,h3⟩:=SX_atP r (.val (fld f n) (getF f x n)) (fld f n) (by simp [SV.hasTy]) h1 ha
    refine ⟨h2,?_⟩
    rw [seg_seg _ (offP_le r (fld f n))] at h3
    exact h3
  | n :: r,.st a,T,cs,v',ht,h,ha=>by
    simp only [SV.atP] at ha
    split at ha
    · rename_i v1 hv1
      cases T <;> simp only [SV.hasTy,Bool.false_eq_true] at ht
      rename_i f
      obtain ⟨h1,h2⟩:=SX_nth a f n ht h hv1
      obtain ⟨h3,h4⟩:=SX_atP r v1 (fld f n) h1 h2 ha
      refine ⟨h3,?_⟩
      rw [seg_seg _ (offP_le r (fld f n))] at h4
      exact h4
    · cases ha
  | _ :: _,.nil,_,_,_,_,_,ha=>by simp [SV.atP] at ha
  | _ :: _,.ref _ _ _,_,_,_,_,_,ha=>by simp [SV.atP] at ha
  | _ :: _,.sub _ _ _ _ _ _,_,_,_,_,_,ha=>by simp [SV.atP] at ha
  | _ :: _,.vw _ _ _ _ _,_,_,_,_,_,ha=>by simp [SV.atP] at ha
  | _ :: _,.sap _ _ _ _ _ _ _ _,_,_,_,_,_,ha=>by simp [SV.atP] at ha
  | _ :: _,.mp _ _,_,_,_,_,_,ha=>by simp [SV.atP] at ha
  | _ :: _,.pel _ _ _ _,_,_,_,_,_,ha=>by simp [SV.atP] at ha
  | _ :: _,.pbx _ _ _,_,_,_,_,_,ha=>by simp [SV.atP] at ha
  | _ :: _,.pix _ _ _ _,_,_,_,_,_,ha=>by simp [SV.atP] at ha
  | _ :: _,.unit,_,_,_,_,_,ha=>by simp [SV.atP] at ha
  | _ :: _,.pair _ _,_,_,_,_,_,ha=>by simp [SV.atP] at ha
  | _ :: _,.tup _,_,_,_,_,_,ha=>by simp [SV.atP] at ha
  | _ :: _,.clo _ _ _,_,_,_,_,_,ha=>by simp [SV.atP] at ha
end
theorem RX_app {P:Program} {w:World} {S:Nat->Prop}:∀ (T:Ty) {U:Ty} {vs us:List Value} {x:den T} {y:den U},T.isList=true->RX P T true w S vs x->RX P U true w S us y->RX P (app T U) true w S (vs ++ us) (appD T x y)
  | .pair a b,U,vs,us,x,y,hl,h,hu=>by
    obtain ⟨c,r,rfl,h1,h2⟩:=h
    exact ⟨c,r ++ us,rfl,h1,RX_app b hl h2 hu⟩
  | .unit,U,vs,us,x,y,hl,h,hu=>by
    have:vs=[]:=h
    subst this;exact hu
  | .int _,_,_,_,_,_,hl,_,_=>by cases hl
  | .bool,_,_,_,_,_,hl,_,_=>by cases hl
  | .str,_,_,_,_,_,hl,_,_=>by cases hl
  | .st _,_,_,_,_,_,hl,_,_=>by cases hl
  | .tup _,_,_,_,_,_,hl,_,_=>by cases hl
  | .sl _,_,_,_,_,_,hl,_,_=>by cases hl
  | .arr _ _,_,_,_,_,_,hl,_,_=>by cases hl
  | .ptr _,_,_,_,_,_,hl,_,_=>by cases hl
  | .fn _ _,_,_,_,_,_,hl,_,_=>by cases hl
  | .frm,_,_,_,_,_,hl,_,_=>by cases hl
theorem takeTy_list:∀ (n:Nat) (T:Ty),(takeTy n T).isList=true
  | 0,T=>by cases T <;> rfl
  | n + 1,.pair a b=>takeTy_list n b
  | _ + 1,.int _=>rfl | _ + 1,.bool=>rfl | _ + 1,.str=>rfl | _ + 1,.unit=>rfl | _ + 1,.st _=>rfl | _ + 1,.tup _=>rfl | _ + 1,.sl _=>rfl | _ + 1,.arr _ _=>rfl
  | _ + 1,.ptr _=>rfl | _ + 1,.fn _ _=>rfl | _ + 1,.frm=>rfl
theorem FnOkP.cast {P:Program} {f:Nat} {A R:Ty} {F:den A->Option (den R)} (K:FnOkP P f A R F) {U:Ty} (q:U=A) {q':den U} {w:World} {vs:List Value} {y:den R}
    (hj:RX P U true w (fun b=>b < w.heap.size) vs q') (hf:F (q ▸ q')=some y):CF P f vs.toArray w (Ret R y w):=by
  subst q;exact K w _ _ _ hj hf
section
variable {C:Cx} {cf:Cfg} {st:St} {a:Act} {w:World} {G:Gh} {α:Type} {u:α}
abbrev AllB (w:World) (b:Nat):Prop:=b < w.heap.size
theorem RX_all {T:Ty} {m:Bool} {cs:List Value} {x:den T} (h:RX C.P T m w (Fz st G w) cs x):RX C.P T m w (AllB w) cs x :=
  RX_congr C.P T m (Nat.le_refl _) (fun b hb _=>⟨hb.1,rfl⟩) (fun b hb=>hb) h
theorem RX_TC {T:Ty} {cs:List Value} {x:den T} {bs:List Nat} (h:TC T w cs x bs):RX C.P T false w (AllB w) cs x:=RX_of_TC C.P T h (TC_lt T h)
/-- The i-th element of a root. -/
theorem root_elem (I:InvM C st w G) {k g h:Nat} {e:Ty} {l:List (den e)} (hr:st k=.root g h e l) {i:Int} (h0:0<=i) (hi:i < (l.length:Int)) :
    ∃ b o n c arr ty bi,G.hd k=.slice (some ⟨b,o,none⟩) n c/\w.heap[b]?=some (.cells arr ty (0,0))/\o + l.length * e.sz<=arr.size/\n=l.length ∧
      TC e w (seg arr.toList (o + i.toNat * e.sz) e.sz) (l.getD i.toNat (dflt e)) bi/\(∀ b' ∈ bi,b' ∈ G.bl k)/\b ∈ G.bl k:=by
  rcases I.rt _ _ _ _ _ hr with ⟨_,hl,_⟩ | ⟨b,o,n,c,arr,ty,bss,h1,h2,h3,h4,h5,h6,h7,h8⟩
  · have hl:l=[]:=hl
    subst hl;simp at hi;omega
  · have hlt:i.toNat < l.length:=by omega
    have hn:n=l.length:=h3
    have hbi:i.toNat < bss.length:=by rw [h7,hn];exact hlt
    refine ⟨b,o,n,c,arr,ty,bss[i.toNat],by simpa using h1,h4,?_,hn,?_,fun b' hb'=>?_,by rw [h2];exact List.mem_cons_self⟩
    · have:l.length * e.sz<=c * e.sz:=Nat.mul_le_mul_right _ (hn ▸ h5)
      omega
    · exact h8 i.toNat _ _ (by simp [hlt]) (by simp [hbi])
    · rw [h2];exact List.mem_cons_of_mem _ (List.mem_flatten.2 ⟨_,List.getElem_mem hbi,hb'⟩)
theorem fz_of_root (I:InvM C st w G) {k g h:Nat} {e:Ty} {l:List (den e)} (hr:st k=.root g h e l):RX C.P (.sl e) false w (AllB w) [G.hd k] l:=RX_TC (I.rt _ _ _ _ _ hr)
theorem valS_res {v:SV} {T:Ty} {cs:List Value} (h:v.hasTy T=true):valS v cs=valOf T cs:=by
  cases v <;> cases T <;> simp_all [SV.hasTy,valS,valOf]
theorem sliceL_len {α:Type} (l:List α) {a b:Int} (h0:0<=a) (h1:a<=b) (h2:b<=l.length):(sliceL l a b).length=b.toNat - a.toNat:=by
  simp only [sliceL,List.length_drop,List.length_take];omega
theorem sliceL_get {α:Type} (l:List α) {a b:Int} {i:Nat} {y:α} (h:(sliceL l a b)[i]?=some y):l[a.toNat + i]?=some y:=by
  simp only [sliceL,List.getElem?_drop] at h
  rw [List.getElem?_take] at h
  split at h
  · exact h
  · cases h
theorem vw_rx {P:Program} {S:Nat->Prop} {e:Ty} {hd v:Value} {lo n:Int} {l:List (den e)} (h:RX P (.sl e) false w S [hd] l) (hv:VwAt hd e lo n v) (h0:0<=lo) (h1:0<=n) (h2:lo + n<=(l.length:Int)):RX P (.sl e) false w S [v] (sliceL l lo (lo + n)):=by
  obtain ⟨a,len,cap,he,hlen,hcap,hr⟩:=h
  obtain ⟨aa,len',cap',aa',c',rfl,rfl,hc,hz⟩:=hv
  have he:Value.slice aa len' cap'=.slice a len cap:=by simpa using he
  simp only [Value.slice.injEq] at he
  obtain ⟨rfl,rfl,rfl⟩:=he
  have hs:=sliceL_len l h0 (show lo<=lo + n by omega) h2
  have hs':List.length (sliceL l lo (lo + n))=n.toNat:=by rw [hs];omega
  refine ⟨aa',n.toNat,c',rfl,hs'.symm,hc,?_⟩
  by_cases hn:n.toNat=0
  · left;exact List.length_eq_zero_iff.1 (hs'.trans hn)
  · rcases hz with hz | ⟨b,o,rfl,rfl⟩
    · exact absurd hz hn
    · rcases hr with hl | ⟨b',o',arr,ty,fz,e1,hb',hh,ho',hel⟩
      · have hl:l=[]:=hl
        subst hl;simp at h2;omega
      · simp only [Option.some.injEq,Addr.mk.injEq,and_true] at e1
        obtain ⟨rfl,rfl⟩:=e1
        right
        have hlen:len'=List.length l:=hlen
        refine ⟨b,o + lo.toNat * e.sz,arr,ty,fz,rfl,hb',hh,?_,fun i y hy=>?_⟩
        · have h4:lo.toNat * e.sz + n.toNat * e.sz=(lo.toNat + n.toNat) * e.sz:=by rw [<-Nat.add_mul]
          have h5:(lo.toNat + n.toNat) * e.sz<=len' * e.sz:=Nat.mul_le_mul_right _ (by omega)
          omega
        · have:=hel (lo.toNat + i) y (sliceL_get l hy)
          rw [Nat.add_mul] at this
          rw [Nat.add_assoc];exact this
theorem res_run (O:CfgOk C cf) (I:InvM C st w G):∀ (n:Nat) (T:Ty) (v:SV) (m:Bool) {f:den T->M α} {cs:List Value},Rn (res cf n T v f) st u->SX C.P st G w (Fz st G w) v m cs →
    ∃ x,RX C.P T m w (AllB w) cs x/\Rn (f x) st u/\(m=false->valS v cs=valOf T cs)
  | 0,T,v,m,f,cs,h,hs=>(Rn_fail.1 (by unfold res at h;exact h)).elim
  | n + 1,T,v,m,f,cs,h,hs=>by
    unfold res at h
    split at h
    · exact (Rn_fail.1 h).elim
    · rename_i T1 f0 k0 T2 v0 f1 T' x hq
      cases hq
      split at h
      · rename_i e;subst e
        cases m
        · exact ⟨x,RX_all hs,h,fun _=>rfl⟩
        · exact hs.elim
      · exact (Rn_fail.1 h).elim
    · rename_i e f' hq
      cases hq
      cases m
      · have hs:cs=[.slice none 0 0]:=hs
        subst hs
        exact ⟨[],⟨none,0,0,rfl,rfl,Nat.le_refl _,.inl rfl⟩,h,fun _=>rfl⟩
      · exact hs.elim
    · rename_i e t g e1 f' hq
      cases hq
      rw [Rn_get] at h
      split at h
      · rename_i g' hh e' l hr
        split at h
        · rename_i e2;subst e2
          rw [Rn_chk] at h
          have hg:g=g':=Nat.eq_of_beq_eq_true h.1
          subst hg
          cases m
          · obtain ⟨x,rfl,_,_,hx⟩:=hs
            obtain ⟨rfl,_⟩:=hx _ _ _ hr
            exact ⟨l,fz_of_root I hr,h.2,fun _=>rfl⟩
          · exact hs.elim
        · exact (Rn_fail.1 h).elim
      · exact (Rn_fail.1 h).elim
    · rename_i e t g h0 i fs e1 f' hq
      cases hq
      rw [Rn_get] at h
      split at h
      · rename_i g' h' e' l hr
        rw [Rn_chk,Bool.and_eq_true] at h
        have hg:g=g':=Nat.eq_of_beq_eq_true h.1.1
        have hh:h0=h':=Nat.eq_of_beq_eq_true h.1.2
        subst hg;subst hh
        have h2:=h.2
        cases m
        · obtain ⟨x,rfl,_,_,_,hx⟩:=hs
          obtain ⟨i0,i1,⟨y,hy⟩,b,o,n,c,arr,ty,fz,e1',e2',e3'⟩:=hx _ _ hr
          obtain ⟨b',o',n',c',arr',ty',bi,k1,k2,k3,k4,k5,k6,k7⟩:=root_elem I hr i0 i1
          rw [k1] at e1';simp only [Value.slice.injEq,Option.some.injEq,Addr.mk.injEq] at e1'
          obtain ⟨⟨rfl,rfl,_⟩,rfl,rfl⟩:=e1'
          rw [k2] at e2';simp only [Option.some.injEq,Obj.cells.injEq] at e2'
          obtain ⟨rfl,rfl,_⟩:=e2'
          obtain ⟨bs',p1,p2⟩:=TC_path fs e' k5
          rw [hy] at p1 h2
          unfold asTy at h2
          split at h2
          · rename_i e4
            have e4:e1=e:=by simpa using e4
            subst e4
            refine ⟨y,?_,h2,fun _=>rfl⟩
            have p1:TC (.sl e1) w (seg (seg arr'.toList (o' + i.toNat * e'.sz) e'.sz) (offP fs e') 1) y bs':=p1
            have hle:=offP_le fs e'
            have hty:tyP fs e'=.sl e1:=by rw [<-getP_ty fs e' (l.getD i.toNat (dflt e')),hy]
            rw [hty] at hle
            rw [seg_seg _ (show offP fs e' + 1<=e'.sz from hle),seg_one (by simpa using e3')] at p1
            exact RX_TC p1
          · exact (Rn_fail.1 h2).elim
        · exact hs.elim
      · exact (Rn_fail.1 h).elim
    · rename_i e t g lo n0 e1 f' hq
      cases hq
      rw [Rn_get] at h
      split at h
      · rename_i g' h' e' l hr
        split at h
        · rename_i e2;subst e2
          rw [Rn_chk] at h
          have hg:g=g':=Nat.eq_of_beq_eq_true h.1
          subst hg
          cases m
          · obtain ⟨x,rfl,_,_,hx⟩:=hs
            obtain ⟨rfl,k1,k2,k3,k4⟩:=hx _ _ _ hr
            exact ⟨_,vw_rx (fz_of_root I hr) k4 k1 k2 k3,h.2,fun _=>rfl⟩
          · exact hs.elim
        · exact (Rn_fail.1 h).elim
      · exact (Rn_fail.1 h).elim
    · rename_i a f' hq
      cases hq
      cases m
      · obtain ⟨x,h1,h2,h3⟩:=res_run O I n frF a false h (cs:=cs) hs
        exact ⟨toFrm x,RXF_of_frF h1,h2,fun _=>rfl⟩
      · exact hs.elim
    · rename_i F a f' hF hq
      cases hq
      cases m
      · obtain ⟨x,h1,h2,h3⟩:=res_run O I n F a false h (cs:=cs) hs
        exact ⟨x,h1,h2,fun _=>rfl⟩
      · exact hs.elim
    · have hs':cs=[]:=by cases m <;> exact hs
      subst hs'
      exact ⟨(),by cases m <;> rfl,h,fun _=>rfl⟩
    · rename_i A B a b f' hq
      cases hq
      cases m
      · obtain ⟨c1,c2,rfl,h1,h2⟩:=hs
        obtain ⟨x,x1,x2,x3⟩:=res_run O I n A a false h h1
        obtain ⟨y,y1,y2,y3⟩:=res_run O I n B b false x2 h2
        exact ⟨(x,y),⟨c1,c2,rfl,x1,y1⟩,y2,fun _=>rfl⟩
      · obtain ⟨c,r,rfl,h1,h2⟩:=hs
        obtain ⟨x,x1,x2,x3⟩:=res_run O I n A a false h h1
        obtain ⟨y,y1,y2,y3⟩:=res_run O I n B b true x2 h2
        exact ⟨(x,y),⟨c,r,by rw [x3 rfl],x1,y1⟩,y2,fun h=>by cases h⟩
    · rename_i e b g fs f' hq
      cases hq
      rw [Rn_get] at h
      split at h
      · rename_i g' B c hr
        rw [Rn_chk] at h
        have hg:g=g':=Nat.eq_of_beq_eq_true h.1
        subst hg
        have h2:=h.2
        split at h2
        · rename_i c' hc'
          cases m
          · obtain ⟨v,rfl,_,_,hv⟩:=hs
            have hv:=hv _ _ hr
            obtain ⟨ht,arr,ty,ha,hsx⟩:=I.bx _ _ _ _ hr
            obtain ⟨ht',hsx'⟩:=SX_atP fs c B ht hsx hc'
            obtain ⟨x,x1,x2,x3⟩:=res_run O I n e c' false h2 hsx'
            have hlt:=(Array.getElem?_eq_some_iff.1 ha).1
            have hl1:=RX_len C.P _ _ _ _ _ x1
            have hl2:=SX_len c' _ ht' hsx'
            have hl3:=SX_len c B ht hsx
            have hle:=offP_le fs B
            refine ⟨x,⟨G.bx (bk b),offP fs B,arr,ty,(0,0),by rw [hv],hlt,ha,?_,?_⟩,x2,fun _=>rfl⟩
            · rw [<-Array.length_toList,hl3];omega
            · rw [<-hl1,hl2];exact x1
          · exact hs.elim
        · exact (Rn_fail.1 h2).elim
      · exact (Rn_fail.1 h).elim
    · rename_i e t g i fs f' hq
      cases hq
      rw [Rn_get] at h
      split at h
      · rename_i g' h' e' l hr
        rw [Rn_chk] at h
        have hg:g=g':=Nat.eq_of_beq_eq_true h.1
        subst hg
        have h2:=h.2
        cases m
        · obtain ⟨v,rfl,_,_,hv⟩:=hs
          obtain ⟨i0,i1,b,o,n,c,e1,rfl⟩:=hv _ _ _ hr
          obtain ⟨b',o',n',c',arr',ty',bi,k1,k2,k3,k4,k5,k6,k7⟩:=root_elem I hr i0 i1
          rw [k1] at e1;simp only [Value.slice.injEq,Option.some.injEq,Addr.mk.injEq] at e1
          obtain ⟨⟨rfl,rfl,_⟩,rfl,rfl⟩:=e1
          obtain ⟨bs',p1,p2⟩:=TC_path fs e' k5
          have hty:=getP_ty fs e' (l.getD i.toNat (dflt e'))
          generalize getP fs e' (l.getD i.toNat (dflt e'))=gp at h2 p1 hty
          obtain ⟨T',y⟩:=gp
          unfold asTy at h2
          split at h2
          · rename_i e4
            have e4:T'=e:=e4
            subst e4
            have hle:=offP_le fs e'
            have hty:T'=tyP fs e':=hty
            rw [<-hty] at hle
            rw [seg_seg _ hle] at p1
            refine ⟨y,⟨b',o' + i.toNat * e'.sz + offP fs e',arr',ty',(0,0),rfl,(Array.getElem?_eq_some_iff.1 k2).1,k2,?_,RX_TC p1⟩,h2,fun _=>rfl⟩
            have:(i.toNat + 1) * e'.sz<=l.length * e'.sz:=Nat.mul_le_mul_right _ (by omega)
            rw [Nat.succ_mul] at this
            omega
          · exact (Rn_fail.1 h2).elim
        · exact hs.elim
      · exact (Rn_fail.1 h).elim
    · rename_i A R k fi ca f' hq
      cases hq
      split at h
      · rename_i sp hsp
        split at h
        · rename_i hc
          obtain ⟨e1,e2,e3,e4⟩:=hc
          cases m
          · obtain ⟨vs,us,rfl,h1,h2⟩:=hs
            obtain ⟨x,x1,x2,_⟩:=res_run O I n _ fi true h h1
            obtain ⟨z,z1,z2,_⟩:=res_run O I n _ ca true x2 h2
            refine ⟨_,⟨k,vs.toArray,us.toArray,rfl,fun b hb=>hb,?_⟩,z2,fun _=>rfl⟩
            intro w' hw ha vs' x' y hx' hy
            have K:=(O.fn _ _ hsp).plain e3
            obtain ⟨pas,mu,ret,F⟩:=sp
            have e2:ret=R:=e2
            subst e2
            have X1:=RX_congr C.P _ true hw (fun b hb _=>⟨Nat.lt_of_lt_of_le hb hw,ha b hb⟩) (fun b hb=>hb) x1
            have Z1:=RX_congr C.P _ true hw (fun b hb _=>⟨Nat.lt_of_lt_of_le hb hw,ha b hb⟩) (fun b hb=>hb) z1
            have J:=RX_app _ (takeTy_list _ _) X1 (RX_app A e4 hx' Z1)
            simp only at e1 hy K J
            have:=K.cast e1 J hy
            simpa [List.append_assoc] using this
          · exact hs.elim
        · exact (Rn_fail.1 h).elim
      · exact (Rn_fail.1 h).elim
    · exact (Rn_fail.1 h).elim
end
end Go.Proofs.YtefmjjpdflpnaaaGreat.E
namespace Go.Proofs.YtefmjjpdflpnaaaGreat.E
open Go Go.RowKit
set_option linter.unusedVariables false
set_option linter.unusedSimpArgs false
theorem RX_one (P:Program):∀ (T:Ty) {w:World} {S:Nat->Prop} {cs:List Value} {x:den T},RX P T false w S cs x->∀ c ∈ cs,c.oneCell'=true
  | .int _,_,_,_,_,h=>by unfold RX at h;subst h;simp [Value.oneCell']
  | .bool,_,_,_,_,h=>by unfold RX at h;subst h;simp [Value.oneCell']
  | .str,_,_,_,_,h=>by unfold RX at h;subst h;simp [Value.oneCell']
  | .unit,_,_,_,_,h=>by unfold RX at h;subst h;simp
  | .pair a b,_,_,_,_,h=>by
    obtain ⟨c1,c2,rfl,h1,h2⟩:=h
    intro c hc
    rcases List.mem_append.1 hc with hc | hc
    · exact RX_one P a h1 c hc
    · exact RX_one P b h2 c hc
  | .st f,_,_,cs,x,h=>RX_one P f (cs:=cs) (x:=x) h
  | .tup _,_,_,_,_,h=>by unfold RX at h;exact h.elim
  | .arr n e,_,_,_,_,h=>by
    obtain ⟨hx,css,rfl,hl,hc⟩:=h
    intro c hm
    obtain ⟨ci,hci,hm⟩:=List.mem_flatten.1 hm
    obtain ⟨i,hi⟩:=List.getElem?_of_mem hci
    obtain ⟨y,hy⟩:=some_of_len (hl.trans hx.symm) hi
    exact RX_one P e (hc i ci y hi hy) c hm
  | .sl _,_,_,_,_,h=>by obtain ⟨a,n,c,rfl,_⟩:=h;simp [Value.oneCell']
  | .ptr _,_,_,_,_,h=>by obtain ⟨b,o,arr,ty,fz,rfl,_⟩:=h;simp [Value.oneCell']
  | .fn _ _,_,_,_,_,h=>by obtain ⟨f,fi,ca,rfl,_⟩:=h;simp [Value.oneCell']
  | .frm,w,S,cs,x,h=>by
    have h:RXF w S cs x:=h
    cases h <;> simp [Value.oneCell']
theorem TC_one {T:Ty} {w:World} {cs:List Value} {x:den T} {bs:List Nat} (h:TC T w cs x bs):∀ c ∈ cs,c.oneCell'=true :=
  RX_one ⟨default,#[]⟩ T (RX_of_TC ⟨default,#[]⟩ T (S:=fun _=>True) h fun _ _=>trivial)
section
variable {P:Program} {st:St} {G:Gh} {w:World} {S:Nat->Prop}
theorem SX_one:∀ (v:SV) {cs:List Value},SX P st G w S v false cs->∀ c ∈ cs,c.oneCell'=true
  | .val T x,_,h=>RX_one P T h
  | .nil,_,h=>by unfold SX at h;subst h;simp [Value.oneCell']
  | .ref _ _ _,_,h=>by obtain ⟨v,rfl,ho,_⟩:=h;simpa using ho
  | .sub _ _ _ _ _ _,_,h=>by obtain ⟨v,rfl,ho,_⟩:=h;simpa using ho
  | .vw _ _ _ _ _,_,h=>by obtain ⟨v,rfl,ho,_⟩:=h;simpa using ho
  | .sap _ _ _ _ _ _ _ _,_,h=>by obtain ⟨v,rfl,ho,_⟩:=h;simpa using ho
  | .mp _ _,_,h=>by obtain ⟨b,rfl,_⟩:=h;simp [Value.oneCell']
  | .pel _ _ _ _,_,h=>by obtain ⟨v,rfl,ho,_⟩:=h;simpa using ho
  | .pbx _ _ _,_,h=>by obtain ⟨v,rfl,ho,_⟩:=h;simpa using ho
  | .pix _ _ _ _,_,h=>by obtain ⟨v,rfl,ho,_⟩:=h;simpa using ho
  | .unit,_,h=>by unfold SX at h;subst h;simp
  | .pair a b,_,h=>by
    obtain ⟨c1,c2,rfl,h1,h2⟩:=h
    intro c hc
    rcases List.mem_append.1 hc with hc | hc
    · exact SX_one a h1 c hc
    · exact SX_one b h2 c hc
  | .st a,_,h=>SX_one a h
  | .tup _,_,h=>h.elim
  | .clo _ _ _,_,h=>by obtain ⟨vs,us,rfl,_⟩:=h;simp [Value.oneCell']
end
theorem one_cells {v:Value} (h:v.oneCell'=true):v.cells=#[v]:=by cases v <;> simp_all [Value.oneCell',Value.cells]
def setSeg {α:Type} (l:List α) (o:Nat) (ys:List α):List α:=l.take o ++ ys ++ l.drop (o + ys.length)
theorem setSeg_len {α:Type} {l ys:List α} {o:Nat} (h:o + ys.length<=l.length):(setSeg l o ys).length=l.length:=by
  simp only [setSeg,List.length_append,List.length_take,List.length_drop];omega
theorem setSeg_all {α:Type} {l ys:List α} (h:ys.length=l.length):setSeg l 0 ys=ys:=by simp [setSeg,h]
theorem setSeg_nil {α:Type} {l:List α} {o:Nat}:setSeg l o []=l:=by simp [setSeg]
theorem setSeg_app1 {α:Type} (a b ys:List α) (h:ys.length=a.length):setSeg (a ++ b) 0 ys=ys ++ b:=by simp [setSeg,h]
theorem setSeg_app2 {α:Type} (a b ys:List α) (o:Nat):setSeg (a ++ b) (a.length + o) ys=a ++ setSeg b o ys:=by
  simp only [setSeg,List.take_append,List.drop_append]
  rw [List.take_of_length_le (by omega),List.drop_of_length_le (by omega)]
  simp [Nat.add_assoc,List.append_assoc]
theorem setSeg_get {α:Type} {l ys:List α} {o:Nat} (h:o + ys.length<=l.length) (j:Nat):(setSeg l o ys)[j]?=if o<=j/\j < o + ys.length then ys[j - o]? else l[j]?:=by
  simp only [setSeg,List.append_assoc]
  by_cases h1:j < o
  · rw [if_neg (by omega),List.getElem?_append_left (by simp;omega),List.getElem?_take_of_lt h1]
  · rw [List.getElem?_append_right (by simp;omega)]
    simp only [List.length_take,Nat.min_eq_left (show o<=l.length by omega)]
    by_cases h2:j < o + ys.length
    · rw [if_pos ⟨by omega,h2⟩,List.getElem?_append_left (by omega)]
    · rw [if_neg (by omega),List.getElem?_append_right (by omega),List.getElem?_drop]
      congr 1;omega
theorem seg_get {α:Type} {l:List α} {o n:Nat} (j:Nat):(seg l o n)[j]?=if j < n then l[o + j]? else none:=by
  simp only [seg]
  by_cases h:j < n
  · rw [if_pos h,List.getElem?_take_of_lt h,List.getElem?_drop]
  · rw [if_neg h,List.getElem?_take,if_neg h]
theorem seg_setSeg_same {α:Type} {l ys:List α} {o:Nat} (h:o + ys.length<=l.length):seg (setSeg l o ys) o ys.length=ys:=by
  apply List.ext_getElem?
  intro j
  rw [seg_get,setSeg_get h]
  by_cases hj:j < ys.length
  · rw [if_pos hj,if_pos ⟨by omega,by omega⟩];congr 1;omega
  · rw [if_neg hj,List.getElem?_eq_none (by omega)]
theorem seg_setSeg_apart {α:Type} {l ys:List α} {o p n:Nat} (h:o + ys.length<=l.length) (ha:p + n<=o\/o + ys.length<=p):seg (setSeg l o ys) p n=seg l p n:=by
  apply List.ext_getElem?
  intro j
  rw [seg_get,seg_get,setSeg_get h]
  by_cases hj:j < n
  · rw [if_pos hj,if_pos hj,if_neg (by omega)]
  · rw [if_neg hj,if_neg hj]
/-- A store into a part of a part, put back. -/
theorem setSeg_comp {α:Type} {l ys:List α} {o p n:Nat} (h:p + ys.length<=n) (hl:o + n<=l.length):setSeg l o (setSeg (seg l o n) p ys)=setSeg l (o + p) ys:=by
  apply List.ext_getElem?
  intro j
  have hsl:(seg l o n).length=n:=seg_len hl
  have hsl2:(setSeg (seg l o n) p ys).length=n:=by rw [setSeg_len (by omega),hsl]
  rw [setSeg_get (l:=l) (o:=o + p) (ys:=ys) (by omega),setSeg_get (by omega),hsl2]
  by_cases hj:o<=j/\j < o + n
  · rw [if_pos hj,setSeg_get (by omega),seg_get]
    by_cases hk:o + p<=j/\j < o + p + ys.length
    · rw [if_pos hk,if_pos (by omega)];congr 1;omega
    · rw [if_neg hk,if_neg (by omega),if_pos (by omega)];congr 1;omega
  · rw [if_neg hj,if_neg (by omega)]
section
variable {P:Program} {ty:Nat->Option Ty} {t:Nat} {T:Ty} {w:World}
theorem add_off (b o i:Nat):(⟨b,o,none⟩:Addr).add i=⟨b,o + i,none⟩:=by unfold Addr.add;split <;> simp_all
theorem loadVar_run (h:TyOk P ty t T) {b o:Nat} {arr:Array Value} {et:TypeId} {fz:Nat × Nat} (hb:w.heap[b]?=some (.cells arr et fz)) (hl:o + T.sz<=arr.size) :
    (loadVar t ⟨b,o,none⟩).run P w=.ok (valOf T (seg arr.toList o T.sz)) w:=by
  unfold loadVar
  simp only [Sem.run_bind,h.isAgg,Result.andThen_ok]
  cases ha:isAggT T
  · simp only [Bool.false_eq_true,if_false]
    have h1:=h.single ha
    have hlt:o < arr.size:=by omega
    have hc:w.cell? ⟨b,o,none⟩=some arr[o]:=by simp [World.cell?,hb,hlt]
    rw [run_load,hc,h1,seg_one (v:=arr[o]) (by simp [hlt]),valOf_one ha];rfl
  · simp only [if_true,Sem.run_bind,h.sizeOf,Result.andThen_ok]
    have hsl:(seg arr.toList o T.sz).length=T.sz:=seg_len (by simpa using hl)
    have:=run_loadCells_list (P:=P) w ⟨b,o,none⟩ (seg arr.toList o T.sz) (fun j v hv=>by
      rw [add_off,World.cell?,hb]
      rw [seg_get] at hv
      split at hv
      · simpa using hv
      · cases hv)
    rw [hsl] at this
    rw [this,valOf_agg ha];rfl
theorem storeVar_run (h:TyOk P ty t T) {b o:Nat} {arr:Array Value} {et:TypeId} (hb:w.heap[b]?=some (.cells arr et (0,0))) {cs:List Value} (hcs:cs.length=T.sz) (h1:∀ c ∈ cs,c.oneCell'=true) (hl:o + T.sz<=arr.size) :
    (storeVar t ⟨b,o,none⟩ (valOf T cs)).run P w=.ok () (w.setRow b (setSeg arr.toList o cs).toArray):=by
  have hc:(valOf T cs).cells=cs.toArray:=by
    cases ha:isAggT T
    · rw [valOf_one ha]
      rw [h.single ha] at hcs
      obtain ⟨v,rfl⟩:=List.length_eq_one_iff.1 hcs
      exact one_cells (h1 v (by simp))
    · rw [valOf_agg ha];rfl
  unfold storeVar
  rw [hc]
  simp only [Sem.run_bind,h.sizeOf,Result.andThen_ok]
  rw [if_neg (by simp [hcs])]
  have:=run_storeCells_at b o et cs 0 arr w (P:=P) hb (by rw [hcs];simpa using hl) h1
  simpa [setSeg,hcs] using this
theorem newVar_run (h:TyOk P ty t T) {cs:List Value} (hcs:cs.length=T.sz) (h1:∀ c ∈ cs,c.oneCell'=true) :
    (newVar t (valOf T cs)).run P w=.ok ⟨w.heap.size,0,none⟩ (w.alloc (.cells cs.toArray t)):=by
  have hc:(valOf T cs).cells=cs.toArray:=by
    cases ha:isAggT T
    · rw [valOf_one ha]
      rw [h.single ha] at hcs
      obtain ⟨v,rfl⟩:=List.length_eq_one_iff.1 hcs
      exact one_cells (h1 v (by simp))
    · rw [valOf_agg ha];rfl
  unfold newVar newRow
  rw [hc];rfl
theorem setRow_get {b:Nat} {arr:Array Value} {et:TypeId} {fz:Nat × Nat} (hb:w.heap[b]?=some (.cells arr et fz)) (cs:Array Value) (k:Nat) :
    (w.setRow b cs).heap[k]?=if k=b then some (.cells cs et fz) else w.heap[k]?:=by
  by_cases h:k=b
  · subst h;rw [if_pos rfl];exact setRow_heap w _ _ _ _ _ hb
  · rw [if_neg h];exact setRow_other w b k cs h
theorem alloc_get (o:Obj) (k:Nat):(w.alloc o).heap[k]?=if k=w.heap.size then some o else w.heap[k]?:=by
  show (w.heap.push o)[k]?=_
  rw [Array.getElem?_push]
end
theorem RX_setF {P:Program} {w:World} {S:Nat->Prop}:∀ (f:Ty) {cs ys:List Value} {x:den f} (n:Nat) {z:den (fld f n)},RX P f false w S cs x->RX P (fld f n) false w S ys z->RX P f false w S (setSeg cs (off f n) ys) (setF f x n z)
  | .pair a b,cs,ys,x,0,z,h,hy=>by
    obtain ⟨c1,c2,rfl,h1,h2⟩:=h
    refine ⟨ys,c2,?_,hy,h2⟩
    simp only [off]
    exact setSeg_app1 _ _ _ ((RX_len P _ _ _ _ _ hy).trans (RX_len P _ _ _ _ _ h1).symm)
  | .pair a b,cs,ys,x,n + 1,z,h,hy=>by
    obtain ⟨c1,c2,rfl,h1,h2⟩:=h
    refine ⟨c1,setSeg c2 (off b n) ys,?_,h1,RX_setF b n h2 hy⟩
    simp only [off]
    rw [<-RX_len P _ _ _ _ _ h1,setSeg_app2]
  | .int _,cs,ys,x,n,z,h,hy=>by cases n <;> (have:ys=[]:=hy;subst this;rw [setSeg_nil];exact h)
  | .bool,cs,ys,x,n,z,h,hy=>by cases n <;> (have:ys=[]:=hy;subst this;rw [setSeg_nil];exact h)
  | .str,cs,ys,x,n,z,h,hy=>by cases n <;> (have:ys=[]:=hy;subst this;rw [setSeg_nil];exact h)
  | .unit,cs,ys,x,n,z,h,hy=>by cases n <;> (have:ys=[]:=hy;subst this;rw [setSeg_nil];exact h)
  | .st _,cs,ys,x,n,z,h,hy=>by cases n <;> (have:ys=[]:=hy;subst this;rw [setSeg_nil];exact h)
  | .tup _,cs,ys,x,n,z,h,hy=>by cases n <;> (have:ys=[]:=hy;subst this;rw [setSeg_nil];exact h)
  | .sl _,cs,ys,x,n,z,h,hy=>by cases n <;> (have:ys=[]:=hy;subst this;rw [setSeg_nil];exact h)
  | .arr _ _,cs,ys,x,n,z,h,hy=>by cases n <;> (have:ys=[]:=hy;subst this;rw [setSeg_nil];exact h)
  | .ptr _,cs,ys,x,n,z,h,hy=>by cases n <;> (have:ys=[]:=hy;subst this;rw [setSeg_nil];exact h)
  | .fn _ _,cs,ys,x,n,z,h,hy=>by cases n <;> (have:ys=[]:=hy;subst this;rw [setSeg_nil];exact h)
  | .frm,cs,ys,x,0,z,h,hy=>by
    have h:RXF w S cs x:=h
    have hy:ys=[.int .u8 z]:=hy
    subst hy
    cases h with
    | nil c a k=>exact .nil z a k
    | node c b o n k arr ty fz ps hn hk hS hh ho hq=>exact .node z b o n k arr ty fz ps hn hk hS hh ho hq
  | .frm,cs,ys,x,1,z,h,hy=>by
    have h:RXF w S cs x:=h
    have hl:=RX_len P _ _ _ _ _ hy
    have:∃ v,ys=[v]:=by
      cases ys with
      | nil=>cases hl
      | cons v r=>cases r with
        | nil=>exact ⟨v,rfl⟩
        | cons _ _=>simp [Ty.sz,fld] at hl
    obtain ⟨v,rfl⟩:=this
    cases h with
    | nil c a k=>exact RXF_of_sl c hy
    | node c b o n k arr ty fz ps hn hk hS hh ho hq=>exact RXF_of_sl c hy
  | .frm,cs,ys,x,n + 2,z,h,hy=>by have:ys=[]:=hy;subst this;rw [setSeg_nil];exact h
section
variable {P:Program} {st:St} {G:Gh} {w:World} {S:Nat->Prop}
theorem SX_expd:∀ (f:Ty) {x:den f} {cs:List Value},f.isList=true->RX P f false w S cs x->SX P st G w S (expd f x) false cs/\(expd f x).hasTy f=true
  | .pair a b,x,cs,hl,h=>by
    obtain ⟨c1,c2,rfl,h1,h2⟩:=h
    obtain ⟨h3,h4⟩:=SX_expd b hl h2
    exact ⟨⟨c1,c2,rfl,h1,h3⟩,by simp [expd,SV.hasTy,h4]⟩
  | .unit,x,cs,hl,h=>⟨h,rfl⟩
  | .int _,_,_,hl,_=>by cases hl
  | .bool,_,_,hl,_=>by cases hl
  | .str,_,_,hl,_=>by cases hl
  | .st _,_,_,hl,_=>by cases hl
  | .tup _,_,_,hl,_=>by cases hl
  | .sl _,_,_,hl,_=>by cases hl
  | .arr _ _,_,_,hl,_=>by cases hl
  | .ptr _,_,_,hl,_=>by cases hl
  | .fn _ _,_,_,hl,_=>by cases hl
  | .frm,_,_,hl,_=>by cases hl
theorem SX_setNth:∀ (a:SV) (f:Ty) {cs ys:List Value} (n:Nat) {y a':SV},a.hasTy f=true->SX P st G w S a false cs->a.setNth n y=some a'->y.hasTy (fld f n)=true->SX P st G w S y false ys →
    SX P st G w S a' false (setSeg cs (off f n) ys)
  | .pair a b,f,cs,ys,n,y,a',ht,h,hn,hty,hy=>by
    obtain ⟨c1,c2,rfl,h1,h2⟩:=h
    cases f <;> simp only [SV.hasTy,Bool.and_eq_true,Bool.false_eq_true] at ht
    rename_i A B
    cases n with
    | zero =>
      simp only [SV.setNth,Option.some.injEq] at hn;subst hn
      simp only [off,fld] at hty ⊢
      rw [setSeg_app1 _ _ _ ((SX_len y A hty hy).trans (SX_len a A ht.1 h1).symm)]
      exact ⟨ys,c2,rfl,hy,h2⟩
    | succ n =>
      simp only [SV.setNth,Option.map_eq_some_iff] at hn
      obtain ⟨b',hb',rfl⟩:=hn
      simp only [off,fld] at hty ⊢
      rw [<-SX_len a A ht.1 h1,setSeg_app2]
      exact ⟨c1,_,rfl,h1,SX_setNth b B n ht.2 h2 hb' hty hy⟩
  | .val _ _,_,_,_,_,_,_,_,_,hn,_,_=>by simp [SV.setNth] at hn
  | .nil,_,_,_,_,_,_,_,_,hn,_,_=>by simp [SV.setNth] at hn
  | .ref _ _ _,_,_,_,_,_,_,_,_,hn,_,_=>by simp [SV.setNth] at hn
  | .sub _ _ _ _ _ _,_,_,_,_,_,_,_,_,hn,_,_=>by simp [SV.setNth] at hn
  | .vw _ _ _ _ _,_,_,_,_,_,_,_,_,hn,_,_=>by simp [SV.setNth] at hn
  | .sap _ _ _ _ _ _ _ _,_,_,_,_,_,_,_,_,hn,_,_=>by simp [SV.setNth] at hn
  | .mp _ _,_,_,_,_,_,_,_,_,hn,_,_=>by simp [SV.setNth] at hn
  | .pel _ _ _ _,_,_,_,_,_,_,_,_,hn,_,_=>by simp [SV.setNth] at hn
  | .pbx _ _ _,_,_,_,_,_,_,_,_,hn,_,_=>by simp [SV.setNth] at hn
  | .pix _ _ _ _,_,_,_,_,_,_,_,_,hn,_,_=>by simp [SV.setNth] at hn
  | .unit,_,_,_,_,_,_,_,_,hn,_,_=>by simp [SV.setNth] at hn
  | .st _,_,_,_,_,_,_,_,_,hn,_,_=>by simp [SV.setNth] at hn
  | .tup _,_,_,_,_,_,_,_,_,hn,_,_=>by simp [SV.setNth] at hn
  | .clo _ _ _,_,_,_,_,_,_,_,_,hn,_,_=>by simp [SV.setNth] at hn
theorem SX_mkSt' {a:SV} {cs:List Value} (h:SX P st G w S a false cs):SX P st G w S (mkSt' a) false cs:=by
  unfold mkSt'
  split
  · rename_i A x hx;exact plainS_sx a (T:=A) (x:=x) hx h
  · exact h
theorem hasTy_mkSt' {a:SV} {f:Ty} (h:a.hasTy f=true):(mkSt' a).hasTy (.st f)=true:=by
  unfold mkSt'
  split
  · rename_i A x hx
    have key:∀ (a:SV) (f A:Ty) (x:den A),a.hasTy f=true->plainS a=some ⟨A,x⟩->A=f:=by
      intro a
      induction a with
      | val T x=>intro f A y h1 h2;simp [SV.hasTy] at h1;simp [plainS] at h2;rw [<-h2.1,h1]
      | unit=>intro f A y h1 h2;cases f <;> simp [SV.hasTy] at h1;simp [plainS] at h2;exact h2.1.symm
      | pair a b iha ihb =>
        intro f A y h1 h2
        cases f <;> simp only [SV.hasTy,Bool.and_eq_true,Bool.false_eq_true] at h1
        simp only [plainS] at h2
        cases ha:plainS a with
        | none=>rw [ha] at h2;cases h2
        | some p =>
          rw [ha] at h2
          cases hb:plainS b with
          | none=>rw [hb] at h2;cases h2
          | some q =>
            rw [hb] at h2;simp only [Option.some.injEq,Sigma.mk.injEq] at h2
            rw [<-h2.1,iha _ _ _ h1.1 ha,ihb _ _ _ h1.2 hb]
      | st a iha =>
        intro f A y h1 h2
        cases f <;> simp only [SV.hasTy,Bool.false_eq_true] at h1
        simp only [plainS] at h2
        cases ha:plainS a with
        | none=>rw [ha] at h2;cases h2
        | some p =>
          rw [ha] at h2;simp only [Option.some.injEq,Sigma.mk.injEq] at h2
          rw [<-h2.1,iha _ _ _ h1 ha]
      | _=>intro f A y h1 h2;simp [plainS] at h2
    have:=key a f A x h hx;subst this;simp [SV.hasTy]
  · exact h
theorem SX_setP:∀ (fs:List Nat) (v:SV) (T:Ty) {cs ys:List Value} {y v':SV},T.listy=true->v.hasTy T=true->SX P st G w S v false cs->v.setP fs y=some v'->y.hasTy (tyP fs T)=true->SX P st G w S y false ys →
    SX P st G w S v' false (setSeg cs (offP fs T) ys)/\v'.hasTy T=true
  | [],v,T,cs,ys,y,v',hli,ht,h,hs,hty,hy=>by
    simp only [SV.setP,Option.some.injEq] at hs;subst hs
    simp only [offP,tyP] at hty ⊢
    rw [setSeg_all ((SX_len y T hty hy).trans (SX_len v T ht h).symm)]
    exact ⟨hy,hty⟩
  | n :: r,.val T' x,T,cs,ys,y,v',hli,ht,h,hs,hty,hy=>by
    cases T' <;> simp only [SV.setP] at hs <;> try cases hs
    rename_i f
    simp only [SV.hasTy,decide_eq_true_eq] at ht;subst ht
    simp only [Ty.listy,Bool.and_eq_true] at hli
    have hlf:(fld f n).listy=true:=by
      have key:∀ (f:Ty) (n:Nat),f.listy=true->(fld f n).listy=true:=by
        intro f
        induction f with
        | pair a b iha ihb =>
          intro n h
          simp only [Ty.listy,Bool.and_eq_true] at h
          cases n with
          | zero=>exact h.1
          | succ n=>exact ihb n h.2
        | frm=>intro n h;match n with | 0=>rfl | 1=>rfl | n + 2=>rfl
        | _=>intro n h;cases n <;> rfl
      exact key f n hli.2
    have h1:=RX_fld f n (cs:=cs) (x:=x) h
    cases hp:SV.setP r (.val (fld f n) (getF f x n)) y with
    | none=>rw [hp] at hs;cases hs
    | some u =>
      obtain ⟨k1,k2⟩:=SX_setP r (.val (fld f n) (getF f x n)) (fld f n) hlf (by simp [SV.hasTy]) h1 hp hty hy
      have hle:=offP_le r (fld f n)
      have hle2:=off_le f n
      have hcl:cs.length=f.sz:=RX_len P (.st f) w S cs x h
      have hyl:ys.length=(tyP r (fld f n)).sz:=SX_len y _ hty hy
      have e2:setSeg cs (off f n) (setSeg (seg cs (off f n) (fld f n).sz) (offP r (fld f n)) ys)=setSeg cs (off f n + offP r (fld f n)) ys:=setSeg_comp (by omega) (by omega)
      have hs':(match some u with
        | some (.val T z)=>if h:T=fld f n then some (.val (.st f) (setF f x n (h ▸ z))) else none
        | some v=>((expd f x).setNth n v).map .st
        | none=>none)=some v':=by rw [<-hp];exact hs
      show SX P st G w S v' false (setSeg cs (off f n + offP r (fld f n)) ys)/\_
      rw [<-e2]
      cases u with
      | val T z =>
        simp only at hs'
        split at hs'
        · rename_i e;subst e
          simp only [Option.some.injEq] at hs';subst hs'
          exact ⟨RX_setF f n (cs:=cs) (x:=x) h k1,by simp [SV.hasTy]⟩
        · cases hs'
      | _ =>
        simp only [Option.map_eq_some_iff] at hs'
        obtain ⟨a',ha',rfl⟩:=hs'
        obtain ⟨q1,q2⟩:=SX_expd f (st:=st) (G:=G) hli.1 (x:=x) (cs:=cs) h
        refine ⟨show SX P st G w S a' false _ from SX_setNth _ f n q2 q1 ha' k2 k1,?_⟩
        have key:∀ (a:SV) (f:Ty) (n:Nat) (y a':SV),a.hasTy f=true->a.setNth n y=some a'->y.hasTy (fld f n)=true->a'.hasTy f=true:=by
          intro a
          induction a with
          | pair a b iha ihb =>
            intro f n y a' h1 h2 h3
            cases f <;> simp only [SV.hasTy,Bool.and_eq_true,Bool.false_eq_true] at h1
            cases n with
            | zero=>simp only [SV.setNth,Option.some.injEq] at h2;subst h2;simp only [fld] at h3;simp [SV.hasTy,h3,h1.2]
            | succ n =>
              simp only [SV.setNth,Option.map_eq_some_iff] at h2
              obtain ⟨b',hb',rfl⟩:=h2
              simp [SV.hasTy,h1.1,ihb _ n y b' h1.2 hb' h3]
          | _=>intro f n y a' h1 h2 h3;simp [SV.setNth] at h2
        exact key _ f n _ a' q2 ha' k2
  | n :: r,.st a,T,cs,ys,y,v',hli,ht,h,hs,hty,hy=>by
    simp only [SV.setP] at hs
    cases hn:a.nth n with
    | none=>rw [hn] at hs;cases hs
    | some v1 =>
      rw [hn] at hs;simp only at hs
      cases T <;> simp only [SV.hasTy,Bool.false_eq_true] at ht
      rename_i f
      simp only [Ty.listy,Bool.and_eq_true] at hli
      have hlf:(fld f n).listy=true:=by
        have key:∀ (f:Ty) (n:Nat),f.listy=true->(fld f n).listy=true:=by
          intro f
          induction f with
          | pair a b iha ihb =>
            intro n h
            simp only [Ty.listy,Bool.and_eq_true] at h
            cases n with
            | zero=>exact h.1
            | succ n=>exact ihb n h.2
          | frm=>intro n h;match n with | 0=>rfl | 1=>rfl | n + 2=>rfl
          | _=>intro n h;cases n <;> rfl
        exact key f n hli.2
      obtain ⟨h1,h2⟩:=SX_nth a f n ht h hn
      cases hp:SV.setP r v1 y with
      | none=>rw [hp] at hs;cases hs
      | some u =>
        rw [hp] at hs
        simp only [Option.map_eq_some_iff] at hs
        obtain ⟨a',ha',rfl⟩:=hs
        obtain ⟨k1,k2⟩:=SX_setP r v1 (fld f n) hlf h1 h2 hp hty hy
        have hle:=offP_le r (fld f n)
        have hle2:=off_le f n
        have hcl:cs.length=f.sz:=SX_len a f ht h
        have hyl:ys.length=(tyP r (fld f n)).sz:=SX_len y _ hty hy
        have e2:setSeg cs (off f n) (setSeg (seg cs (off f n) (fld f n).sz) (offP r (fld f n)) ys)=setSeg cs (off f n + offP r (fld f n)) ys:=setSeg_comp (by omega) (by omega)
        show SX P st G w S (mkSt' a') false (setSeg cs (off f n + offP r (fld f n)) ys)/\_
        rw [<-e2]
        have hh:a'.hasTy f=true:=by
          have key:∀ (a:SV) (f:Ty) (n:Nat) (y a':SV),a.hasTy f=true->a.setNth n y=some a'->y.hasTy (fld f n)=true->a'.hasTy f=true:=by
            intro a
            induction a with
            | pair a b iha ihb =>
              intro f n y a' h1 h2 h3
              cases f <;> simp only [SV.hasTy,Bool.and_eq_true,Bool.false_eq_true] at h1
              cases n with
              | zero=>simp only [SV.setNth,Option.some.injEq] at h2;subst h2;simp only [fld] at h3;simp [SV.hasTy,h3,h1.2]
              | succ n =>
                simp only [SV.setNth,Option.map_eq_some_iff] at h2
                obtain ⟨b',hb',rfl⟩:=h2
                simp [SV.hasTy,h1.1,ihb _ n y b' h1.2 hb' h3]
            | _=>intro f n y a' h1 h2 h3;simp [SV.setNth] at h2
          exact key _ f n _ a' ht ha' k2
        exact ⟨SX_mkSt' (SX_setNth a f n ht h ha' k2 k1),hasTy_mkSt' hh⟩
  | _ :: _,.nil,_,_,_,_,_,_,_,_,hs,_,_=>by simp [SV.setP] at hs
  | _ :: _,.ref _ _ _,_,_,_,_,_,_,_,_,hs,_,_=>by simp [SV.setP] at hs
  | _ :: _,.sub _ _ _ _ _ _,_,_,_,_,_,_,_,_,hs,_,_=>by simp [SV.setP] at hs
  | _ :: _,.vw _ _ _ _ _,_,_,_,_,_,_,_,_,hs,_,_=>by simp [SV.setP] at hs
  | _ :: _,.sap _ _ _ _ _ _ _ _,_,_,_,_,_,_,_,_,hs,_,_=>by simp [SV.setP] at hs
  | _ :: _,.mp _ _,_,_,_,_,_,_,_,_,hs,_,_=>by simp [SV.setP] at hs
  | _ :: _,.pel _ _ _ _,_,_,_,_,_,_,_,_,hs,_,_=>by simp [SV.setP] at hs
  | _ :: _,.pbx _ _ _,_,_,_,_,_,_,_,_,hs,_,_=>by simp [SV.setP] at hs
  | _ :: _,.pix _ _ _ _,_,_,_,_,_,_,_,_,hs,_,_=>by simp [SV.setP] at hs
  | _ :: _,.unit,_,_,_,_,_,_,_,_,hs,_,_=>by simp [SV.setP] at hs
  | _ :: _,.pair _ _,_,_,_,_,_,_,_,_,hs,_,_=>by simp [SV.setP] at hs
  | _ :: _,.tup _,_,_,_,_,_,_,_,_,hs,_,_=>by simp [SV.setP] at hs
  | _ :: _,.clo _ _ _,_,_,_,_,_,_,_,_,hs,_,_=>by simp [SV.setP] at hs
end
end Go.Proofs.YtefmjjpdflpnaaaGreat.E
namespace Go.Proofs.YtefmjjpdflpnaaaGreat.E
open Go Go.RowKit
set_option linter.unusedVariables false
set_option linter.unusedSimpArgs false
def Snd (C:Cx) (cf:Cfg) (o:Oper):Prop:=∀ (st:St) (a:Act) (w:World) (G:Gh) (us:U) (next:Act->World->Prop) (Q:Exit->Act->World->Prop),Inv C st a w G->Rn (exec cf o) st us →
  (∀ a' w' G',Inv C (upds st us) a' w' G'->next a' w')->o.wp C.P a w next Q
section
variable {C:Cx} {cf:Cfg} {dst:Option Tmp} {type:TypeId} {pos:String} {after:Array Edge} {guard:Option (Nat × Bool)}
/-- An operation that yields a value and leaves memory alone. -/
theorem snd_val (O:CfgOk C cf) {o:Oper} {st:St} {a:Act} {w:World} {G:Gh} {us:U} {next:Act->World->Prop} {Q:Exit->Act->World->Prop} (I:Inv C st a w G) {v:SV} {x:Value}
    (h:Rn (wr cf o.dst v []) st us) (hx:SW C.P st G w (Fz st G w) v x) (hn:∀ a' w' G',Inv C (upds st us) a' w' G'->next a' w') (hr:(execOp a.eval o).run C.P w=.ok (.value x) w):o.wp C.P a w next Q :=
  wp_value hr (hn _ _ _ (wr_sound0 O h I hx))
theorem SW_val {P:Program} {st:St} {G:Gh} {w:World} {S:Nat->Prop} {T:Ty} {x:den T} {c:List Value} (h:RX P T false w S c x):SW P st G w S (.val T x) (valOf T c):=⟨c,rfl,h⟩
/-- What a slot holds that holds a number, a bool, a string. -/
theorem SW_int {P:Program} {st:St} {G:Gh} {w:World} {S:Nat->Prop} {k:IntKind} {n:Int} {x:Value} (h:SW P st G w S (.val (.int k) n) x):x=.int k n:=by
  obtain ⟨c,rfl,hc⟩:=h;have:c=[.int k n]:=hc;subst this;rfl
theorem SW_bool {P:Program} {st:St} {G:Gh} {w:World} {S:Nat->Prop} {b:Bool} {x:Value} (h:SW P st G w S (.val .bool b) x):x=.bool b:=by
  obtain ⟨c,rfl,hc⟩:=h;have:c=[.bool b]:=hc;subst this;rfl
theorem SW_str {P:Program} {st:St} {G:Gh} {w:World} {S:Nat->Prop} {b:ByteArray} {x:Value} (h:SW P st G w S (.val .str b) x):x=.string b:=by
  obtain ⟨c,rfl,hc⟩:=h;have:c=[.string b]:=hc;subst this;rfl
theorem snd_move (O:CfgOk C cf) {x:Operand}:Snd C cf ⟨dst,.move x,type,pos,after,guard⟩:=by
  intro st a w G us next Q I h hn
  obtain ⟨v,hv,h⟩:=opd_run I (show Rn (opd x fun v=>wr cf dst v []) st us from h)
  exact snd_val O I h hv hn rfl
theorem snd_assign (O:CfgOk C cf) {x:Operand}:Snd C cf ⟨dst,.assign x,type,pos,after,guard⟩:=by
  intro st a w G us next Q I h hn
  simp only [exec] at h
  rw [Rn_bif] at h
  rcases h with ⟨_,h⟩ | ⟨_,h⟩
  · cases dst with
    | none=>exact (Rn_fail.1 h).elim
    | some d =>
      simp only at h
      rw [Rn_bif] at h
      rcases h with ⟨hb,h⟩ | ⟨_,h⟩
      · rw [Rn_ret] at h
        subst h
        simp only [Bool.and_eq_true] at hb
        exact wp_value rfl (hn _ _ G (I.putNone (by rw [<-O.prot];exact Nat.le_of_ble_eq_true hb.1) _))
      · exact (Rn_fail.1 h).elim
  · obtain ⟨v,hv,h⟩:=opd_run I h
    exact snd_val O I h hv hn rfl
theorem snd_pick (O:CfgOk C cf) {c x y:Operand}:Snd C cf ⟨dst,.pick c x y,type,pos,after,guard⟩:=by
  intro st a w G us next Q I h hn
  simp only [exec] at h
  obtain ⟨v,hv,h⟩:=opd_run I h
  split at h
  · rename_i t
    have hc:=SW_bool hv
    rw [Rn_br] at h
    rcases h with ⟨rfl,h⟩ | ⟨rfl,h⟩
    · obtain ⟨v,hv,h⟩:=opd_run I h
      exact snd_val O I h hv hn (by simp [execOp,hc,asBool])
    · obtain ⟨v,hv,h⟩:=opd_run I h
      exact snd_val O I h hv hn (by simp [execOp,hc,asBool])
  · exact (Rn_fail.1 h).elim
theorem snd_nilCheck (O:CfgOk C cf) {x:Operand}:Snd C cf ⟨dst,.nilCheck x,type,pos,after,guard⟩:=by
  intro st a w G us next Q I h hn
  simp only [exec] at h
  obtain ⟨v,hv,h⟩:=opd_run I h
  split at h
  · rename_i b g fs
    rw [Rn_get] at h
    split at h
    · rename_i g' T c hr
      rw [Rn_chk] at h
      have hg:g=g':=Nat.eq_of_beq_eq_true h.1
      subst hg
      refine snd_val O I h.2 hv hn ?_
      obtain ⟨cc,hx,v,rfl,_,_,hl⟩:=hv
      have hx:a.eval x=v:=hx
      simp [execOp,hx,hl _ _ hr]
    · exact (Rn_fail.1 h).elim
  · rename_i b g fs i
    rw [Rn_get] at h
    split at h
    · rename_i g' T c hr
      rw [Rn_chk] at h
      have hg:g=g':=Nat.eq_of_beq_eq_true h.1
      subst hg
      refine snd_val O I h.2 hv hn ?_
      obtain ⟨cc,hx,v,rfl,_,_,hl⟩:=hv
      have hx:a.eval x=v:=hx
      obtain ⟨n,e,_,_,_,hl⟩:=hl _ _ hr
      simp [execOp,hx,hl]
    · exact (Rn_fail.1 h).elim
  · rename_i t g i fs
    rw [Rn_get] at h
    split at h
    · rename_i g' hh e l hr
      rw [Rn_chk] at h
      have hg:g=g':=Nat.eq_of_beq_eq_true h.1
      subst hg
      refine snd_val O I h.2 hv hn ?_
      obtain ⟨cc,hx,v,rfl,_,_,hl⟩:=hv
      have hx:a.eval x=v:=hx
      obtain ⟨_,_,b,o,n,c,_,hl⟩:=hl _ _ _ hr
      simp [execOp,hx,hl]
    · exact (Rn_fail.1 h).elim
  · rename_i e y
    refine snd_val O I h hv hn ?_
    obtain ⟨cc,hx,b,o,arr,ty,fz,rfl,_⟩:=hv
    have hx:a.eval x=.pointer (some ⟨b,o,none⟩):=hx
    simp [execOp,hx]
  · rename_i A R y
    refine snd_val O I h hv hn ?_
    obtain ⟨cc,hx,f,fi,ca,rfl,_⟩:=hv
    have hx:a.eval x=.func (.func f) fi ca:=hx
    simp [execOp,hx]
  · exact (Rn_fail.1 h).elim
theorem snd_binOp (O:CfgOk C cf) {op:BinOp} {xt yt:TypeId} {x y:Operand}:Snd C cf ⟨dst,.binOp op xt x y yt,type,pos,after,guard⟩:=by
  intro st a w G us next Q I h hn
  simp only [exec] at h
  obtain ⟨v,hv,h⟩:=opd_run I h
  obtain ⟨u,hu,h⟩:=opd_run I h
  split at h
  · rename_i s t hs ht
    obtain ⟨S,p⟩:=s
    obtain ⟨T,q⟩:=t
    obtain ⟨c,hc,hc'⟩:=plain_val hs hv
    obtain ⟨d,hd,hd'⟩:=plain_val ht hu
    obtain ⟨r,c',h1,h2,h3⟩:=bin_run O.ty (x:=x) (y:=y) hc' hd' h
    refine snd_val O I h1 (SW_val h2) hn ?_
    simp only [execOp,hc,hd]
    have h3':(Sem.bind (eqGuard op xt x y (valOf S c) (valOf T d)) fun _=>binOp op xt (valOf S c) (valOf T d)).run C.P w=.ok (valOf r.1 c') w:=h3
    show (Sem.bind (Sem.bind (eqGuard op xt x y (valOf S c) (valOf T d)) fun _=>binOp op xt (valOf S c) (valOf T d)) fun z=>pure (Next.value z)).run C.P w=_
    rw [Sem_bind_run,h3'];rfl
  · exact (Rn_fail.1 h).elim
theorem snd_unOp (O:CfgOk C cf) {op:UnOp} {xt:TypeId} {x:Operand}:Snd C cf ⟨dst,.unOp op xt x,type,pos,after,guard⟩:=by
  intro st a w G us next Q I h hn
  simp only [exec] at h
  obtain ⟨v,hv,h⟩:=opd_run I h
  split at h
  · rename_i b
    have hx:=SW_bool hv
    split at h
    · exact snd_val O I h (SW_val (c:=[_]) rfl) hn (by simp [execOp,hx,Op.unary,valOf])
    · exact (Rn_fail.1 h).elim
  · rename_i k n
    have hx:=SW_int hv
    split at h
    · exact snd_val O I h (SW_val (c:=[_]) rfl) hn (by simp [execOp,hx,Op.unary,Op.intArith,valOf])
    · exact snd_val O I h (SW_val (c:=[_]) rfl) hn (by simp [execOp,hx,Op.unary,Op.intBits,valOf,bitI,gI_eq])
    · exact (Rn_fail.1 h).elim
  · exact (Rn_fail.1 h).elim
theorem list_nth {P:Program} {st:St} {G:Gh} {w:World} {S:Nat->Prop}:∀ (a:SV) {vs:List Value} (i:Nat) {v:SV},SX P st G w S a true vs->a.nth i=some v->∃ x,vs[i]?=some x/\SW P st G w S v x
  | .pair a b,vs,0,v,h,hn=>by
    obtain ⟨c,r,rfl,h1,_⟩:=h
    simp only [SV.nth,Option.some.injEq] at hn;subst hn
    exact ⟨_,rfl,SW_of h1⟩
  | .pair a b,vs,i + 1,v,h,hn=>by
    obtain ⟨c,r,rfl,_,h2⟩:=h
    simp only [SV.nth] at hn
    obtain ⟨x,h3,h4⟩:=list_nth b i h2 hn
    exact ⟨x,by simpa using h3,h4⟩
  | .val _ _,_,_,_,_,hn=>by simp [SV.nth] at hn
  | .nil,_,_,_,_,hn=>by simp [SV.nth] at hn
  | .ref _ _ _,_,_,_,_,hn=>by simp [SV.nth] at hn
  | .sub _ _ _ _ _ _,_,_,_,_,hn=>by simp [SV.nth] at hn
  | .vw _ _ _ _ _,_,_,_,_,hn=>by simp [SV.nth] at hn
  | .sap _ _ _ _ _ _ _ _,_,_,_,_,hn=>by simp [SV.nth] at hn
  | .mp _ _,_,_,_,_,hn=>by simp [SV.nth] at hn
  | .pel _ _ _ _,_,_,_,_,hn=>by simp [SV.nth] at hn
  | .pbx _ _ _,_,_,_,_,hn=>by simp [SV.nth] at hn
  | .pix _ _ _ _,_,_,_,_,hn=>by simp [SV.nth] at hn
  | .unit,_,_,_,_,hn=>by simp [SV.nth] at hn
  | .st _,_,_,_,_,hn=>by simp [SV.nth] at hn
  | .tup _,_,_,_,_,hn=>by simp [SV.nth] at hn
  | .clo _ _ _,_,_,_,_,hn=>by simp [SV.nth] at hn
theorem snd_extract (O:CfgOk C cf) {x:Operand} {i:Nat}:Snd C cf ⟨dst,.extract x i,type,pos,after,guard⟩:=by
  intro st a w G us next Q I h hn
  simp only [exec] at h
  obtain ⟨v,hv,h⟩:=opd_run I h
  split at h
  · rename_i t
    obtain ⟨vs,hx,hs⟩:=hv
    split at h
    · rename_i u hu
      obtain ⟨y,hy,hy'⟩:=list_nth t i hs hu
      exact snd_val O I h hy' hn (by simp [execOp,hx,Instr.extract,hy])
    · exact (Rn_fail.1 h).elim
  · obtain ⟨c,_,hc⟩:=hv
    unfold SX at hc;unfold RX at hc;exact hc.elim
  · exact (Rn_fail.1 h).elim
theorem SW_hasTy {P:Program} {st:St} {G:Gh} {w:World} {S:Nat->Prop} {v:SV} {T:Ty} {x:Value} (h:SW P st G w S v x) (ht:v.hasTy T=true):∃ c,x=valOf T c/\c.length=T.sz/\SX P st G w S v false c:=by
  obtain ⟨c,hx,hc⟩:=SW_cells h (fun b e=>by subst e;cases T <;> simp [SV.hasTy] at ht)
  exact ⟨c,by rw [hx,valS_res ht],SX_len v T ht hc,hc⟩
theorem snd_field (O:CfgOk C cf) {t:TypeId} {x:Operand} {i:Nat}:Snd C cf ⟨dst,.field t x i,type,pos,after,guard⟩:=by
  intro st a w G us next Q I h hn
  simp only [exec] at h
  obtain ⟨v,hv,h⟩:=opd_run I h
  split at h
  · rename_i f u hty hat
    rw [Rn_bif] at h
    rcases h with ⟨hht,h⟩ | ⟨_,h⟩
    · have ho:=O.ty _ _ hty
      obtain ⟨d,hd,hu⟩:=ho.und
      cases d <;> simp only [UnOk] at hu
      rename_i fs
      simp only [Bool.and_eq_true] at hht
      have hlt:i < f.len:=Nat.le_of_ble_eq_true hht.2
      have hht:=hht.1
      obtain ⟨c,hx,hl,hc⟩:=SW_hasTy hv hht
      obtain ⟨h1,h2⟩:=SX_atP [i] v (.st f) hht hc hat
      cases hf:fs[i]? with
      | none=>rw [Array.getElem?_eq_none_iff] at hf;omega
      | some F =>
        obtain ⟨h3,h4,h5⟩:=hu.2 _ _ hf
        have hp:=(O.ty _ _ h4)
        refine snd_val O I h (SW_of h2) hn ?_
        simp only [tyP,offP,Nat.add_zero] at h1 h2 ⊢
        rw [valS_res h1]
        have hpa:=hp.part (xs:=c.toArray) (o:=off f i) (c:=seg c (off f i) (fld f i).sz) (by simp) (SX_len u _ h1 h2) w
        simp only [execOp,hx,valOf]
        show (Sem.bind (Instr.field t (.agg c.toArray) i) fun z=>pure (Next.value z)).run C.P w=_
        rw [Sem_bind_run]
        have:(Instr.field t (.agg c.toArray) i).run C.P w=.ok (valOf (fld f i) (seg c (off f i) (fld f i).sz)) w:=by
          unfold Instr.field
          simp only [Sem.run_bind,run_underlying hd,Result.andThen_ok,hf,asAgg,h3]
          simpa using hpa
        rw [this];rfl
    · exact (Rn_fail.1 h).elim
  · exact (Rn_fail.1 h).elim
theorem SW_len {st:St} {a:Act} {w:World} {G:Gh} {α:Type} {u:α} (I:InvM C st w G) {v:SV} {x:Value} {f:Int->M α} (hv:SW C.P st G w (Fz st G w) v x) (h:Rn (lenM v f) st u) :
    ∃ n:Nat,Rn (f n) st u/\((∃ s:ByteArray,v=.val .str s/\x=.string s/\n=s.size)\/∃ b c,x=.slice b n c):=by
  unfold lenM at h
  split at h
  · exact ⟨_,h,.inl ⟨_,rfl,SW_str hv,rfl⟩⟩
  · obtain ⟨c,hx,a,n,c',rfl,hn,_⟩:=hv
    exact ⟨_,h,.inr ⟨a,c',by rw [hx,<-hn];rfl⟩⟩
  · obtain ⟨c,hx,hc⟩:=hv
    have:c=[.slice none 0 0]:=hc
    subst this
    exact ⟨0,h,.inr ⟨none,0,hx⟩⟩
  · rename_i t g e
    rw [Rn_get] at h
    split at h
    · rename_i g' hh e' l hr
      rw [Rn_chk] at h
      have hg:g=g':=Nat.eq_of_beq_eq_true h.1
      subst hg
      obtain ⟨c,hx,v,rfl,_,_,hl⟩:=hv
      have hx:x=v:=hx
      obtain ⟨rfl,_⟩:=hl _ _ _ hr
      refine ⟨_,h.2,.inr ?_⟩
      rcases I.rt _ _ _ _ _ hr with ⟨h1,h2,_⟩ | ⟨b,o,n,c,arr,ty,bss,h1,h2,h3,_⟩
      · have h2:l=[]:=h2
        subst h2
        exact ⟨none,0,by rw [hx];simpa using h1⟩
      · exact ⟨some ⟨b,o,none⟩,c,by rw [hx];have:n=l.length:=h3;rw [<-this];simpa using h1⟩
    · exact (Rn_fail.1 h).elim
  · rename_i t g h0 i fs e
    rw [Rn_get] at h
    split at h
    · rename_i g' h' e' l hr
      rw [Rn_chk,Bool.and_eq_true] at h
      have hg:g=g':=Nat.eq_of_beq_eq_true h.1.1
      have hh:h0=h':=Nat.eq_of_beq_eq_true h.1.2
      subst hg;subst hh
      have h2:=h.2
      obtain ⟨c,hx,v,rfl,_,_,_,hv⟩:=hv
      have hx:x=v:=hx
      obtain ⟨i0,i1,⟨y,hy⟩,b,o,n,c,arr,ty,fz,e1',e2',e3'⟩:=hv _ _ hr
      obtain ⟨b',o',n',c',arr',ty',bi,k1,k2,k3,k4,k5,k6,k7⟩:=root_elem I hr i0 i1
      rw [k1] at e1';simp only [Value.slice.injEq,Option.some.injEq,Addr.mk.injEq] at e1'
      obtain ⟨⟨rfl,rfl,_⟩,rfl,rfl⟩:=e1'
      rw [k2] at e2';simp only [Option.some.injEq,Obj.cells.injEq] at e2'
      obtain ⟨rfl,rfl,_⟩:=e2'
      obtain ⟨bs',p1,p2⟩:=TC_path fs e' k5
      rw [hy] at p1 h2
      simp only at h2
      refine ⟨_,h2,.inr ?_⟩
      have p1:TC (.sl e) w (seg (seg arr'.toList (o' + i.toNat * e'.sz) e'.sz) (offP fs e') 1) y bs':=p1
      have hle:=offP_le fs e'
      have hty:tyP fs e'=.sl e:=by rw [<-getP_ty fs e' (l.getD i.toNat (dflt e')),hy]
      rw [hty] at hle
      rw [seg_seg _ (show offP fs e' + 1<=e'.sz from hle),seg_one (by simpa using e3')] at p1
      rcases p1 with ⟨h1,h2,_⟩ | ⟨b,o,n,c,arr,ty,bss,h1,_,h3,_⟩
      · have h2:y=[]:=h2
        subst h2
        exact ⟨none,0,by rw [hx];simpa using h1⟩
      · exact ⟨some ⟨b,o,none⟩,c,by rw [hx];have:n=y.length:=h3;rw [<-this];simpa using h1⟩
    · exact (Rn_fail.1 h).elim
  · rename_i t g lo n e
    rw [Rn_get] at h
    split at h
    · rename_i g' h' e' l hr
      rw [Rn_chk] at h
      have hg:g=g':=Nat.eq_of_beq_eq_true h.1
      subst hg
      obtain ⟨c,hx,z,rfl,_,_,hl⟩:=hv
      obtain ⟨_,_,k1,_,aa,len,cap,aa',c',_,hz,_⟩:=hl _ _ _ hr
      refine ⟨n.toNat,by rw [Int.toNat_of_nonneg k1];exact h.2,.inr ⟨aa',c',?_⟩⟩
      rw [hx]
      show z=_
      exact hz
    · exact (Rn_fail.1 h).elim
  · exact (Rn_fail.1 h).elim
theorem optO_run {st:St} {a:Act} {w:World} {G:Gh} {α:Type} {u:α} (I:Inv C st a w G) {d:Int} {o:Option Operand} {f:Int->M α} (h:Rn (optO d o f) st u) :
    ∃ n,Rn (f n) st u/\((o=none/\n=d)\/∃ k x,o=some x/\a.eval x=.int k n):=by
  unfold optO at h
  split at h
  · exact ⟨d,h,.inl ⟨rfl,rfl⟩⟩
  · obtain ⟨v,hv,h⟩:=opd_run I h
    split at h
    · rename_i k n
      exact ⟨n,h,.inr ⟨k,_,rfl,SW_int hv⟩⟩
    · exact (Rn_fail.1 h).elim
theorem snd_index (O:CfgOk C cf) {t:TypeId} {x ix:Operand}:Snd C cf ⟨dst,.index t x ix,type,pos,after,guard⟩:=by
  intro st a w G us next Q I h hn
  simp only [exec] at h
  obtain ⟨v,hv,h⟩:=opd_run I h
  obtain ⟨u,hu,h⟩:=opd_run I h
  split at h
  · rename_i k i
    split at h
    · rename_i s hty _
      rw [Rn_chk] at h
      have hx:=SW_str hv
      have hi:=SW_int hu
      have hb:=h.1
      simp only [bnds,Bool.and_eq_true,decide_eq_true_eq] at hb
      refine snd_val O I h.2 (SW_val (c:=[_]) rfl) hn ?_
      obtain ⟨d,hd,hdu⟩:=(O.ty _ _ hty).und
      cases d <;> simp only [UnOk] at hdu
      have hlt:i.toNat < s.size:=by have:=hb.2;omega
      have hs:s[i.toNat]?=some s[i.toNat]:=by simp [hlt]
      have e:byteAt s i=(s[i.toNat].toNat:Int):=by
        unfold byteAt
        rw [show s.data.getD i.toNat 0=s[i.toNat] from by rw [Array.getD,dif_pos (show i.toNat < s.data.size from hlt)];rfl]
      simp [execOp,hx,hi,Instr.index,asIntOf,run_underlying hd,hb.1,hs,valOf,e]
    · exact (Rn_fail.1 h).elim
  · exact (Rn_fail.1 h).elim
theorem snd_makeFunc (O:CfgOk C cf) {f:FuncId} {fi ca:Array Operand}:Snd C cf ⟨dst,.makeFunc (.func f) fi ca,type,pos,after,guard⟩:=by
  intro st a w G us next Q I h hn
  simp only [exec] at h
  obtain ⟨v,hv,h⟩:=opds_run I h
  obtain ⟨u,hu,h⟩:=opds_run I h
  refine snd_val O I h (x:=.func (.func f) (fi.toList.map a.eval).toArray (ca.toList.map a.eval).toArray) ⟨[_],rfl,_,_,rfl,hv,hu⟩ hn ?_
  have e:∀ l:Array Operand,l.map a.eval=(l.toList.map a.eval).toArray:=fun l=>by apply Array.ext';simp
  simp only [execOp,e];rfl
theorem bytes_foldl:∀ (l:List Int) (s:ByteArray),l.foldl (fun r n=>r.push (UInt8.ofNat n.toNat)) s=⟨s.data ++ (l.map fun n=>UInt8.ofNat n.toNat).toArray⟩
  | [],s=>by simp
  | n :: l,s=>by
    rw [List.foldl_cons,bytes_foldl l]
    simp [ByteArray.push]
theorem bytesOf_foldl (l:List Int):l.foldl (fun r n=>r.push (UInt8.ofNat n.toNat)) ByteArray.empty=bytesOf l:=by
  rw [bytes_foldl];simp [bytesOf,ByteArray.empty,ByteArray.emptyWithCapacity];rfl
theorem snd_convert (O:CfgOk C cf) {src d:TypeId} {x:Operand}:Snd C cf ⟨dst,.convert src d x,type,pos,after,guard⟩:=by
  intro st a w G us next Q I h hn
  simp only [exec] at h
  obtain ⟨v,hv,h⟩:=opd_run I h
  split at h
  · rename_i k sT k' n hd hs
    have hx:=SW_int hv
    obtain ⟨ud,hud,hu⟩:=(O.ty _ _ hd).und
    obtain ⟨us',hus,_⟩:=(O.ty _ _ hs).und
    cases ud <;> simp only [UnOk] at hu
    subst hu
    rename_i k
    refine snd_val O I h (SW_val (c:=[_]) rfl) hn ?_
    have:(convert src d (.int k' n)).run C.P w=.ok (.int k (k.wrap n)) w:=by
      simp [convert,run_underlying hud,run_underlying hus,Conv.intToInt]
    simp only [execOp,hx]
    show (Sem.bind (convert src d (.int k' n)) fun z=>pure (Next.value z)).run C.P w=_
    rw [Sem_bind_run,this];rfl
  · rename_i s hd hs
    have hx:=SW_str hv
    obtain ⟨ud,hud,hu⟩:=(O.ty _ _ hd).und
    obtain ⟨us',hus,hu'⟩:=(O.ty _ _ hs).und
    cases ud <;> simp only [UnOk] at hu
    cases us' <;> simp only [UnOk] at hu'
    refine snd_val O I h (SW_val (c:=[_]) rfl) hn ?_
    have:(convert src d (.string s)).run C.P w=.ok (.string s) w:=by
      simp [convert,run_underlying hud,run_underlying hus]
    simp only [execOp,hx]
    show (Sem.bind (convert src d (.string s)) fun z=>pure (Next.value z)).run C.P w=_
    rw [Sem_bind_run,this];rfl
  · rename_i v hd hs
    obtain ⟨ud,hud,hu⟩:=(O.ty _ _ hd).und
    obtain ⟨us',hus,hu'⟩:=(O.ty _ _ hs).und
    cases ud <;> simp only [UnOk] at hu
    cases us' <;> simp only [UnOk] at hu'
    rename_i et
    obtain ⟨ue,hue,hu''⟩:=(TyOk.el O.ty hu').und
    cases ue <;> simp only [UnOk] at hu''
    subst hu''
    obtain ⟨c,hx,hc⟩:=SW_cells hv (fun b e=>by subst e;simp [res,Rn_fail] at h)
    obtain ⟨l,h1,h2,h3⟩:=res_run O I.toInvM 2 _ _ false h hc
    refine snd_val O I h2 (SW_val (c:=[_]) rfl) hn ?_
    have hx:a.eval x=valOf (.sl (.int .u8)) c:=by rw [hx,h3 rfl]
    obtain ⟨aa,n,cap,rfl,hn',hle,hr⟩:=h1
    have:(convert src d (a.eval x)).run C.P w=.ok (.string (bytesOf l)) w:=by
      rw [hx]
      simp only [valOf,List.headD_cons]
      have key:∀ ad:Addr,(∀ j v,(l.map (Value.int .u8))[j]?=some v->w.cell? (ad.add j)=some v)->(Conv.bytesToString (.slice (some ad) n cap)).run C.P w=.ok (.string (bytesOf l)) w:=by
        intro ad hc
        have h1:=run_loadCells_list (P:=C.P) w ad (l.map (Value.int .u8)) hc
        have hn'':n=l.length:=hn'
        rw [List.length_map,<-hn''] at h1
        rw [run_bytesToString w ad n cap l h1,bytesOf_foldl]
      have hcv:convert src d (.slice aa n cap)=convert src d (.slice aa n cap):=rfl
      rcases hr with hl | ⟨b,o,arr,ty,fz,rfl,hb,hh,ho,hel⟩
      · have hl:l=[]:=hl
        subst hl
        cases aa with
        | none=>simp [convert,run_underlying hud,run_underlying hus,run_underlying hue,Conv.bytesToString,bytesOf];rfl
        | some ad =>
          have:=key ad (fun j v hj=>by simp at hj)
          simp [convert,run_underlying hud,run_underlying hus,run_underlying hue,this]
      · have:=key ⟨b,o,none⟩ (fun j v hj=>by
          rw [List.getElem?_map,Option.map_eq_some_iff] at hj
          obtain ⟨m,hm,rfl⟩:=hj
          have:=hel j m hm
          have:seg arr.toList (o + j * 1) 1=[.int .u8 m]:=this
          rw [Nat.mul_one] at this
          have:=of_seg_one this
          rw [add_off,World.cell?,hh];simpa using this)
        simp [convert,run_underlying hud,run_underlying hus,run_underlying hue,this]
    simp only [execOp]
    show (Sem.bind (convert src d (a.eval x)) fun z=>pure (Next.value z)).run C.P w=_
    rw [Sem_bind_run,this];rfl
  · exact (Rn_fail.1 h).elim
end
end Go.Proofs.YtefmjjpdflpnaaaGreat.E
namespace Go.Proofs.YtefmjjpdflpnaaaGreat.E
open Go Go.RowKit
set_option linter.unusedVariables false
set_option linter.unusedSimpArgs false
theorem exec_value {P:Program} {w w':World} {s:Sem Value} {x:Value} (h:s.run P w=.ok x w'):(Sem.bind s fun z=>pure (Next.value z)).run P w=.ok (.value x) w':=by
  rw [Sem_bind_run,h];rfl
theorem sliceBound_run {P:Program} {w:World} {k:IntKind} {a:Int} {y:Nat} {code:BoundsCode} (h0:0<=a) (h1:a<=y):(Instr.sliceBound (.int k a) y code).run P w=.ok a.toNat w:=by
  simp [Instr.sliceBound,asIntOf,h0,h1]
theorem sliceBounds_run {P:Program} {w:World} {is:Bool} {len cap:Nat} {lo hi:Option Value} {a b:Int} (hlo:(lo=none/\a=0)\/∃ k,lo=some (.int k a)) (hhi:(hi=none/\b=len)\/∃ k,hi=some (.int k b))
    (h0:0<=a) (h1:a<=b) (h2:b<=len) (h3:len<=cap):(Instr.sliceBounds is len cap lo hi none).run P w=.ok (a.toNat,b.toNat,cap) w:=by
  have hb:b<=(cap:Int):=by omega
  have hab:a<=((b.toNat:Nat):Int):=by omega
  rcases hlo with ⟨rfl,rfl⟩ | ⟨k,rfl⟩ <;> rcases hhi with ⟨rfl,rfl⟩ | ⟨k',rfl⟩
  · simp [Instr.sliceBounds]
  · simp only [Instr.sliceBounds,Sem.run_bind,pure_run,Result.andThen_ok,sliceBound_run (show 0<=b by omega) hb];rfl
  · simp only [Instr.sliceBounds,Sem.run_bind,pure_run,Result.andThen_ok]
    have:=sliceBound_run (P:=P) (w:=w) (k:=k) (a:=a) (y:=len) (code:=.sliceB) h0 (by omega)
    simp only [Option.isSome_none,Bool.false_eq_true,if_false,this,Result.andThen_ok,pure_run];rfl
  · simp only [Instr.sliceBounds,Sem.run_bind,pure_run,Result.andThen_ok,sliceBound_run (show 0<=b by omega) hb]
    have:=sliceBound_run (P:=P) (w:=w) (k:=k) (a:=a) (y:=b.toNat) (code:=.sliceB) h0 (by omega)
    simp only [Option.isSome_none,Bool.false_eq_true,if_false,this,Result.andThen_ok,pure_run]
section
variable {C:Cx} {cf:Cfg} {dst:Option Tmp} {type:TypeId} {pos:String} {after:Array Edge} {guard:Option (Nat × Bool)}
theorem opt_ev {a:Act} {d n:Int} {o:Option Operand} (h:(o=none/\n=d)\/∃ k x,o=some x/\a.eval x=.int k n):((o.map a.eval)=none/\n=d)\/∃ k,o.map a.eval=some (.int k n):=by
  rcases h with ⟨rfl,rfl⟩ | ⟨k,x,rfl,hx⟩
  · exact .inl ⟨rfl,rfl⟩
  · exact .inr ⟨k,by simp [hx]⟩
theorem snd_slice (O:CfgOk C cf) {t:TypeId} {x:Operand} {lo hi:Option Operand}:Snd C cf ⟨dst,.slice t x lo hi none,type,pos,after,guard⟩:=by
  intro st a w G us next Q I h hn
  simp only [exec] at h
  obtain ⟨v,hv,h⟩:=opd_run I h
  split at h
  · rename_i s hty
    have hx:=SW_str hv
    obtain ⟨n,h,ho⟩:=optO_run I h
    obtain ⟨m,h,hp⟩:=optO_run I h
    unfold strSlice at h
    rw [Rn_chk] at h
    simp only [Bool.and_eq_true,decide_eq_true_eq] at h
    obtain ⟨ud,hud,hu⟩:=(O.ty _ _ hty).und
    cases ud <;> simp only [UnOk] at hu
    refine snd_val O I h.2 (SW_val (c:=[_]) rfl) hn ?_
    simp only [execOp,hx]
    refine exec_value ?_
    have hb:=sliceBounds_run (P:=C.P) (w:=w) (is:=false) (opt_ev ho) (opt_ev hp) h.1.1.1 h.1.1.2 h.1.2 (Nat.le_refl _)
    simp only [Instr.sliceAt,Sem.run_bind,run_underlying hud,Result.andThen_ok,Instr.slice,Option.isSome_none,Option.map_none,Bool.false_eq_true,if_false,hb]
    rfl
  · rename_i e E l hty
    split at h
    case isFalse=>exact (Rn_fail.1 h).elim
    rename_i e1;subst e1
    obtain ⟨n,h,ho⟩:=optO_run I h
    obtain ⟨m,h,hp⟩:=optO_run I h
    rw [Rn_chk] at h
    simp only [Bool.and_eq_true,decide_eq_true_eq] at h
    obtain ⟨ud,hud,hu⟩:=(O.ty _ _ hty).und
    cases ud <;> simp only [UnOk] at hu
    rename_i et
    obtain ⟨c,hx,aa,len,cap,rfl,hlen,hcap,hr⟩:=hv
    have hx:a.eval x=.slice aa len cap:=hx
    have hlen:len=l.length:=hlen
    have hb:=sliceBounds_run (P:=C.P) (w:=w) (is:=true) (len:=len) (cap:=cap) (opt_ev ho) (by have:=opt_ev hp;rw [hlen];exact this) h.1.1.1 h.1.1.2 (by rw [hlen];exact h.1.2) hcap
    have h1:=h.1.1.1
    have h2:=h.1.1.2
    have h3:m<=(l.length:Int):=h.1.2
    have hs:=sliceL_len l h1 h2 h3
    refine snd_val O I h.2 (SW_val (T:=.sl E) (c:=[.slice (if cap=n.toNat then aa else aa.map (·.add (n.toNat * E.sz))) (m.toNat - n.toNat) (cap - n.toNat)]) ?_) hn ?_
    · refine ⟨_,_,_,rfl,hs.symm,by omega,?_⟩
      rcases hr with hl | ⟨b,o,arr,ty,fz,rfl,hb',hh,ho',hel⟩
      · have hl:l=[]:=hl
        subst hl;left;simp [sliceL]
      · by_cases hz:m.toNat=n.toNat
        · left;apply List.length_eq_zero_iff.1
          have hs':List.length (sliceL l n m)=m.toNat - n.toNat:=hs
          rw [hs'];omega
        · right
          have hne:cap ≠ n.toNat:=by omega
          refine ⟨b,o + n.toNat * E.sz,arr,ty,fz,by rw [if_neg hne];simp [add_off],hb',hh,?_,fun i y hy=>?_⟩
          · have:n.toNat * E.sz + (m.toNat - n.toNat) * E.sz=m.toNat * E.sz:=by rw [<-Nat.add_mul];congr 1;omega
            have h5:m.toNat * E.sz<=len * E.sz:=Nat.mul_le_mul_right _ (by omega)
            omega
          · have:=hel (n.toNat + i) y (sliceL_get l hy)
            rw [Nat.add_mul] at this
            rw [Nat.add_assoc];exact this
    · simp only [execOp,hx]
      refine exec_value ?_
      have hz:=(TyOk.el O.ty hu).sizeOf w
      simp only [Instr.sliceAt,Sem.run_bind,run_underlying hud,Result.andThen_ok,Instr.slice,Option.map_none,hb,hz]
      rfl
  · rename_i e t0 g e0 hty
    rw [Rn_get] at h
    split at h
    case h_2=>exact (Rn_fail.1 h).elim
    rename_i g' h' e' l hr
    rw [Rn_bif] at h
    rcases h with ⟨he,h⟩ | ⟨_,h⟩
    case inr=>exact (Rn_fail.1 h).elim
    have he:=of_decide_eq_true he
    subst he
    rw [Rn_chk] at h
    obtain ⟨hg,h⟩:=h
    have hg:=Nat.eq_of_beq_eq_true hg
    subst hg
    obtain ⟨n,h,ho⟩:=optO_run I h
    obtain ⟨m,h,hp⟩:=optO_run I h
    rw [Rn_chk] at h
    simp only [Bool.and_eq_true,decide_eq_true_eq] at h
    obtain ⟨ud,hud,hu⟩:=(O.ty _ _ hty).und
    cases ud <;> simp only [UnOk] at hu
    rename_i et
    obtain ⟨c,hx,z,rfl,_,hgen,hz⟩:=hv
    obtain ⟨rfl,_⟩:=hz _ _ _ hr
    have hx:a.eval x=G.hd (rk t0):=hx
    obtain ⟨aa,len,cap,e1,hlen,hcap,hrx⟩:=fz_of_root I.toInvM hr
    have e1:G.hd (rk t0)=.slice aa len cap:=by simpa using e1
    rw [e1] at hx
    have hlen:len=l.length:=hlen
    have hb:=sliceBounds_run (P:=C.P) (w:=w) (is:=true) (len:=len) (cap:=cap) (opt_ev ho) (by have:=opt_ev hp;rw [hlen];exact this) h.1.1.1 h.1.1.2 (by rw [hlen];exact h.1.2) hcap
    have h1:=h.1.1.1
    have h2:=h.1.1.2
    have h3:m<=(l.length:Int):=h.1.2
    refine snd_val (x:=.slice (if cap=n.toNat then aa else aa.map (·.add (n.toNat * e'.sz))) (m.toNat - n.toNat) (cap - n.toNat)) O I h.2 ⟨[.slice (if cap=n.toNat then aa else aa.map (·.add (n.toNat * e'.sz))) (m.toNat - n.toNat) (cap - n.toNat)],rfl,_,rfl,rfl,hgen,fun h2' e2 l2 hr2=>?_⟩ hn ?_
    · rw [hr] at hr2;cases hr2
      refine ⟨rfl,h1,by omega,by omega,aa,len,cap,_,cap - n.toNat,e1,by congr 1;omega,by omega,?_⟩
      by_cases hz0:(m - n).toNat=0
      · exact .inl hz0
      · right
        rcases hrx with hl | ⟨b,o,arr,ty,fz,rfl,_⟩
        · have hl:l=[]:=hl
          subst hl;simp at h3;omega
        · exact ⟨b,o,rfl,by rw [if_neg (by omega)];simp [add_off]⟩
    · simp only [execOp,hx]
      refine exec_value ?_
      have hz:=(TyOk.el O.ty hu).sizeOf w
      simp only [Instr.sliceAt,Sem.run_bind,run_underlying hud,Result.andThen_ok,Instr.slice,Option.map_none,hb,hz]
      rfl
  · exact (Rn_fail.1 h).elim
theorem min_run {P:Program} {w:World} {k:IntKind}:∀ (l:List Int) (x:Int),(List.foldlM Builtin.min2 (Value.int k x) (l.map (Value.int k)):Sem Value).run P w=.ok (.int k (minL x l)) w
  | [],x=>rfl
  | y :: l,x=>by
    rw [List.map_cons,List.foldlM_cons]
    show (Sem.bind (Builtin.min2 (.int k x) (.int k y)) fun z=>List.foldlM Builtin.min2 z (l.map (Value.int k))).run P w=_
    rw [Sem_bind_run]
    exact min_run l _
theorem max_run {P:Program} {w:World} {k:IntKind}:∀ (l:List Int) (x:Int),(List.foldlM Builtin.max2 (Value.int k x) (l.map (Value.int k)):Sem Value).run P w=.ok (.int k (maxL x l)) w
  | [],x=>rfl
  | y :: l,x=>by
    rw [List.map_cons,List.foldlM_cons]
    show (Sem.bind (Builtin.max2 (.int k x) (.int k y)) fun z=>List.foldlM Builtin.max2 z (l.map (Value.int k))).run P w=_
    rw [Sem_bind_run]
    exact max_run l _
theorem intsOf_sx {P:Program} {st:St} {G:Gh} {w:World} {S:Nat->Prop} {k:IntKind}:∀ (v:SV) {l:List Int} {vs:List Value},intsOf k v=some l->SX P st G w S v true vs->vs=l.map (Value.int k)
  | .unit,l,vs,h,hs=>by
    simp only [intsOf,Option.some.injEq] at h;subst h
    exact hs
  | .pair a b,l,vs,h,hs=>by
    obtain ⟨c,r,rfl,h1,h2⟩:=hs
    unfold intsOf at h
    split at h
    · rename_i e;cases e
    · rename_i k' x b' e
      injection e with e1 e2
      subst e1;subst e2
      split at h
      · rename_i e;subst e
        rw [Option.map_eq_some_iff] at h
        obtain ⟨l',hl',rfl⟩:=h
        rw [intsOf_sx b hl' h2]
        have:c=[.int _ x]:=h1
        subst this;rfl
      · cases h
    · cases h
  | .val _ _,_,_,h,_=>by simp [intsOf] at h
  | .nil,_,_,h,_=>by simp [intsOf] at h
  | .ref _ _ _,_,_,h,_=>by simp [intsOf] at h
  | .sub _ _ _ _ _ _,_,_,h,_=>by simp [intsOf] at h
  | .vw _ _ _ _ _,_,_,h,_=>by simp [intsOf] at h
  | .sap _ _ _ _ _ _ _ _,_,_,h,_=>by simp [intsOf] at h
  | .mp _ _,_,_,h,_=>by simp [intsOf] at h
  | .pel _ _ _ _,_,_,h,_=>by simp [intsOf] at h
  | .pbx _ _ _,_,_,h,_=>by simp [intsOf] at h
  | .pix _ _ _ _,_,_,h,_=>by simp [intsOf] at h
  | .st _,_,_,h,_=>by simp [intsOf] at h
  | .tup _,_,_,h,_=>by simp [intsOf] at h
  | .clo _ _ _,_,_,h,_=>by simp [intsOf] at h
theorem offP_snoc:∀ (fs:List Nat) (T f:Ty) (n:Nat),tyP fs T=.st f->offP (fs ++ [n]) T=offP fs T + off f n/\tyP (fs ++ [n]) T=fld f n
  | [],T,f,n,h=>by simp only [tyP] at h;subst h;simp [offP,tyP]
  | m :: r,.st F,f,n,h=>by
    obtain ⟨h1,h2⟩:=offP_snoc r (fld F m) f n h
    simp only [List.cons_append,offP,tyP]
    exact ⟨by rw [h1];omega,h2⟩
  | _ :: _,.int _,_,_,h=>by simp [tyP] at h
  | _ :: _,.bool,_,_,h=>by simp [tyP] at h
  | _ :: _,.str,_,_,h=>by simp [tyP] at h
  | _ :: _,.unit,_,_,h=>by simp [tyP] at h
  | _ :: _,.pair _ _,_,_,h=>by simp [tyP] at h
  | _ :: _,.tup _,_,_,h=>by simp [tyP] at h
  | _ :: _,.sl _,_,_,h=>by simp [tyP] at h
  | _ :: _,.arr _ _,_,_,h=>by simp [tyP] at h
  | _ :: _,.ptr _,_,_,h=>by simp [tyP] at h
  | _ :: _,.fn _ _,_,_,h=>by simp [tyP] at h
theorem fieldAt_run {P:Program} {ty:Nat->Option Ty} (hO:∀ t T,ty t=some T->TyOk P ty t T) {w:World} {t:Nat} {f:Ty} {n:Nat} (ht:ty t=some (.st f)) (hn:n < f.len) (hz:0 < (fld f n).sz) {b o:Nat} :
    (Instr.fieldAt t (.pointer (some ⟨b,o,none⟩)) n).run P w=.ok (.pointer (some ⟨b,o + off f n,none⟩)) w:=by
  obtain ⟨ud,hud,hu⟩:=(hO _ _ ht).und
  cases ud <;> simp only [UnOk] at hu
  rename_i fs
  cases hf:fs[n]? with
  | none=>rw [Array.getElem?_eq_none_iff] at hf;omega
  | some F =>
    obtain ⟨h1,h2,h3⟩:=hu.2 _ _ hf
    have hs:=(hO _ _ h2).sizeOf w
    unfold Instr.fieldAt
    simp only [Sem.run_bind,run_underlying hud,Result.andThen_ok,hf,Instr.sureAddr,fieldPlace,pure_run,hs]
    rw [if_neg (by omega),h1,pure_run,add_off];rfl
theorem snd_fieldAddr (O:CfgOk C cf) {t:TypeId} {x:Operand} {n:Nat}:Snd C cf ⟨dst,.fieldAddr t x n,type,pos,after,guard⟩:=by
  intro st a w G us next Q I h hn
  simp only [exec] at h
  obtain ⟨v,hv,h⟩:=opd_run I h
  split at h
  case h_2=>exact (Rn_fail.1 h).elim
  rename_i f hty
  rw [Rn_bif] at h
  rcases h with ⟨hb,h⟩ | ⟨_,h⟩
  case inr=>exact (Rn_fail.1 h).elim
  simp only [Bool.and_eq_true] at hb
  have hlt:n < f.len:=Nat.le_of_ble_eq_true hb.1
  have hz:0 < (fld f n).sz:=Nat.le_of_ble_eq_true hb.2
  split at h
  · rename_i b g fs
    rw [Rn_get] at h
    split at h
    · rename_i g' B c hr
      rw [Rn_chk] at h
      have hg:g=g':=Nat.eq_of_beq_eq_true h.1
      subst hg
      have h2:=h.2
      rw [Rn_bif] at h2
      rcases h2 with ⟨hd,h2⟩ | ⟨_,h2⟩
      · have hd:=of_decide_eq_true hd
        obtain ⟨p1,p2⟩:=offP_snoc fs B f n hd
        obtain ⟨cc,hx,v,rfl,_,hgen,hl⟩:=hv
        have hx:a.eval x=v:=hx
        have hl:=hl _ _ hr
        refine snd_val O I h2 (x:=.pointer (some ⟨G.bx (bk b),offP fs B + off f n,none⟩)) ⟨[_],rfl,_,rfl,rfl,hgen,fun T c hr'=>?_⟩ hn ?_
        · rw [hr] at hr';cases hr';rw [p1]
        · simp only [execOp,hx,hl];exact exec_value (fieldAt_run O.ty hty hlt hz)
      · exact (Rn_fail.1 h2).elim
    · exact (Rn_fail.1 h).elim
  · rename_i s g i fs
    rw [Rn_get] at h
    split at h
    · rename_i g' hh e l hr
      rw [Rn_chk] at h
      have hg:g=g':=Nat.eq_of_beq_eq_true h.1
      subst hg
      have h2:=h.2
      rw [Rn_bif] at h2
      rcases h2 with ⟨hd,h2⟩ | ⟨_,h2⟩
      · have hd:=of_decide_eq_true hd
        obtain ⟨p1,p2⟩:=offP_snoc fs e f n hd
        obtain ⟨cc,hx,v,rfl,_,hgen,hl⟩:=hv
        have hx:a.eval x=v:=hx
        obtain ⟨i0,i1,b,o,m,cp,e1,rfl⟩:=hl _ _ _ hr
        refine snd_val O I h2 (x:=.pointer (some ⟨b,o + i.toNat * e.sz + offP fs e + off f n,none⟩)) ⟨[_],rfl,_,rfl,rfl,hgen,fun h' e' l' hr'=>?_⟩ hn ?_
        · rw [hr] at hr';cases hr'
          exact ⟨i0,i1,b,o,m,cp,e1,by rw [p1];simp only [Nat.add_assoc]⟩
        · simp only [execOp,hx];exact exec_value (fieldAt_run O.ty hty hlt hz)
      · exact (Rn_fail.1 h2).elim
    · exact (Rn_fail.1 h).elim
  · rename_i F y
    split at h
    · rename_i e;subst e
      obtain ⟨cc,hx,b,o,arr,ty,fz,rfl,hb',hh,ho,hr⟩:=hv
      have hx:a.eval x=.pointer (some ⟨b,o,none⟩):=hx
      have hle:=off_le F n
      have ho:o + F.sz<=arr.size:=ho
      have hr:RX C.P F false w (Fz st G w) (seg arr.toList o F.sz) y:=hr
      have h1:=RX_fld F n hr
      rw [seg_seg _ hle] at h1
      refine snd_val O I h (SW_val (T:=.ptr (fld F n)) (c:=[.pointer (some ⟨b,o + off F n,none⟩)]) ⟨b,o + off F n,arr,ty,fz,rfl,hb',hh,by omega,h1⟩) hn ?_
      simp only [execOp,hx];exact exec_value (fieldAt_run O.ty hty hlt hz)
    · exact (Rn_fail.1 h).elim
  · exact (Rn_fail.1 h).elim
theorem indexAt_slice {P:Program} {ty:Nat->Option Ty} (hO:∀ t T,ty t=some T->TyOk P ty t T) {w:World} {t:Nat} {e:Ty} (ht:ty t=some (.sl e)) {k:IntKind} {i:Int} {b o n c:Nat} (h0:0<=i) (h1:i < (n:Int)) :
    (Instr.indexAt t (.slice (some ⟨b,o,none⟩) n c) (.int k i)).run P w=.ok (.pointer (some ⟨b,o + i.toNat * e.sz,none⟩)) w:=by
  obtain ⟨ud,hud,hu⟩:=(hO _ _ ht).und
  cases ud <;> simp only [UnOk] at hu
  have hs:=(TyOk.el hO hu).sizeOf w
  unfold Instr.indexAt
  simp only [asIntOf,Sem.run_bind,pure_run,Result.andThen_ok,run_underlying hud,h0,h1,and_self,if_true,hs,add_off]
theorem indexAt_array {P:Program} {ty:Nat->Option Ty} (hO:∀ t T,ty t=some T->TyOk P ty t T) {w:World} {t:Nat} {e:Ty} {n:Nat} (ht:ty t=some (.arr n e)) {k:IntKind} {i:Int} {b o:Nat} (h0:0<=i) (h1:i < (n:Int)) :
    (Instr.indexAt t (.pointer (some ⟨b,o,none⟩)) (.int k i)).run P w=.ok (.pointer (some ⟨b,o + i.toNat * e.sz,none⟩)) w:=by
  obtain ⟨ud,hud,hu⟩:=(hO _ _ ht).und
  cases ud <;> simp only [UnOk] at hu
  obtain ⟨rfl,hu⟩:=hu
  have hs:=(hO _ _ hu).sizeOf w
  unfold Instr.indexAt
  simp only [asIntOf,Sem.run_bind,pure_run,Result.andThen_ok,run_underlying hud,Instr.sureAddr,h0,h1,and_self,if_true,hs,add_off]
theorem snd_indexAddr (O:CfgOk C cf) {t:TypeId} {x ix:Operand}:Snd C cf ⟨dst,.indexAddr t x ix,type,pos,after,guard⟩:=by
  intro st a w G us next Q I h hn
  simp only [exec] at h
  obtain ⟨v,hv,h⟩:=opd_run I h
  obtain ⟨u,hu,h⟩:=opd_run I h
  split at h
  case h_2=>exact (Rn_fail.1 h).elim
  rename_i k i
  have hi:=SW_int hu
  split at h
  · rename_i e E l hty _
    split at h
    case isFalse=>exact (Rn_fail.1 h).elim
    rename_i e1;subst e1
    rw [Rn_chk] at h
    have hb:=h.1
    simp only [bnds,Bool.and_eq_true,decide_eq_true_eq] at hb
    obtain ⟨cc,hx,aa,n,c,rfl,hlen,hcap,hr⟩:=hv
    have hx:a.eval x=.slice aa n c:=hx
    have hlen:n=l.length:=hlen
    have hi0:=hb.1
    have hi1:i < (l.length:Int):=hb.2
    rcases hr with hl | ⟨b,o,arr,ty,fz,rfl,hb',hh,ho,hel⟩
    · have hl:l=[]:=hl
      subst hl
      exact absurd (Int.lt_of_le_of_lt hi0 hi1:(0:Int) < 0) (by decide)
    · have hlt:i.toNat < l.length:=by omega
      have he:=hel i.toNat _ (show l[i.toNat]?=some (l.getD i.toNat (dflt E)) by simp [hlt])
      have hm:(i.toNat + 1) * E.sz<=n * E.sz:=Nat.mul_le_mul_right _ (by omega)
      rw [Nat.succ_mul] at hm
      refine snd_val O I h.2 (SW_val (T:=.ptr E) (c:=[.pointer (some ⟨b,o + i.toNat * E.sz,none⟩)]) ⟨b,_,arr,ty,fz,rfl,hb',hh,by omega,he⟩) hn ?_
      simp only [execOp,hx,hi];exact exec_value (indexAt_slice O.ty hty hi0 (by omega))
  · rename_i e s g e0 hty _
    rw [Rn_get] at h
    split at h
    · rename_i g' hh e' l hr
      rw [Rn_bif] at h
      rcases h with ⟨hd,h⟩ | ⟨_,h⟩
      · have hd:=of_decide_eq_true hd
        subst hd
        rw [Rn_chk,Rn_chk] at h
        have hg:g=g':=Nat.eq_of_beq_eq_true h.1
        subst hg
        have hb:=h.2.1
        simp only [bnds,Bool.and_eq_true,decide_eq_true_eq] at hb
        obtain ⟨cc,hx,v,rfl,_,hgen,hl⟩:=hv
        have hx:a.eval x=v:=hx
        obtain ⟨rfl,_⟩:=hl _ _ _ hr
        obtain ⟨b,o,n,c,arr,ty,bi,k1,k2,k3,k4,k5,k6,k7⟩:=root_elem I.toInvM hr hb.1 hb.2
        refine snd_val O I h.2.2 (x:=.pointer (some ⟨b,o + i.toNat * e'.sz,none⟩)) ⟨[_],rfl,_,rfl,rfl,hgen,fun h' e'' l' hr'=>?_⟩ hn ?_
        · rw [hr] at hr';cases hr'
          exact ⟨hb.1,hb.2,b,o,n,c,k1,by simp [offP]⟩
        · simp only [execOp,hx,hi,k1];exact exec_value (indexAt_slice O.ty hty hb.1 (by rw [k4];exact hb.2))
      · exact (Rn_fail.1 h).elim
    · exact (Rn_fail.1 h).elim
  · rename_i e s g lo n0 e0 hty _
    rw [Rn_get] at h
    split at h
    · rename_i g' hh e' l hr
      rw [Rn_bif] at h
      rcases h with ⟨hd,h⟩ | ⟨_,h⟩
      · have hd:=of_decide_eq_true hd
        subst hd
        rw [Rn_chk,Rn_chk] at h
        have hg:g=g':=Nat.eq_of_beq_eq_true h.1
        subst hg
        have hb:=h.2.1
        simp only [bnds,Bool.and_eq_true,decide_eq_true_eq] at hb
        obtain ⟨cc,hx,v,rfl,_,hgen,hl⟩:=hv
        have hx:a.eval x=v:=hx
        obtain ⟨e9,l1,l2,l3,aa,len,cap,aa',c',e1,rfl,hc,hz⟩:=hl _ _ _ hr
        obtain ⟨b,o,n,c,arr,ty,bi,k1,k2,k3,k4,k5,k6,k7⟩:=root_elem I.toInvM hr (i:=lo + i) (by omega) (by omega)
        have hi0:=hb.1
        have hi1:=hb.2
        rcases hz with hz | ⟨b2,o2,e2,e3⟩
        · omega
        · rw [k1] at e1
          simp only [Value.slice.injEq] at e1
          obtain ⟨e4,_,_⟩:=e1
          rw [<-e4] at e2
          simp only [Option.some.injEq,Addr.mk.injEq,and_true] at e2
          obtain ⟨rfl,rfl⟩:=e2
          rw [<-e9] at e3;subst e3
          have ht:(lo + i).toNat=lo.toNat + i.toNat:=by omega
          have ho:o + lo.toNat * e'.sz + i.toNat * e'.sz=o + (lo + i).toNat * e'.sz:=by rw [ht,Nat.add_mul,Nat.add_assoc]
          refine snd_val O I h.2.2 (x:=.pointer (some ⟨b,o + (lo + i).toNat * e'.sz,none⟩)) ⟨[_],rfl,_,rfl,rfl,hgen,fun h' e'' l' hr'=>?_⟩ hn ?_
          · rw [hr] at hr';cases hr'
            exact ⟨by omega,by omega,b,o,n,c,k1,by simp [offP]⟩
          · simp only [execOp,hx,hi]
            rw [<-ho]
            exact exec_value (indexAt_slice O.ty hty hb.1 (by rw [Int.toNat_of_nonneg l2];exact hi1))
      · exact (Rn_fail.1 h).elim
    · exact (Rn_fail.1 h).elim
  · rename_i n e b g fs hty _
    rw [Rn_get] at h
    split at h
    · rename_i g' B c hr
      rw [Rn_chk] at h
      have hg:g=g':=Nat.eq_of_beq_eq_true h.1
      subst hg
      have h2:=h.2
      rw [Rn_bif] at h2
      rcases h2 with ⟨hd,h2⟩ | ⟨_,h2⟩
      · have hd:=of_decide_eq_true hd
        rw [Rn_chk] at h2
        have hb:=h2.1
        simp only [bnds,Bool.and_eq_true,decide_eq_true_eq] at hb
        obtain ⟨cc,hx,v,rfl,_,hgen,hl⟩:=hv
        have hx:a.eval x=v:=hx
        have hl:=hl _ _ hr
        refine snd_val O I h2.2 (x:=.pointer (some ⟨G.bx (bk b),offP fs B + i.toNat * e.sz,none⟩)) ⟨[_],rfl,_,rfl,rfl,hgen,fun T c hr'=>?_⟩ hn ?_
        · rw [hr] at hr';cases hr'
          exact ⟨n,e,hd,hb.1,hb.2,rfl⟩
        · simp only [execOp,hx,hi,hl];exact exec_value (indexAt_array O.ty hty hb.1 hb.2)
      · exact (Rn_fail.1 h2).elim
    · exact (Rn_fail.1 h).elim
  · exact (Rn_fail.1 h).elim
end
end Go.Proofs.YtefmjjpdflpnaaaGreat.E
